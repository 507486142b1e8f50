/- Part 1 of the proof: La8, LaN, LaZ, LaU, La9, La10, La11, La12, La13, La14, La15, LaF, LaE. By an AI agent. -/
import Derived.Test.YtjfodgdlgohioaaGreatDoorP0
import Derived.Deep.AppendSrc
import Derived.Deep.Upon
import Derived.Lib.UnsafeStr
import Derived.RangeFuncCalls
import Derived.OrdersIn
import Derived.RangeFuncIn
import Derived.RangeFuncLeaves
import Derived.Scope
set_option linter.all false
/- Layer A, part 8: the operations that make or write, and calls. -/
namespace Go.La
open Go Go.RowKit

variable {P : Program} {ty : TT}

/-- What becomes of what an operation, or a call, comes to first. -/
def NextOk (P : Program) (post : Value → World → Prop) : Result Next → Prop
  | .ok (.value v) w => post v w
  | .ok .skip w => post undef w
  | .ok (.enter f args) w => CallsIn Fence.wide 0 P f args w fun e w' => ∃ v, e = .returned v ∧ post v w'
  | .ok (.round l f tmps assign body) w => RoundIn Fence.wide 0 P l f tmps assign body w fun e w' => ∃ v, e = .returned v ∧ post v w'
  | _ => False
theorem NextOk.mono {post post' : Value → World → Prop} {r : Result Next} (h : NextOk P post r) (hp : ∀ v w, post v w → post' v w) : NextOk P post' r := by
  unfold NextOk at *
  split at h
  · exact hp _ _ h
  · exact hp _ _ h
  · exact h.mono fun e w' ⟨v, a, b⟩ => ⟨v, a, hp _ _ b⟩
  · exact h.mono fun e w' ⟨v, a, b⟩ => ⟨v, a, hp _ _ b⟩
  · exact h.elim

/-- What is said of an end, in the abstract. -/
def Post (m : Mp) (h : AH) (w : World) (R : AV → AH → Prop) : Value → World → Prop :=
  fun v' w' => ∃ m' h' v, Sim m' h' w' ∧ Steps m h w m' h' w' ∧ VRel m' v v' ∧ R v h'

/-- A call of a function value. -/
def ACall (P : Program) (F : AV) (args : List AV) (h : AH) (R : AV → AH → Prop) : Prop :=
  ∀ (m : Mp) (w : World) (F' : Value) (args' : List Value), Sim m h w → VRel m F F' → VsRel m args args' →
    NextOk P (Post m h w R) ((do let d ← Deferred.ofValue F' args'.toArray; invoke d.target d.args : Sem Next).run P w)
theorem ACall.mono {F : AV} {args : List AV} {h : AH} {R R' : AV → AH → Prop} (hc : ACall P F args h R) (hr : ∀ v h', R v h' → R' v h') : ACall P F args h R' :=
  fun m w F' args' s hF ha => (hc m w F' args' s hF ha).mono fun _ _ ⟨m', h', u, a, b, c, d⟩ => ⟨m', h', u, a, b, c, hr _ _ d⟩

def oneThen : List AV → Prop → Prop
  | [], K => K
  | .agg _ :: _, _ => False
  | .tuple _ :: _, _ => False
  | .dead :: _, _ => False
  | .anyptr :: _, _ => False
  | _ :: r, K => oneThen r K
theorem oneThen_iff : ∀ {l : List AV} {K : Prop}, oneThen l K ↔ (∀ v ∈ l, v.one = true) ∧ K
  | [], K => by simp [oneThen]
  | v :: r, K => by cases v <;> simp [oneThen, AV.one, oneThen_iff (l := r)]

/-- The cells of a value of a type, if it is of that size. -/
def cellsThen (agg : Bool) (n : Nat) (v : AV) (K : List AV → Prop) : Prop :=
  match agg, v with
  | true, .agg l => bif Nat.beq l.length n then oneThen l (K l) else False
  | false, v => bif Nat.beq 1 n then oneThen [v] (K [v]) else False
  | _, _ => False
theorem cellsThen_ok {agg : Bool} {n : Nat} {v : AV} {K : List AV → Prop} (h : cellsThen agg n v K) : ∃ l, K l ∧ l.length = n ∧ (∀ x ∈ l, x.one = true) ∧ ∀ (m : Mp) (v' : Value), VRel m v v' → VsRel m l v'.cells.toList ∧ v'.cells.size = n := by
  unfold cellsThen at h
  split at h
  · rename_i l
    cases hb : Nat.beq l.length n with
    | false => simp [hb] at h
    | true =>
      have := Nat.eq_of_beq_eq_true hb; subst this
      simp only [hb, cond_true] at h
      rw [oneThen_iff] at h
      refine ⟨l, h.2, rfl, h.1, fun m v' hr => ?_⟩
      cases hr with | agg _ a ha => exact ⟨ha, by show a.size = l.length; simpa using ha.length.symm⟩
  · cases hb : Nat.beq 1 n with
    | false => simp [hb] at h
    | true =>
      have := Nat.eq_of_beq_eq_true hb; subst this
      simp only [hb, cond_true] at h
      rw [oneThen_iff] at h
      refine ⟨[v], h.2, rfl, h.1, fun m v' hr => ?_⟩
      have ho : v.one = true := h.1 v (by simp)
      have hc := hr.cellsA (.inl ho)
      have hv : v.cellsA = [v] := by cases v <;> simp [AV.one] at ho <;> rfl
      rw [hv] at hc
      exact ⟨hc, by have := hc.length; simp at this; omega⟩
  · exact h.elim


def appendTo (h : AH) (p : Option Pt) (len sz el k : Nat) (ys : List AV) (K : AV → AH → Prop) : Prop :=
  len + k < 2 ^ 32 ∧
  bif Nat.beq k 0 then K (.slice p len sz) h else
  match p with
  | none => K (.slice (some ⟨h.next, 0⟩) k sz) (h.new (.cells false 0 ⟨el, false, true⟩ ys))
  | some a => ∃ fz wh cl c, h.get a.b = some (.cells false fz ⟨el, wh, cl⟩ c) ∧ a.o + len * sz ≤ c.length ∧ fz ≤ a.o + len * sz ∧
      K (.slice (some ⟨h.next, 0⟩) (len + k) sz) ((h.set a.b none).new (.cells false (fz - a.o) ⟨el, false, cl && Nat.beq a.o 0⟩ ((c.drop a.o).take (len * sz) ++ ys)))

def appendW (ty : TT) (t : TypeId) (x y : AV) (h : AH) (K : AV → AH → Prop) : Prop :=
  match ty.find t, x, y with
  | some (.plain false _ (.slice esz el)), .slice p len sz, .slice q k sz' =>
    bif Nat.beq esz sz && Nat.beq sz sz' then ∃ ys, SlAt h q (k * sz) ys ∧ appendTo h p len sz el k ys K else False
  | some (.plain false _ (.slice esz el)), .slice p len sz, .str s =>
    bif Nat.beq esz 1 && Nat.beq sz 1 then appendTo h p len sz el s.length (s.map byteA) K else False
  | _, _, _ => False

/-- Is the type that of a slice, or a text? -/
def noInt (ty : TT) (t : TypeId) : Bool := match ty.find t with | some (.plain false [.slice _] _) => true | some (.plain false [.str] _) => true | _ => false

/-- The value that a call hands back, of its type. -/
def encRes : List (Bool × List K1) → Type
  | [] => Unit
  | (_, ks) :: r => Tup ks × encRes r
def resVals : (l : List (Bool × List K1)) → encRes l → List AV
  | [], _ => []
  | (agg, ks) :: r, x => mkv agg (encTup ks x.1) :: resVals r x.2
def resW (ty : TT) (t : TypeId) (v : AV) (K : AV → Prop) : Prop :=
  match ty.find t with
  | some (.plain agg ks _) => ∃ x : Tup ks, v = mkv agg (encTup ks x) ∧ K (mkv agg (encTup ks x))
  | some (.tuple l) => ∃ x : encRes l, v = .tuple (resVals l x) ∧ K (.tuple (resVals l x))
  | some .uptr => K v
  | none => K .dead

/-- Arguments of a call. -/
def argsE (ty : TT) (e : Operand → AV) : List Operand → List TypeId → List AV
  | [], _ => []
  | x :: r, [] => e x :: argsE ty e r []
  | x :: r, t :: s => nilOr ty t x (e x) :: argsE ty e r s
theorem argsE_rel {m : Mp} {e : Operand → AV} {ρ : Operand → Value} : ∀ (l : List Operand) (ts : List TypeId), (∀ x ∈ l, VRel m (e x) (ρ x)) → VsRel m (argsE ty e l ts) (l.map ρ)
  | [], _, _ => .nil
  | x :: r, [], h => .cons _ _ _ _ (h x (by simp)) (argsE_rel r [] fun y hy => h y (by simp [hy]))
  | x :: r, t :: s, h => .cons _ _ _ _ (nilOr_rel (h x (by simp))) (argsE_rel r s fun y hy => h y (by simp [hy]))

def heavyW (P : Program) (ty : TT) (o : Op) (oty : TypeId) (e : Operand → AV) (h : AH) (K : AV → AH → Prop) : Prop :=
  match o with
  | .alloc t =>
    match ty.find t with
    | some (.plain _ ks _) => K (.ptr (some ⟨h.next, 0⟩)) (h.new (.cells false 0 ⟨t, true, true⟩ (ks.map K1.zero)))
    | _ => False
  | .box t x =>
    match ty.find t with
    | some (.plain agg ks _) => cellsThen agg ks.length (e x) fun l => K (.ptr (some ⟨h.next, 0⟩)) (h.new (.cells false 0 ⟨t, true, true⟩ l))
    | _ => False
  | .buildSlice t n ps =>
    match ty.find t with
    | some (.plain _ _ (.slice esz el)) =>
      match ty.find el with
      | some (.plain _ ks _) =>
        let l := ps.toList.map fun (i, x) => (i, e x)
        bif Nat.ble (n * esz) 16777216 && Nat.beq ks.length esz && goodParts l then
          match fillA (fun i => some (i * esz, esz)) ((List.replicate n (ks.map K1.zero)).flatten) l with
          | some r => oneThen r (K (.slice (some ⟨h.next, 0⟩) n esz) (h.new (.cells false 0 ⟨el, false, true⟩ r)))
          | none => False
        else False
      | _ => False
    | _ => False
  | .store t p x =>
    match ty.find t with
    | some (.plain agg ks _) => cellsThen agg ks.length (e x) fun l =>
      match e p with
      | .ptr q => needSome q fun a => ∃ h', h.wr a l = some h' ∧ K .dead h'
      | .anyptr => bif Nat.beq ks.length 0 then K .dead h else False
      | _ => False
    | _ => False
  | .mapUpdate t x k v => mapUpW ty t (e x) (e k) (e v) h K
  | .insert t x k v => mapUpW ty t (e x) (e k) (e v) h K
  | .mapEntry t x k => mapEntryW ty t (e x) (e k) h K
  | .entryStore _ x st v => entryStoreW (e x) (e st) (e v) h K
  | .makeMap _ r => match r with | none => K (.map (some h.next)) (h.new (.map [] 0)) | some _ => False
  | .convert s d x =>
    match ty.find s, ty.find d, e x with
    | some (.plain false [.str] _), some (.plain false _ (.slice 1 el)), .str s => (match P.underlying el with | some (.int .u8) => K (.slice (some ⟨h.next, 0⟩) s.length 1) (h.new (.cells false 0 ⟨el, false, false⟩ (s.map byteA))) | _ => False)
    | _, _, _ => False
  | .call c =>
    match c.callee with
    | .builtin .append => (match c.argTypes.toList, c.args.toList with | [t, t2], [x, y] => bif noInt ty t2 then appendW ty t (e x) (e y) h K else appendZ ty t t2 (e x) (e y) h K | _, _ => False)
    | .builtin .delete => (match c.argTypes.toList, c.args.toList with | [t, _], [x, k] => deleteW ty t (e x) (e k) h K | _, _ => False)
    | .builtin .clear => (match c.argTypes.toList, c.args.toList with | [t], [x] => clearW ty t (e x) h K | _, _ => False)
    | .builtin .unsafeString => (match c.argTypes.toList, c.args.toList with | [t, _], [x, y] => ustW ty t (e x) (e y) h K | _, _ => False)
    | .value f => ACall P (e f) (argsE ty e c.args.toList c.argTypes.toList) h fun v h' => resW ty oty v fun v' => K v' h'
    | _ => False
  | _ => False

theorem newCells_post {m : Mp} {h : AH} {w : World} (s : Sim m h w) {l : List AV} {l' more : List Value} (fz : Nat) (el : El) (hl : VsRel m l l') (h1 : ∀ v ∈ l, v.one = true) (hfz : fz ≤ l.length) (hwh : el.wh = true → more = []) :
    ∃ m', Sim m' (h.new (.cells false fz el l)) (w.alloc (.cells (l' ++ more).toArray el.t)) ∧ Steps m h w m' (h.new (.cells false fz el l)) (w.alloc (.cells (l' ++ more).toArray el.t)) ∧
      m' h.next = some ⟨w.heap.size, 0, l'.length + more.length⟩ := by
  obtain ⟨a, b⟩ := s.newCells (more := more) false fz el hl h1 hfz hwh
  exact ⟨_, a, b, by simp [Mp.ins]⟩

theorem post_new {m : Mp} {h : AH} {w : World} (s : Sim m h w) {l : List AV} {arr : Array Value} (el : El) (hl : VsRel m l arr.toList) (h1 : ∀ v ∈ l, v.one = true) {K : AV → AH → Prop} (hk : K (.ptr (some ⟨h.next, 0⟩)) (h.new (.cells false 0 el l))) :
    Post m h w K (.pointer (some ⟨w.heap.size, 0, none⟩)) (w.alloc (.cells arr el.t)) := by
  obtain ⟨m', a, b, c⟩ := newCells_post (more := []) s 0 el hl h1 (Nat.zero_le _) (fun _ => rfl)
  rw [List.append_nil, Array.toArray_toList] at a b
  exact ⟨m', _, _, a, b, .ptr ⟨h.next, 0⟩ _ c, hk⟩

theorem run_newRow (el : TypeId) (arr : Array Value) (w : World) : (newRow el arr).run P w = .ok ⟨w.heap.size, 0, none⟩ (w.alloc (.cells arr el)) := by
  simp [newRow, newObj, Sem.run, World.alloc_eq]

theorem SlAt_run {m : Mp} {h : AH} {w : World} (s : Sim m h w) {p : Option Pt} {k sz : Nat} {ys : List AV} (hs : SlAt h p (k * sz) ys) {v : Value} (hv : VRel m (.slice p k sz) v) :
    ∃ base cap ys', v = .slice base k cap ∧ (∀ w1 : World, w1.heap = w.heap → (Builtin.firstCells sz k v).run P w1 = .ok ys'.toArray w1) ∧ VsRel m ys ys' ∧ ys'.length = k * sz ∧ (∀ x ∈ ys, x.one = true) := by
  cases hv with
  | snil _ =>
    obtain ⟨-, rfl⟩ := hs
    exact ⟨none, 0, [], rfl, fun w1 _ => by simp [Builtin.firstCells], .nil, by simp, by simp⟩
  | slice p0 _ _ a cap sl hm c1 c2 c3 =>
    obtain ⟨t, l', ht, hlen, hrel, hone, hcell⟩ := s.rd hs
    rw [hm] at ht; cases ht
    refine ⟨some a, cap, l', rfl, fun w1 hw1 => ?_, hrel, hlen, hone⟩
    have hcell : ∀ j v, l'[j]? = some v → w1.cell? ((sl.addr p0.o).add j) = some v := fun j v hv => by have := hcell j v hv; simpa [World.cell?, hw1] using this
    by_cases hk : cap = 0
    · have : k = 0 := by omega
      subst this
      simp at hlen
      have : l' = [] := by simpa using hlen
      subst this
      simp [Builtin.firstCells, loadCells, loadCellsFrom]
    · obtain rfl := c3.resolve_left hk
      have := run_loadCells_list (P := P) w1 (sl.addr p0.o) l' hcell
      rw [hlen] at this
      simp [Builtin.firstCells, this]

theorem bytes_rel (m : Mp) : ∀ (s : Str), VsRel m (s.map byteA) (s.map fun b => Value.int .u8 b.toNat)
  | [] => .nil
  | _ :: r => .cons _ _ _ _ (.int _ _) (bytes_rel m r)

theorem growBy_le (n : Nat) : ∀ (r c : Nat), c ≤ 2 * n + 1024 → Builtin.growBy n r c ≤ 2 * n + 1024
  | 0, c, h => h
  | r + 1, c, h => by
    unfold Builtin.growBy
    split
    · exact h
    · exact growBy_le n r _ (by omega)
theorem mul_bound (N B M c : Nat) (h1 : N ≤ M) (h2 : B ≤ c) : N * B ≤ M * c := Nat.mul_le_mul h1 h2
theorem nextcap_le (n c : Nat) (h : c < n) : Builtin.nextslicecap n c ≤ 2 * n + 1024 := by
  unfold Builtin.nextslicecap
  split
  · omega
  · split
    · omega
    · exact growBy_le n 4 c (by omega)

theorem cap_fits (N B c : Nat) (hN : N < 4294967296) (hB : B ≤ 4096) (hc : c < N) : Builtin.nextslicecap N c * B ≤ 281474976710656 := by
  have h1 := nextcap_le N c hc
  generalize Builtin.nextslicecap N c = M at h1
  refine Nat.le_trans (mul_bound _ _ _ _ h1 hB) ?_
  omega

theorem one_cell {m : Mp} {v : AV} {v' : Value} (h : VRel m v v') (ho : v.one = true) : v'.oneCell' = true := by
  cases h <;> simp [AV.one] at ho <;> rfl
theorem one_cells {m : Mp} {l : List AV} {l' : List Value} (h : VsRel m l l') (ho : ∀ v ∈ l, v.one = true) : ∀ u ∈ l', u.oneCell' = true := by
  intro u hu
  obtain ⟨j, hj⟩ := List.getElem?_of_mem hu
  have hlt : j < l.length := by have := (List.getElem?_eq_some_iff.1 hj).1; have := h.length; omega
  obtain ⟨u', g1, g2⟩ := h.get (i := j) (v := l[j]) (by simp [hlt])
  rw [hj] at g1; cases g1
  exact one_cell g2 (ho _ (List.getElem_mem hlt))

theorem Sim.drew {m : Mp} {h : AH} {w : World} (s : Sim m h w) : Sim m h w.drew := s.heap_of (Nat.le_refl _) fun _ _ _ _ _ => rfl
theorem Steps.drew {m : Mp} {h : AH} {w : World} : Steps m h w m h w.drew :=
  ⟨Nat.le_refl _, Mp.le.refl m, Nat.le_refl _, rfl, rfl, rfl, fun _ _ _ => rfl, fun b o s hb hf hs => .inr ⟨b, o, s, hb, hf, hs, rfl⟩, fun b o s hb hs => .inr ⟨b, o, s, hb, hs, rfl⟩, fun _ _ h => h, fun _ _ h => h⟩

/-- An append in place: the old block's name goes, the cells are the new one's. -/
theorem Sim.onto {m : Mp} {h : AH} {w : World} (s : Sim m h w) {a : Pt} {fz el : Nat} {wh cl : Bool} {c : List AV} {t : Slot} (hb : h.get a.b = some (.cells false fz ⟨el, wh, cl⟩ c)) (ht : m a.b = some t) {n : Nat} (hlen : a.o + n ≤ c.length) (hfn : fz ≤ a.o + n)
    {ys : List AV} {ys' : List Value} (hys : VsRel m ys ys') (hone : ∀ v ∈ ys, v.one = true) (hroom : a.o + (n + ys'.length) ≤ t.room) :
    ∃ m', Sim m' ((h.set a.b none).new (.cells false (fz - a.o) ⟨el, false, cl && Nat.beq a.o 0⟩ ((c.drop a.o).take n ++ ys))) (w.setCells t.cb (t.co + (a.o + n)) ys') ∧
      Steps m h w m' ((h.set a.b none).new (.cells false (fz - a.o) ⟨el, false, cl && Nat.beq a.o 0⟩ ((c.drop a.o).take n ++ ys))) (w.setCells t.cb (t.co + (a.o + n)) ys') ∧ m' h.next = some ⟨t.cb, t.co + a.o, t.room - a.o⟩ := by
  obtain ⟨arr, lo, hi, hw, hsz, hcl, hcv, hfz, hwc⟩ := s.cells _ _ _ _ _ _ hb ht
  obtain ⟨arr', hw', hs', hg'⟩ := setCells_own ys' t.cb (t.co + (a.o + n)) w arr el (lo, hi) hw
  have hyl := hys.length
  have hnext := s.top h.next (Nat.le_refl _)
  have hlt : ∀ x q, h.get x = some q → x < h.next := fun x q hq => by
    apply Nat.lt_of_not_le; intro hle; rw [(s.top x hle).1] at hq; cases hq
  have hbn : a.b ≠ h.next := fun e => by have := hlt _ _ hb; omega
  let m' : Mp := m.ins h.next ⟨t.cb, t.co + a.o, t.room - a.o⟩
  have hle : m.le m' := Mp.le_ins hnext.2
  have key : ∀ x q, x ≠ h.next → ((h.set a.b none).new (.cells false (fz - a.o) ⟨el, false, cl && Nat.beq a.o 0⟩ ((c.drop a.o).take n ++ ys))).get x = some q → x ≠ a.b ∧ h.get x = some q := by
    intro x q hne hx
    simp only [AH.new_get, AH.set_get] at hx
    rw [if_neg (by simpa [AH.set] using hne)] at hx
    by_cases e : x = a.b
    · simp [e] at hx
    · simp [e] at hx; exact ⟨e, hx⟩
  have own : ∀ q, ((h.set a.b none).new (.cells false (fz - a.o) ⟨el, false, cl && Nat.beq a.o 0⟩ ((c.drop a.o).take n ++ ys))).get h.next = some q → q = .cells false (fz - a.o) ⟨el, false, cl && Nat.beq a.o 0⟩ ((c.drop a.o).take n ++ ys) := by
    intro q hq; simp only [AH.new_get] at hq; rw [if_pos (by simp [AH.set])] at hq; cases hq; rfl
  have mown : ∀ u, m' h.next = some u → u = ⟨t.cb, t.co + a.o, t.room - a.o⟩ := by intro u hu; simpa [m', Mp.ins] using hu.symm
  have mold : ∀ x u, x ≠ h.next → m' x = some u → m x = some u := by intro x u hne hu; simpa [m', Mp.ins, hne] using hu
  have hz : (w.setCells t.cb (t.co + (a.o + n)) ys').heap.size = w.heap.size := setCells_size _ _ _ _
  have hother : ∀ k, k ≠ t.cb → (w.setCells t.cb (t.co + (a.o + n)) ys').heap[k]? = w.heap[k]? := fun k hk => setCells_other _ _ _ _ _ hk
  have nc : ∀ x o u, x ≠ a.b → h.get x = some o → m x = some u → (∀ ro fz el c, o ≠ .cells ro fz el c) → u.cb ≠ t.cb := fun x o u hne hx hu hn => s.inj x a.b o _ u t hx hb hne hn hu ht
  -- the cells that are written lie in the old block's own room, behind its cells
  have hapart : ∀ x ro2 fz2 el2 c2 u, x ≠ a.b → h.get x = some (.cells ro2 fz2 el2 c2) → m x = some u → t.apart u := fun x ro2 fz2 el2 c2 u hne hx hu => s.disj a.b x fz ⟨el, wh, cl⟩ c ro2 fz2 el2 c2 t u hb hx (fun e => hne e.symm) ht hu
  refine ⟨m', ⟨fun x hx => ?_, fun x q hx => ?_, fun x ro fz2 el2 c2 u hx hu => ?_, fun x y fz2 el2 c2 ro3 fz3 el3 c3 u v hx hy hne hu hv => ?_, fun x q u hx hn hu => ?_, fun x y q q2 u v hx hy hne hn hu hv => ?_⟩, ?_, by simp [m', Mp.ins]⟩
  · have hx' : h.next + 1 ≤ x := hx
    have := s.top x (by omega)
    refine ⟨?_, by simp [m', Mp.ins, show x ≠ h.next by omega, this.2]⟩
    simp only [AH.new_get, AH.set_get]
    rw [if_neg (by show ¬ x = h.next; omega)]
    split
    · rfl
    · exact this.1
  · rw [hz]
    by_cases hne : x = h.next
    · subst hne
      obtain ⟨u, hu, hl⟩ := s.lies a.b _ hb
      rw [ht] at hu; cases hu
      exact ⟨⟨t.cb, t.co + a.o, t.room - a.o⟩, by simp [m', Mp.ins], hl⟩
    · obtain ⟨u, hu, hl⟩ := s.lies x q (key x q hne hx).2
      exact ⟨u, hle _ _ hu, hl⟩
  · by_cases hne : x = h.next
    · subst hne
      cases mown _ hu; cases own _ hx
      have hlen' : ((c.drop a.o).take n ++ ys).length = n + ys'.length := by simp; omega
      refine ⟨arr', lo, hi, hw', by simp only; omega, by rw [hlen']; simp only; omega, fun i v hv => ?_, fun _ => ⟨by rw [hlen']; have := (hfz rfl).1; omega, fun i h1 h2 => by simp only at h2 ⊢; have := (hfz rfl).2 (a.o + i) (by omega) (by omega); omega⟩, (fun e => by cases e), fun e => ?_⟩
      rotate_left
      · simp only [Bool.and_eq_true] at e
        have e2 := Nat.eq_of_beq_eq_true e.2
        rcases hwc.2 e.1 with e3 | ⟨e3, e4⟩
        · exact .inl e3
        · exact .inr ⟨by simp only; omega, by simp only; omega⟩
      simp only
      by_cases hi2 : i < n
      · rw [List.getElem?_append_left (by simp; omega), List.getElem?_take, if_pos hi2, List.getElem?_drop] at hv
        obtain ⟨q1, v', q2, q3⟩ := hcv _ v hv
        refine ⟨q1, v', ?_, q3.mono hle⟩
        rw [hg', if_neg (by omega)]
        rw [show t.co + a.o + i = t.co + (a.o + i) by omega]; exact q2
      · rw [List.getElem?_append_right (by simp; omega)] at hv
        simp only [List.length_take, List.length_drop] at hv
        obtain ⟨v', q1, q2⟩ := hys.get hv
        have hlt2 : i - min n (c.length - a.o) < ys'.length := (List.getElem?_eq_some_iff.1 q1).1
        refine ⟨hone v (List.mem_of_getElem? hv), v', ?_, q2.mono hle⟩
        rw [hg', if_pos (by omega), ← q1]; congr 1; omega
    · obtain ⟨hxb, hx'⟩ := key x _ hne hx
      have hu' := mold x u hne hu
      obtain ⟨arr0, lo0, hi0, h1, h2, h3, h4, h5, h6⟩ := s.cells _ _ _ _ _ _ hx' hu'
      by_cases hcb : u.cb = t.cb
      · have hap := hapart x ro fz2 el2 c2 u hxb hx' hu'
        exact (hap hcb.symm).elim
      · exact ⟨arr0, lo0, hi0, by rw [hother _ hcb]; exact h1, h2, h3, fun i v hv => let ⟨p1, v', p2, p3⟩ := h4 i v hv; ⟨p1, v', p2, p3.mono hle⟩, h5, h6⟩
  · by_cases hxn : x = h.next
    · subst hxn
      cases mown _ hu
      obtain ⟨hyb, hy'⟩ := key y _ (fun e => hne e.symm) hy
      exact hapart y ro3 fz3 el3 c3 v hyb hy' (mold y v (fun e => hne e.symm) hv)
    · by_cases hyn : y = h.next
      · subst hyn
        cases mown _ hv
        obtain ⟨hxb, hx'⟩ := key x _ hxn hx
        exact fun e => hapart x false fz2 el2 c2 u hxb hx' (mold x u hxn hu) e.symm
      · obtain ⟨-, hx'⟩ := key x _ hxn hx; obtain ⟨-, hy'⟩ := key y _ hyn hy
        exact s.disj x y fz2 el2 c2 ro3 fz3 el3 c3 u v hx' hy' hne (mold x u hxn hu) (mold y v hyn hv)
  · have hne : x ≠ h.next := fun e => by subst e; exact hn _ _ _ _ (own _ hx)
    obtain ⟨hxb, hx'⟩ := key x _ hne hx; have hu' := mold x u hne hu
    obtain ⟨a1, ob1, a2, a3⟩ := s.objs x q u hx' hn hu'
    exact ⟨a1, ob1, by rw [hother _ (nc x _ u hxb hx' hu' hn)]; exact a2, a3.mono hle⟩
  · have hxn : x ≠ h.next := fun e => by subst e; exact hn _ _ _ _ (own _ hx)
    obtain ⟨hxb, hx'⟩ := key x _ hxn hx
    by_cases hyn : y = h.next
    · subst hyn; cases mown _ hv; exact nc x q u hxb hx' (mold x u hxn hu) hn
    · exact s.inj x y q q2 u v hx' (key y _ hyn hy).2 hne hn (mold x u hxn hu) (mold y v hyn hv)
  · refine ⟨Nat.le_succ _, hle, by rw [hz]; exact Nat.le_refl _, (setCells_misc _ _ _ _).1, (setCells_misc _ _ _ _).2.1, (setCells_misc _ _ _ _).2.2, fun k _ hk => hother k (fun e => hk a.b _ t hb rfl ht e.symm), fun x q u hx hf hu => ?_, fun x q u hx hu => ?_, fun x hx hn => ?_, fun x hx hn => by simpa [m', Mp.ins, show x ≠ h.next by omega] using hn⟩
    · right
      by_cases hne : x = h.next
      · subst hne; cases mown _ hu; exact ⟨a.b, _, t, hb, rfl, ht, rfl⟩
      · exact ⟨x, q, u, (key x q hne hx).2, hf, mold x u hne hu, rfl⟩
    · right
      by_cases hne : x = h.next
      · subst hne; cases mown _ hu; exact ⟨a.b, _, t, hb, ht, rfl⟩
      · exact ⟨x, q, u, (key x q hne hx).2, mold x u hne hu, rfl⟩
    · simp only [AH.new_get, AH.set_get]; rw [if_neg (by simp only [AH.set]; omega)]; split; rfl; exact hn

theorem noInt_run (T : TabOk P ty) {t : TypeId} (h : noInt ty t = true) : (∃ e', P.underlying t = some (.slice e')) ∨ P.underlying t = some .string := by
  unfold noInt at h
  split at h
  · rename_i hf
    obtain ⟨u, hu, -, hk0, -⟩ := (T.plain hf).desc
    obtain ⟨k0, e0, hk0⟩ := hk0 rfl
    cases e0
    cases u <;> simp [kindOk] at hk0
    exact .inl ⟨_, hu⟩
  · rename_i hf
    obtain ⟨u, hu, -, hk0, -⟩ := (T.plain hf).desc
    obtain ⟨k0, e0, hk0⟩ := hk0 rfl
    cases e0
    cases u <;> simp [kindOk] at hk0
    exact .inr hu
  · cases h

theorem append_ok {m : Mp} {h : AH} {w : World} (s : Sim m h w) {t t2 tt2 : TypeId} {agg : Bool} {ks : List K1} {esz el : Nat} (hp : PlainOk P t agg ks (.slice esz el))
    {p : Option Pt} {len k : Nat} {ys : List AV} {K : AV → AH → Prop} (ha : appendTo h p len esz el k ys K) {sv x : Value} (hv : VRel m (.slice p len esz) sv)
    {ys' : List Value} (hsrc : Src P esz t2 x k ys' w) (hys : VsRel m ys ys') (hone : ∀ v ∈ ys, v.one = true) :
    ∃ v' w', (Builtin.append_ #[t, t2] tt2 #[sv, x]).run P w = .ok v' w' ∧ Post m h w K v' w' := by
  obtain ⟨hu, hse, ⟨ie, hie, hisz, hib, hib0⟩, z, hz, hzs⟩ := hp.slice
  subst hisz
  obtain ⟨hbound, ha⟩ := ha
  have hbound : len + k < 4294967296 := hbound
  have hyl := hys.length
  have hyn := hsrc.newsLen
  have hzz : ie.zero = some z := by
    have := hz w
    cases h0 : ie.zero with
    | none => simp [zeroValue, typeInfo, hie, h0, unsupported] at this
    | some z0 => simp [zeroValue, typeInfo, hie, h0] at this; rw [this]
  cases hk0 : Nat.beq k 0 with
  | true =>
    have := Nat.eq_of_beq_eq_true hk0; subst this
    simp only [hk0, cond_true] at ha
    have : ys' = [] := by simpa using hyn
    subst this
    cases hv with
    | snil _ => exact ⟨_, w, run_append_nothing w t t2 tt2 el ie hu hie none 0 0 (Nat.le_refl _) x hsrc, m, h, _, s, Steps.refl _ _ _, .snil _, ha⟩
    | slice p0 _ _ a cap sl hm c1 c2 c3 => exact ⟨_, w, run_append_nothing w t t2 tt2 el ie hu hie _ len cap c1 x hsrc, m, h, _, s, Steps.refl _ _ _, .slice p0 _ _ a cap sl hm c1 c2 c3, ha⟩
  | false =>
    simp only [hk0, cond_false] at ha
    have hkne : k ≠ 0 := fun e => by subst e; simp at hk0
    have h63 : ((len + k : Nat) : Int) ≤ 9223372036854775807 := by omega
    have hfit : ∀ c, c < len + k → Builtin.nextslicecap (len + k) c * ie.bytes ≤ 281474976710656 := by
      exact fun c hc => cap_fits _ _ _ hbound hib hc
    -- a new row
    have grow : ∀ (base : Option Addr) (sCap : Nat) (olds : List Value) (oldA : List AV), sCap < len + k → (Builtin.firstCells ie.size len (.slice base len sCap)).run P w.drew = .ok olds.toArray w.drew → olds.length = len * ie.size → VsRel m oldA olds → (∀ v ∈ oldA, v.one = true) →
        ∀ (h1 : AH) (fz : Nat) (cl : Bool), Sim m h1 w → Steps m h w m h1 w → fz ≤ (oldA ++ ys).length → K (.slice (some ⟨h1.next, 0⟩) (len + k) ie.size) (h1.new (.cells false fz ⟨el, false, cl⟩ (oldA ++ ys))) →
        ∃ v' w', (Builtin.append_ #[t, t2] tt2 #[.slice base len sCap, x]).run P w = .ok v' w' ∧ Post m h w K v' w' := by
      intro base sCap olds oldA hc hold hol hor hoone h1 fz cl s1 st1 hfz hk
      refine ⟨_, _, run_append_grow_src w t t2 tt2 el ie z hu hie hzz base len sCap olds hold x k ys' hsrc hc h63 (hfit sCap hc), ?_⟩
      have hcells : ((olds ++ ys').toArray ++ Builtin.zeroCells z.cells (grownCap w (len + k) sCap el - (len + k))) = ((olds ++ ys') ++ (Builtin.zeroCells z.cells (grownCap w (len + k) sCap el - (len + k))).toList).toArray := by
        apply Array.ext'; simp
      rw [hcells]
      obtain ⟨m', a1, a2, a3⟩ := newCells_post (more := (Builtin.zeroCells z.cells (grownCap w (len + k) sCap el - (len + k))).toList) s1.drew fz ⟨el, false, cl⟩ (hor.append hys) (fun v hv => by rcases List.mem_append.1 hv with hv | hv; exact hoone v hv; exact hone v hv) hfz (fun e => by cases e)
      refine ⟨m', _, _, a1, (st1.trans Steps.drew).trans a2, ?_, hk⟩
      have hge := grownCap_ge w (len + k) sCap el
      refine .slice ⟨h1.next, 0⟩ (len + k) ie.size _ (grownCap w (len + k) sCap el) _ a3 hge ?_ (.inr ?_)
      · have e1 : (olds ++ ys').length = (len + k) * ie.size := by rw [List.length_append, hol, hyn, Nat.add_mul]
        have e2 : (Builtin.zeroCells z.cells (grownCap w (len + k) sCap el - (len + k))).toList.length = (grownCap w (len + k) sCap el - (len + k)) * ie.size := by rw [Array.length_toList, size_zeroCells, hzs]
        simp only [e1, e2]
        rw [← Nat.add_mul]; rw [Nat.add_sub_cancel' hge]; omega
      · rfl
    cases hv with
    | snil _ =>
      simp only at ha
      have := grow none 0 [] [] (by omega) (by simp [Builtin.firstCells]) (by simp) .nil (by simp) h 0 true s (Steps.refl _ _ _) (Nat.zero_le _) (by simpa using ha)
      simpa using this
    | slice p0 _ _ a cap sl hm c1 c2 c3 =>
      simp only at ha
      obtain ⟨fz, wh, fcl, c, hb, hlen, hfn, hk⟩ := ha
      obtain ⟨arr, lo, hi, hw, hsz, hcl, hcv, hfz, -⟩ := s.cells _ _ _ _ _ _ hb hm
      by_cases hroom : len + k ≤ cap
      · obtain rfl := c3.resolve_left (by omega)
        have hmul : (len + k) * ie.size ≤ cap * ie.size := Nat.mul_le_mul_right _ hroom
        rw [Nat.add_mul] at hmul
        have hin : ∀ j, j < ys'.length → sl.co + p0.o + len * ie.size + j < arr.size := by intro j hj; omega
        refine ⟨_, _, run_append_room_src w t t2 tt2 el ie hu hie sl.cb (sl.co + p0.o) len cap x k ys' hsrc hroom (fun j hj => ?_) (fun j hj => ?_), ?_⟩
        · simp only [World.cell?, hw]; simp; exact hin j hj
        · simp only [World.frozen?, hw]
          have := (hfz rfl).2 (p0.o + len * ie.size + j) (by have := (hfz rfl).1; omega) (by omega)
          simp; omega
        · obtain ⟨m', a1, a2, a3⟩ := s.onto hb hm hlen hfn hys hone (by omega)
          rw [show sl.co + p0.o + len * ie.size = sl.co + (p0.o + len * ie.size) by omega]
          refine ⟨m', _, _, a1, a2, ?_, hk⟩
          refine .slice ⟨h.next, 0⟩ (len + k) ie.size _ cap _ a3 hroom (by simp only; omega) (.inr ?_)
          simp [Slot.addr]
      · -- it moves
        have hrd : h.rd p0 (len * ie.size) = some ((c.drop p0.o).take (len * ie.size)) := by
          simp only [AH.rd, hb, hlen, if_true]
        obtain ⟨base, cap2, olds, e1, e2, e3, e4, e5⟩ := SlAt_run (P := P) s.drew (p := some p0) (k := len) (sz := ie.size) (ys := (c.drop p0.o).take (len * ie.size)) hrd (.slice p0 len ie.size a cap sl hm c1 c2 c3)
        cases e1
        have := grow (some a) cap olds ((c.drop p0.o).take (len * ie.size)) (by omega) (e2 _ rfl) e4 e3 e5 (h.set p0.b none) (fz - p0.o) (fcl && Nat.beq p0.o 0) (s.kill p0.b) (Steps.kill p0.b) (by simp; have := (hfz rfl).1; omega) hk
        exact this
end Go.La
/- Layer A: operations on maps that write are sound. -/
namespace Go.La
open Go Go.RowKit

variable {P : Program} {ty : TT}

theorem run_setMap {w : World} {r : Nat} {es : Array MapEntry} {clock : Nat} (o : Obj) (hb : w.heap[r]? = some (.map es clock)) : (setObj r o).run P w = .ok () { w with heap := w.heap.setIfInBounds r o } := by
  simp [setObj, Sem.run, hb]

theorem keyKs_one {kt : TypeId} {agg : Bool} {ks : List K1} (hk : keyKs ty kt = some (agg, ks)) : agg = false → ∃ k, ks = [k] := by
  unfold keyKs at hk
  split at hk
  · rename_i k d hft
    cases hb0 : k.basic with
    | false => simp [hb0] at hk
    | true =>
      simp only [hb0, cond_true, Option.some.injEq, Prod.mk.injEq] at hk
      exact fun _ => ⟨k, hk.2.symm⟩
  · simp only [Option.some.injEq, Prod.mk.injEq] at hk
    intro e; rw [← hk.1] at e; cases e
  · cases hk
theorem find_key {kagg : Bool} {kks : List K1} {k : AV} : ∀ (es : List (AV × AV × Nat)) (j : Nat) (u : AV), allKeys kagg kks es = true → findI k es 0 = some (j, u) → ∃ x, es[j]? = some x ∧ keyEq k x.1 = true ∧ fitKey kagg kks x.1 = true
  | [], _, _, _, h => by simp [findI] at h
  | x :: r, j, u, ha, h => by
    simp only [allKeys, Bool.and_eq_true] at ha
    simp only [findI] at h
    cases hq : keyEq k x.1 with
    | true =>
      simp only [hq, cond_true, Option.some.injEq, Prod.mk.injEq] at h
      obtain ⟨rfl, -⟩ := h
      exact ⟨x, rfl, hq, ha.1⟩
    | false =>
      simp only [hq, cond_false] at h
      rw [findI_shift] at h
      cases hg : findI k r 0 with
      | none => simp [hg] at h
      | some ju =>
        obtain ⟨j', u'⟩ := ju
        simp [hg] at h
        obtain ⟨rfl, -⟩ := h
        obtain ⟨y, i1, i2, i3⟩ := find_key r j' u' ha.2 hg
        exact ⟨y, by simpa using i1, i2, i3⟩
theorem EntRel.get {m : Mp} : ∀ {es : List (AV × AV × Nat)} {arr : List MapEntry} {j : Nat} {x : AV × AV × Nat} {e : MapEntry}, EntRel m es arr → es[j]? = some x → arr[j]? = some e → VRel m x.1 e.key
  | [], _, _, _, _, _, h, _ => by simp at h
  | (_, _, _) :: _, [], _, _, _, h, _, _ => h.elim
  | (a, b, c) :: es, y :: arr, 0, x, e, ⟨h1, _, _, _⟩, g1, g2 => by simp at g1 g2; subst g1; subst g2; exact h1
  | (a, b, c) :: es, y :: arr, j + 1, x, e, ⟨_, _, _, h4⟩, g1, g2 => EntRel.get h4 (by simpa using g1) (by simpa using g2)

/-- What becomes of the key of an entry that is there. -/
theorem keyStays_run {kt : TypeId} {kagg : Bool} {kks : List K1} (hk : keyKs ty kt = some (kagg, kks)) {m : Mp} {w : World} {k : AV} {k' : Value} (hkr : VRel m k k') (hfit : fitKey kagg kks k = true) {es : List (AV × AV × Nat)} {arr : Array MapEntry} (her : EntRel m es arr.toList)
    (hall : allKeys kagg kks es = true) {j : Nat} {u : AV} (hf : findI k es 0 = some (j, u)) {e : MapEntry} (he : arr[j]? = some e) : (Instr.keyThatStays (((arr[j]?).map (·.key)).getD k') k').run P w = .ok k' w := by
  obtain ⟨x, i1, i2, i3⟩ := find_key es j u hall hf
  have hr := her.get i1 (by simpa using he : arr.toList[j]? = some e)
  have := sameBits_key hkr hr hfit i3 (keyKs_one hk) i2
  simp [Instr.keyThatStays, he, this]

theorem mapUp_ok (T : TabOk P ty) {mt : TypeId} {x k v : AV} {h : AH} {K : AV → AH → Prop} (hl : mapUpW ty mt x k v h K) {m : Mp} {w : World} {x' k' v' : Value} (s : Sim m h w) (hx : VRel m x x') (hkr : VRel m k k') (hv : VRel m v v') :
    ∃ w', (Instr.mapUpdate mt x' k' v').run P w = .ok () w' ∧ Post m h w K undef w' := by
  unfold mapUpW at hl
  split at hl
  · rename_i kt et hf
    have hu := T.mapTy hf
    split at hl
    · rename_i kagg kks hk
      cases hfit : fitKey kagg kks k with
      | false => simp [hfit] at hl
      | true =>
        simp only [hfit, cond_true] at hl
        split at hl
        · rename_i b
          obtain ⟨es, clk, hb, hall, hl⟩ := hl
          cases hx with | map _ sl hm =>
          obtain ⟨-, ob, hw, ho⟩ := s.objs b _ sl hb (by simp) hm
          cases ho with | map _ arr _ her =>
          have h1 := checkKey_run T hk w hkr hfit false
          obtain ⟨r, h2, h3, h4⟩ := findKey_run T hk w hkr hfit her hall
          have hobj : (getObj sl.cb).run P w = .ok (.map arr clk) w := by simp [getObj, Sem.run, hw]
          cases hfi : findI k es 0 with
          | none =>
            have := h3 hfi; subst this
            simp only [hfi] at hl
            refine ⟨_, ?_, m, _, .dead, (s.setObj hb (by simp) hm hw (by simp) (.map _ (arr.push { key := k', val := v', born := clk }) _ ?_)).1, (s.setObj hb (by simp) hm hw (by simp) (.map _ (arr.push { key := k', val := v', born := clk }) _ ?_)).2, .dead _, hl⟩
            · simp [Instr.mapUpdate, run_underlying hu, hobj, h1, h2, run_setMap _ hw]
            · rw [Array.toList_push]; exact EntRel.push (e := { key := k', val := v', born := clk }) hkr hv her
            · rw [Array.toList_push]; exact EntRel.push (e := { key := k', val := v', born := clk }) hkr hv her
          | some ju =>
            obtain ⟨j, u⟩ := ju
            obtain ⟨u', rfl, -, e, he, -⟩ := h4 j u hfi
            simp only [hfi] at hl
            have he' : arr[j]? = some e := by simpa using he
            have hst := keyStays_run (P := P) (w := w) hk hkr hfit her hall hfi he'
            have hrel : EntRel m (updI k v es) (arr.modify j fun e => { e with key := k', val := v' }).toList := by rw [Array.toList_modify]; exact upd_rel hkr hv es arr.toList j u her hfi
            refine ⟨_, ?_, m, _, .dead, (s.setObj hb (by simp) hm hw (by simp) (.map _ _ _ hrel)).1, (s.setObj hb (by simp) hm hw (by simp) (.map _ _ _ hrel)).2, .dead _, hl⟩
            simp only [Instr.mapUpdate, Sem.run_bind, run_underlying hu, Result.andThen_ok, hobj, h1, h2, hst, run_setMap _ hw]
        · exact hl.elim
    · exact hl.elim
  · exact hl.elim

theorem mapEntry_ok (T : TabOk P ty) {mt : TypeId} {x k : AV} {h : AH} {K : AV → AH → Prop} (hl : mapEntryW ty mt x k h K) {m : Mp} {w : World} {x' k' : Value} (s : Sim m h w) (hx : VRel m x x') (hkr : VRel m k k') :
    ∃ v' w', (Instr.mapEntry mt x' k').run P w = .ok v' w' ∧ Post m h w K v' w' := by
  unfold mapEntryW at hl
  split at hl
  · rename_i kt et hf
    have hu := T.mapTy hf
    split at hl
    · rename_i kagg kks eagg eks ed hk het
      cases hfit : fitKey kagg kks k with
      | false => simp [hfit] at hl
      | true =>
        simp only [hfit, cond_true] at hl
        obtain ⟨z, hz, hzr⟩ := zero_mkv (T.plain het)
        split at hl
        · rename_i b
          obtain ⟨es, clk, hb, hall, hl⟩ := hl
          cases hx with | map _ sl hm =>
          obtain ⟨-, ob, hw, ho⟩ := s.objs b _ sl hb (by simp) hm
          cases ho with | map _ arr _ her =>
          have h1 := checkKey_run T hk w hkr hfit false
          obtain ⟨r, h2, h3, h4⟩ := findKey_run T hk w hkr hfit her hall
          have hobj : (getObj sl.cb).run P w = .ok (.map arr clk) w := by simp [getObj, Sem.run, hw]
          cases hfi : findI k es 0 with
          | none =>
            have := h3 hfi; subst this
            simp only [hfi] at hl
            have hrel : EntRel m (es ++ [(k, mkv eagg (eks.map K1.zero), clk)]) (arr.push { key := k', val := z, born := clk }).toList := by rw [Array.toList_push]; exact EntRel.push (e := { key := k', val := z, born := clk }) hkr (hzr m) her
            refine ⟨_, _, ?_, m, _, _, (s.setObj hb (by simp) hm hw (by simp) (.map _ _ _ hrel)).1, (s.setObj hb (by simp) hm hw (by simp) (.map _ _ _ hrel)).2, .tuple _ _ (.cons _ _ _ _ (hzr m) (.cons _ _ _ _ (.int _ _) .nil)), hl⟩
            simp [Instr.mapEntry, run_underlying hu, hobj, h1, h2, hz w, run_setMap _ hw, goInt]
          | some ju =>
            obtain ⟨j, u⟩ := ju
            obtain ⟨u', rfl, hur, e, he, -⟩ := h4 j u hfi
            simp only [hfi] at hl
            have he' : arr[j]? = some e := by simpa using he
            have hst := keyStays_run (P := P) (w := w) hk hkr hfit her hall hfi he'
            obtain ⟨hrel0, e2, he2, hborn⟩ := key_rel hkr es arr.toList j u her hfi
            rw [he] at he2; cases he2
            have hrel : EntRel m (updI k u es) (arr.modify j fun e => { e with key := k' }).toList := by rw [Array.toList_modify]; exact hrel0
            refine ⟨_, _, ?_, m, _, _, (s.setObj hb (by simp) hm hw (by simp) (.map _ _ _ hrel)).1, (s.setObj hb (by simp) hm hw (by simp) (.map _ _ _ hrel)).2, .tuple [u, .int .i64 (bornI k es)] #[u', .int .i64 (bornI k es)] (.cons _ _ _ _ hur (.cons _ _ _ _ (.int _ _) .nil)), hl⟩
            simp only [Instr.mapEntry, Sem.run_bind, run_underlying hu, Result.andThen_ok, hobj, h1, h2, hst, run_setMap _ hw]
            simp [he', hborn, goInt]
        · exact hl.elim
    · exact hl.elim
  · exact hl.elim

theorem entryStore_ok {mt : TypeId} {x st v : AV} {h : AH} {K : AV → AH → Prop} (hl : entryStoreW x st v h K) {m : Mp} {w : World} {x' st' v' : Value} (s : Sim m h w) (hx : VRel m x x') (hst : VRel m st st') (hv : VRel m v v') :
    ∃ w', (Instr.entryStore mt x' st' v').run P w = .ok () w' ∧ Post m h w K undef w' := by
  unfold entryStoreW at hl
  split at hl
  · rename_i b kk n
    obtain ⟨hn, es, clk, q, hb, hq, hl⟩ := hl
    cases hx with | map _ sl hm =>
    cases hst
    obtain ⟨-, ob, hw, ho⟩ := s.objs b _ sl hb (by simp) hm
    cases ho with | map _ arr _ her =>
    have hobj : (getObj sl.cb).run P w = .ok (.map arr clk) w := by simp [getObj, Sem.run, hw]
    obtain ⟨j, i1, i2⟩ := store_rel hv n.toNat es q arr.toList her hq
    have hcast : ((n.toNat : Nat) : Int) = n := Int.toNat_of_nonneg hn
    rw [hcast] at i1
    have i1' : arr.findIdx? (fun e => (e.born : Int) == n) = some j := by
      have h0 : arr.toList.toArray.findIdx? (fun e => (e.born : Int) == n) = some j := by rw [List.findIdx?_toArray]; exact i1
      rwa [Array.toArray_toList] at h0
    have hrel : EntRel m q (arr.modify j fun e => { e with val := v' }).toList := by rw [Array.toList_modify]; exact i2
    refine ⟨_, ?_, m, _, .dead, (s.setObj hb (by simp) hm hw (by simp) (.map _ _ _ hrel)).1, (s.setObj hb (by simp) hm hw (by simp) (.map _ _ _ hrel)).2, .dead _, hl⟩
    simp only [Instr.entryStore, Sem.run_bind, hobj, Result.andThen_ok, asInt, asIntOf, Sem.run_pure, i1', run_setMap _ hw]
  · exact hl.elim

theorem eraseIdx_in {α : Type} (a : Array α) (j : Nat) (h : j < a.size) : (a.eraseIdxIfInBounds j).toList = a.toList.eraseIdx j := by
  simp [Array.eraseIdxIfInBounds, h]

theorem delete_ok (T : TabOk P ty) {mt t2 oty : TypeId} {x k : AV} {h : AH} {K : AV → AH → Prop} (hl : deleteW ty mt x k h K) {m : Mp} {w : World} {x' k' : Value} (s : Sim m h w) (hx : VRel m x x') (hkr : VRel m k k') :
    ∃ v' w', (Builtin.delete_ #[mt, t2] oty #[x', k']).run P w = .ok v' w' ∧ Post m h w K v' w' := by
  unfold deleteW at hl
  split at hl
  · rename_i kt et hf
    have hu := T.mapTy hf
    split at hl
    · rename_i kagg kks hk
      cases hfit : fitKey kagg kks k with
      | false => simp [hfit] at hl
      | true =>
        simp only [hfit, cond_true] at hl
        split at hl
        · rename_i b
          obtain ⟨es, clk, hb, hall, hl⟩ := hl
          cases hx with | map _ sl hm =>
          obtain ⟨-, ob, hw, ho⟩ := s.objs b _ sl hb (by simp) hm
          cases ho with | map _ arr _ her =>
          have h1 := checkKey_run T hk w hkr hfit arr.isEmpty
          obtain ⟨r, h2, h3, h4⟩ := findKey_run T hk w hkr hfit her hall
          have hobj : (getObj sl.cb).run P w = .ok (.map arr clk) w := by simp [getObj, Sem.run, hw]
          cases hfi : findI k es 0 with
          | none =>
            have := h3 hfi; subst this
            rw [del_none es hfi] at hl
            refine ⟨_, _, ?_, m, _, .tuple [], (s.setObj hb (by simp) hm hw (by simp) (.map _ _ _ her)).1, (s.setObj hb (by simp) hm hw (by simp) (.map _ _ _ her)).2, .tuple [] #[] .nil, hl⟩
            simp [Builtin.delete_, run_underlying hu, hobj, h1, h2, run_setMap _ hw]
          | some ju =>
            obtain ⟨j, u⟩ := ju
            obtain ⟨u', rfl, -, e, he, -⟩ := h4 j u hfi
            have hj : j < arr.size := by have := (List.getElem?_eq_some_iff.1 he).1; simpa using this
            have hrel : EntRel m (delI k es) (arr.eraseIdxIfInBounds j).toList := by rw [eraseIdx_in _ _ hj]; exact del_rel es arr.toList j u her hfi
            refine ⟨_, _, ?_, m, _, .tuple [], (s.setObj hb (by simp) hm hw (by simp) (.map _ _ _ hrel)).1, (s.setObj hb (by simp) hm hw (by simp) (.map _ _ _ hrel)).2, .tuple [] #[] .nil, hl⟩
            simp [Builtin.delete_, run_underlying hu, hobj, h1, h2, run_setMap _ hw]
        · cases hx
          have h1 := checkKey_run T hk w hkr hfit true
          exact ⟨_, w, by simp [Builtin.delete_, run_underlying hu, h1], m, h, _, s, Steps.refl _ _ _, .tuple [] #[] .nil, hl⟩
        · exact hl.elim
    · exact hl.elim
  · exact hl.elim
end Go.La
/- Layer A: append of n zeros to nothing ('append(s[:0], make([]T, n)...)'). -/
namespace Go.La
open Go Go.RowKit

variable {P : Program} {ty : TT}

theorem run_append_zeros (w : World) (t tx tt e : TypeId) (i : TypeInfo) (z : Value) (ht : P.underlying t = some (.slice e)) {k2 : IntKind} (hx : P.underlying tx = some (.int k2)) (hi : P.info? e = some i) (hz : i.zero = some z) (k : IntKind) (n : Nat)
    (h0 : 0 < n) (hn : n < 4294967296) (hb : i.bytes ≤ 4096) (hs : 0 < i.size) (hfit : Builtin.nextslicecap n 0 * i.bytes ≤ 281474976710656) :
    (Builtin.append_ #[t, tx] tt #[.slice none 0 0, .int k n]).run P w =
      .ok (.slice (some ⟨w.heap.size, 0, none⟩) n (grownCap w n 0 e))
        (w.drew.alloc (.cells (Builtin.zeroCells z.cells n ++ Builtin.zeroCells z.cells (grownCap w n 0 e - n)) e)) := by
  have hw : IntKind.i64.wrap (n : Int) = n := by
    simp only [IntKind.wrap, IntKind.bits, IntKind.signed]
    have h1 : ((n : Int) % (2 ^ 64 : Int)) = n := Int.emod_eq_of_lt (by omega) (by omega)
    simp only [h1]
    rw [if_neg (by simp; omega)]
  have hm : n * i.bytes ≤ 4294967296 * 4096 := Nat.mul_le_mul (by omega) hb
  have h1 : ¬ ((n : Int) < 0) := by omega
  have h2 : ¬ (281474976710656 < (n : Int) * (i.bytes : Int)) := by
    intro h
    have : ((n * i.bytes : Nat) : Int) ≤ ((4294967296 * 4096 : Nat) : Int) := Int.ofNat_le.2 hm
    simp at this; omega
  have h3 : ¬ (n = 0) := by omega
  have h4 : ¬ (i.size = 0) := by omega
  have h5 : ¬ (9223372036854775807 < (n : Int)) := by omega
  have h6 : ¬ (281474976710656 < Builtin.nextslicecap n 0 * i.bytes) := by omega
  simp [Builtin.append_, run_underlying ht, run_underlying hx, sizeOf, typeInfo, zeroValue, hi, hz, asInt, asIntOf, hw, h1, h2, h3, h4, h5, h6, Question.forced, Builtin.firstCells, newRow, grownCap]
  intro h7
  rcases Nat.mul_eq_zero.1 h7 with h | h <;> omega

theorem flatten_zeros (m : Mp) {ks : List K1} {z : Array Value} (hz : VsRel m (ks.map K1.zero) z.toList) (n esz : Nat) (he : ks.length = esz) :
    VsRel m ((List.replicate n (ks.map K1.zero)).flatten) (((Array.range (n * esz)).map (z[· % z.size]!)).toList) := by
  have hzs : z.size = esz := by have := hz.length; simp at this; omega
  have e : ((Array.range (n * esz)).map (z[· % z.size]!)).toList = (List.replicate n z.toList).flatten := by
    rw [hzs]
    clear hz
    induction n with
    | zero => simp
    | succ n ih =>
      rw [List.replicate_succ', List.flatten_append, ← ih]
      simp only [Array.toList_map, Array.toList_range, List.flatten_cons, List.flatten_nil, List.append_nil]
      rw [Nat.succ_mul, List.range_add, List.map_append]
      congr 1
      rw [List.map_map]
      apply List.ext_getElem?
      intro i
      by_cases hi : i < esz
      · have h1 : (n * esz + i) % esz = i := by rw [Nat.mul_comm, Nat.mul_add_mod, Nat.mod_eq_of_lt hi]
        simp [hi, h1, hzs]
      · simp [hi]; omega
  rw [e]
  clear e
  induction n with
  | zero => exact .nil
  | succ n ih => rw [List.replicate_succ, List.replicate_succ, List.flatten_cons, List.flatten_cons]; exact hz.append ih


theorem zerosOne (ks : List K1) (n : Nat) : ∀ v ∈ (List.replicate n (ks.map K1.zero)).flatten, v.one = true := by
  intro v hv
  obtain ⟨l, hl, hv⟩ := List.mem_flatten.1 hv
  have := List.eq_of_mem_replicate hl
  subst this
  obtain ⟨k, -, rfl⟩ := List.mem_map.1 hv
  cases k <;> rfl

theorem appendZ_ok (T : TabOk P ty) {t t2 oty : TypeId} {x y : AV} {h : AH} {K : AV → AH → Prop} (hl : appendZ ty t t2 x y h K) {m : Mp} {w : World} {x' y' : Value} (s : Sim m h w) (hx : VRel m x x') (hy : VRel m y y') :
    ∃ v' w', (Builtin.append_ #[t, t2] oty #[x', y']).run P w = .ok v' w' ∧ Post m h w K v' w' := by
  unfold appendZ at hl
  split at hl
  · rename_i ks0 esz el k2 d2 len sz kk n hf hf2
    split at hl
    · rename_i agg ks d hel
      obtain ⟨hn0, hn, hl⟩ := hl
      cases hc : (Nat.beq ks.length esz && Nat.blt 0 esz) with
      | false => simp [hc] at hl
      | true =>
        simp only [hc, cond_true] at hl
        simp only [Bool.and_eq_true] at hc
        have hke := Nat.eq_of_beq_eq_true hc.1
        have hpos : 0 < esz := by have := Nat.le_of_ble_eq_true hc.2; omega
        obtain ⟨hu, -, ⟨ie, hie, hisz, hib, -⟩, z, hz, hzs⟩ := (T.plain hf).slice
        obtain ⟨u2, hu2, -, hk2, -⟩ := (T.plain hf2).desc
        obtain ⟨k3, e3, hk2⟩ := hk2 rfl
        cases e3
        cases u2 <;> simp [kindOk] at hk2
        obtain ⟨z2, hz2, hzr⟩ := (T.plain hel).zeroRun
        have hzz : ie.zero = some z := by
          have := hz w
          cases h0 : ie.zero with
          | none => simp [zeroValue, typeInfo, hie, h0, unsupported] at this
          | some z0 => simp [zeroValue, typeInfo, hie, h0] at this; rw [this]
        have hze : z2 = z := by
          have h1 := hz w; have h2 := hz2 w
          rw [h1] at h2; cases h2; rfl
        subst hze
        cases hx with | snil _ =>
        cases hy
        obtain ⟨N, rfl⟩ : ∃ N : Nat, n = N := ⟨n.toNat, (Int.toNat_of_nonneg (by omega)).symm⟩
        have hN0 : 0 < N := by omega
        have hN : N < 4294967296 := by omega
        have hrun := run_append_zeros (P := P) w t t2 oty el ie z2 hu hu2 hie hzz kk N hN0 hN hib (by omega) (cap_fits N ie.bytes 0 hN hib hN0)
        refine ⟨_, _, hrun, ?_⟩
        have hrel : VsRel m ((List.replicate N (ks.map K1.zero)).flatten) (Builtin.zeroCells z2.cells N).toList := by
          have := flatten_zeros m (hzr m) N esz hke
          have e : Builtin.zeroCells z2.cells N = (Array.range (N * esz)).map (z2.cells[· % z2.cells.size]!) := by rw [Builtin.zeroCells, hzs]
          rw [e]; exact this
        obtain ⟨m', a, b, c⟩ := newCells_post (more := (Builtin.zeroCells z2.cells (grownCap w N 0 el - N)).toList) s.drew 0 ⟨el, false, true⟩ hrel (zerosOne ks N) (Nat.zero_le _) (fun e => by cases e)
        have harr : ((Builtin.zeroCells z2.cells N).toList ++ (Builtin.zeroCells z2.cells (grownCap w N 0 el - N)).toList).toArray = Builtin.zeroCells z2.cells N ++ Builtin.zeroCells z2.cells (grownCap w N 0 el - N) := by
          apply Array.ext'; simp
        rw [harr] at a b
        have hge := grownCap_ge w N 0 el
        refine ⟨m', _, _, a, Steps.drew.trans b, ?_, hl⟩
        refine .slice ⟨h.next, 0⟩ N esz _ (grownCap w N 0 el) _ c hge ?_ (.inr rfl)
        have e1 : (Builtin.zeroCells z2.cells N).toList.length = N * esz := by rw [Array.length_toList, size_zeroCells, hzs]
        have e2 : (Builtin.zeroCells z2.cells (grownCap w N 0 el - N)).toList.length = (grownCap w N 0 el - N) * esz := by rw [Array.length_toList, size_zeroCells, hzs]
        simp only [e1, e2]
        rw [← Nat.add_mul, Nat.add_sub_cancel' hge]; omega
    · exact hl.elim
  · exact hl.elim

theorem clear_ok (T : TabOk P ty) {t oty : TypeId} {x : AV} {h : AH} {K : AV → AH → Prop} (hl : clearW ty t x h K) {m : Mp} {w : World} {x' : Value} (s : Sim m h w) (hx : VRel m x x') :
    ∃ v' w', (Builtin.clear_ #[t] oty #[x']).run P w = .ok v' w' ∧ Post m h w K v' w' := by
  unfold clearW at hl
  split at hl
  · rename_i ks0 esz el len sz hf
    obtain ⟨hu, -⟩ := (T.plain hf).slice
    cases hx
    exact ⟨.tuple #[], w, by simp [Builtin.clear_, run_underlying hu], m, h, _, s, Steps.refl _ _ _, .tuple [] #[] .nil, hl⟩
  · rename_i ks0 esz el p n sz hf
    obtain ⟨hu, -, -, z, hz, hzs⟩ := (T.plain hf).slice
    split at hl
    · rename_i agg ks d hel
      cases hc : (Nat.beq esz sz && Nat.beq ks.length esz) with
      | false => simp [hc] at hl
      | true =>
        simp only [hc, cond_true] at hl
        simp only [Bool.and_eq_true] at hc
        have e1 := Nat.eq_of_beq_eq_true hc.1; have e2 := Nat.eq_of_beq_eq_true hc.2
        subst e1
        obtain ⟨z2, hz2, hzr⟩ := (T.plain hel).zeroRun
        have hze : z2 = z := by
          have h1 := hz w; have h2 := hz2 w
          rw [h1] at h2; cases h2; rfl
        subst hze
        cases hx with | slice _ _ _ a cap sl hm c1 c2 c3 =>
        by_cases hn : n = 0
        · subst hn
          exact ⟨.tuple #[], w, by simp [Builtin.clear_, run_underlying hu], m, h, _, s, Steps.refl _ _ _, .tuple [] #[] .nil, hl.1 rfl⟩
        · obtain ⟨h', hw, hk⟩ := hl.2 (by omega)
          obtain rfl := c3.resolve_left (by omega)
          have hrel : VsRel m ((List.replicate n (ks.map K1.zero)).flatten) (Builtin.zeroCells z2.cells n).toList := by
            have := flatten_zeros m (hzr m) n esz e2
            have e : Builtin.zeroCells z2.cells n = (Array.range (n * esz)).map (z2.cells[· % z2.cells.size]!) := by rw [Builtin.zeroCells, hzs]
            rw [e]; exact this
          obtain ⟨t', ht, g1, g2, g3, g4⟩ := s.wr hw hrel (zerosOne ks n)
          rw [hm] at ht; cases ht
          have hst := run_storeCells_cells (P := P) sl.cb (sl.co + p.o) (Builtin.zeroCells z2.cells n).toList 0 w (by simpa using g1) (by simpa using g2) (one_cells hrel (zerosOne ks n))
          simp only [Nat.add_zero] at hst
          refine ⟨.tuple #[], _, ?_, m, h', _, g3, g4, .tuple [] #[] .nil, hk⟩
          have hst' : (storeCells (sl.addr p.o) (Builtin.zeroCells z2.cells n).toList).run P w = .ok () (w.setCells sl.cb (sl.co + p.o) (Builtin.zeroCells z2.cells n).toList) := hst
          obtain ⟨k, rfl⟩ : ∃ k, n = k + 1 := ⟨n - 1, by omega⟩
          simp [Builtin.clear_, run_underlying hu, hz w, hst']
    · exact hl.elim
  · exact hl.elim
end Go.La
/- Layer A: a text out of bytes (unsafe.String). -/
namespace Go.La
open Go Go.RowKit

variable {P : Program} {ty : TT}

theorem liesAt_bytes_at {e : TypeId} (hc : P.cellsOf e = 1) (count off n : Nat) (hn : off + n ≤ count) : liesAt P P.depth e count off e n = true := by
  have hd : P.depth = (2 * (P.types.size + Made.depth) + 1) + 1 := rfl
  rw [hd]
  simp only [liesAt, Bool.or_eq_true]
  left
  rw [hd]
  simp [rowAt, hc, hn, sameLayout, Nat.mod_one]

theorem run_ust (w : World) (pt it ty e : TypeId) (k : IntKind) (hp : P.underlying pt = some (.pointer e)) (hc : P.cellsOf e = 1) (g off cells : Nat) (hsh : w.shape? g = some (e, cells)) (l : List UInt8) (h0 : l ≠ []) (hn : off + l.length ≤ cells) (h63 : l.length ≤ 9223372036854775807)
    (hcell : ∀ j x, l[j]? = some x → w.cell? ((⟨g, off, none⟩ : Addr).add j) = some (.int .u8 x.toNat)) :
    (Builtin.unsafeString_ #[pt, it] ty #[.pointer (some ⟨g, off, none⟩), .int k l.length]).run P w = .ok (.string ⟨l.toArray⟩) (w.freeze ⟨g, off, none⟩ l.length) := by
  have hl : l.length ≠ 0 := by simpa using h0
  have hlb := Lib.run_loadBytes (P := P) w l ⟨g, off, none⟩ .empty hcell
  have hlies := liesAt_bytes_at (P := P) hc (cells / P.cellsOf e) off l.length (by rw [hc]; simpa using hn)
  have h63' : ¬ (9223372036854775807 : Int) < (l.length : Int) := by omega
  have hdef : Builtin.unsafeString_ #[pt, it] ty #[.pointer (some ⟨g, off, none⟩), .int k l.length] =
      (do
        let n ← asInt (.int k l.length)
        if n < 0 then runtimePanic (.error "unsafe.String: len out of range")
        if n > IntKind.i64.max then unsupported (.unsafePointer "String: a length above the largest int")
        if n = 0 then pure (.string .empty)
        else if ← variablesAt ⟨g, off, none⟩ (← elemOf pt) n.toNat then do
          let s ← loadBytes ⟨g, off, none⟩ .empty n.toNat
          freeze ⟨g, off, none⟩ n.toNat
          pure (.string s)
        else unsupported (.unsafePointer "String: not so many bytes at ptr")) := rfl
  rw [hdef]
  have hmax : IntKind.i64.max = 9223372036854775807 := rfl
  have hneg : ¬ (l.length : Int) < 0 := by omega
  simp [asInt, asIntOf, hmax, h63', hneg, hl, variablesAt, hsh, elemOf, run_underlying hp, hlies, hlb]

theorem ust_ok (T : TabOk P ty) {pt it oty : TypeId} {p n : AV} {h : AH} {K : AV → AH → Prop} (hl : ustW ty pt p n h K) {m : Mp} {w : World} (s : Sim m h w) {p' n' : Value} (hp : VRel m p p') (hn : VRel m n n') :
    ∃ v' w', (Builtin.unsafeString_ #[pt, it] oty #[p', n']).run P w = .ok v' w' ∧ Post m h w K v' w' := by
  unfold ustW at hl
  split at hl
  · rename_i u k nn hf
    split at hl
    · rename_i d hu
      obtain ⟨h0, h63, hz, hpos⟩ := hl
      obtain ⟨pu, hpu, -, -, hd⟩ := (T.plain hf).desc
      have hpe : P.underlying pt = some (.pointer u) := by
        cases pu <;> simp [descOk] at hd
        rw [hpu, hd.1]
      have hc1 : P.cellsOf u = 1 := by
        obtain ⟨i, h1, h2, _⟩ := (T.plain hu).size
        simp [Program.cellsOf, h1, h2]
      cases hn
      by_cases e0 : nn = 0
      · subst e0
        obtain ⟨⟨q, rfl⟩, hk⟩ := hz rfl
        have hr : ∀ a : Option Addr, (Builtin.unsafeString_ #[pt, it] oty #[.pointer a, .int k 0]).run P w = .ok (.string .empty) w := by
          intro a
          have hmax : IntKind.i64.max = 9223372036854775807 := rfl
          have hdef : Builtin.unsafeString_ #[pt, it] oty #[.pointer a, .int k 0] =
              (do
                let n ← asInt (.int k 0)
                if n < 0 then runtimePanic (.error "unsafe.String: len out of range")
                if n > IntKind.i64.max then unsupported (.unsafePointer "String: a length above the largest int")
                match a with
                | none =>
                  if n = 0 then pure (.string .empty)
                  else runtimePanic (.error "unsafe.String: ptr is nil and len is not zero")
                | some a =>
                  if n = 0 then pure (.string .empty)
                  else if ← variablesAt a (← elemOf pt) n.toNat then do
                    let s ← loadBytes a .empty n.toNat
                    freeze a n.toNat
                    pure (.string s)
                  else unsupported (.unsafePointer "String: not so many bytes at ptr")) := rfl
          rw [hdef]
          cases a <;> simp [asInt, asIntOf, hmax]
        cases hp with
        | pnil => exact ⟨_, w, hr none, m, h, _, s, Steps.refl _ _ _, .str [], hk⟩
        | ptr a sl hm => exact ⟨_, w, hr _, m, h, _, s, Steps.refl _ _ _, .str [], hk⟩
      · have hpos := hpos (by omega)
        cases p with
        | ptr q =>
          cases q with
          | none => exact hpos.elim
          | some a =>
          obtain ⟨fz, el, c, sb, hb, hcl, het, hlen, hcs, hk⟩ := hpos
          cases hp with | ptr _ sl hm =>
          obtain ⟨arr, lo, hi, hw, hsz, hcr, hcv, hfz, hwc⟩ := s.cells _ _ _ _ _ _ hb hm
          have hsl : sb.length = nn.toNat := by
            have := congrArg List.length hcs
            simp only [List.length_take, List.length_drop, List.length_map] at this
            omega
          have hne : sb ≠ [] := fun e => by rw [e] at hsl; simp at hsl; omega
          have hcell : ∀ j x, sb[j]? = some x → w.cell? ((⟨sl.cb, sl.co + a.o, none⟩ : Addr).add j) = some (.int .u8 x.toNat) := by
            intro j x hj
            have hjl : j < sb.length := (List.getElem?_eq_some_iff.1 hj).1
            have h1 : (sb.map byteC)[j]? = some (byteC x) := by simp [hj]
            rw [← hcs, List.getElem?_take, if_pos (by omega), List.getElem?_drop] at h1
            obtain ⟨_, v', g1, g2⟩ := hcv _ _ h1
            cases g2
            have hadd : ((⟨sl.cb, sl.co + a.o, none⟩ : Addr).add j) = ⟨sl.cb, sl.co + (a.o + j), none⟩ := by
              unfold Addr.add
              split
              · rename_i e; subst e; simp
              · simp; omega
            rw [hadd]
            simp only [World.cell?, hw]
            simpa using g1
          have hsh : w.shape? sl.cb = some (u, arr.size) := by unfold World.shape?; rw [hw]; simp [het]
          have hrun := run_ust (P := P) w pt it oty u k hpe hc1 sl.cb (sl.co + a.o) arr.size hsh sb hne (by omega) (by omega) hcell
          rw [show ((sb.length : Nat) : Int) = nn by omega] at hrun
          let f' : Nat × Nat := if lo == hi then (sl.co + a.o, sl.co + a.o + sb.length) else (min lo (sl.co + a.o), max hi (sl.co + a.o + sb.length))
          have hwf : (w.freeze ⟨sl.cb, sl.co + a.o, none⟩ sb.length).heap[sl.cb]? = some (.cells arr el.t f') := by
            unfold World.freeze
            rw [if_neg (by omega)]
            simp only [Array.getElem?_modify, if_true, hw, Option.map_some, f']
          have hother : ∀ k, k < w.heap.size → k ≠ sl.cb → (w.freeze ⟨sl.cb, sl.co + a.o, none⟩ sb.length).heap[k]? = w.heap[k]? := by
            intro k _ hk
            unfold World.freeze
            split
            · rfl
            · simp only [Array.getElem?_modify]; rw [if_neg (fun e => hk e.symm)]
          have hsize : (w.freeze ⟨sl.cb, sl.co + a.o, none⟩ sb.length).heap.size = w.heap.size := by
            unfold World.freeze; split <;> simp
          have hmisc : (w.freeze ⟨sl.cb, sl.co + a.o, none⟩ sb.length).os = w.os ∧ (w.freeze ⟨sl.cb, sl.co + a.o, none⟩ sb.length).tape = w.tape ∧ (w.freeze ⟨sl.cb, sl.co + a.o, none⟩ sb.length).output = w.output := by
            unfold World.freeze; split <;> exact ⟨rfl, rfl, rfl⟩
          have hbound : sl.co ≤ f'.1 ∧ f'.2 ≤ sl.co + max fz (a.o + nn.toNat) := by
            simp only [f']
            rcases hwc.2 hcl with e | ⟨e1, e2⟩
            · rw [if_pos (by simp [e])]; simp only; omega
            · split <;> simp only <;> omega
          refine ⟨_, _, hrun, m, _, _, s.turn hb hm (by rw [hsize]; exact Nat.le_refl _) hother hw hwf rfl hcr (fun i v hv => hcv i v hv) (by have := (hfz rfl).1; omega) (fun i h1 h2 => by omega) (fun _ => .inr hbound) (fun _ => rfl),
            Steps.turn hb rfl hm (by rw [hsize]; exact Nat.le_refl _) hmisc hother, .str sb, hk⟩
        | _ => exact hpos.elim
    · exact hl.elim
  · exact hl.elim
end Go.La
/- Layer A, part 9: what is asked of an operation that makes, writes or calls is enough. -/
namespace Go.La
open Go Go.RowKit

variable {P : Program} {ty : TT}

theorem resW_iff {t : TypeId} {v : AV} {K : AV → Prop} (h : resW ty t v K) : ∃ v', K v' ∧ ∀ (m : Mp) (u : Value), VRel m v u → VRel m v' u := by
  unfold resW at h
  split at h
  · obtain ⟨x, rfl, hk⟩ := h; exact ⟨_, hk, fun m u hr => hr⟩
  · obtain ⟨x, rfl, hk⟩ := h; exact ⟨_, hk, fun m u hr => hr⟩
  · exact ⟨_, h, fun m u hr => hr⟩
  · exact ⟨_, h, fun m u _ => .dead u⟩

theorem run_v {s : Sem Value} {v : Value} {w w' : World} (h : s.run P w = .ok v w') : (do pure (Next.value (← s)) : Sem Next).run P w = .ok (.value v) w' := by
  simp [h]

/-- A new block, some of which, behind its own room, may not be written. -/
theorem newCells_frozen {m : Mp} {h : AH} {w : World} (s : Sim m h w) {l : List AV} {arr : Array Value} (el : El) (lo hi : Nat) (hwh : el.wh = false) (hcl : el.cl = false) (hl : ∀ (i : Nat) (v : AV), l[i]? = some v → v.one = true ∧ ∃ v', arr[i]? = some v' ∧ VRel m v v') (hlen : l.length ≤ arr.size) (hlo : arr.size ≤ lo) :
    Sim (m.ins h.next ⟨w.heap.size, 0, arr.size⟩) (h.new (.cells false 0 el l)) (w.alloc (.cells arr el.t (lo, hi))) ∧ Steps m h w (m.ins h.next ⟨w.heap.size, 0, arr.size⟩) (h.new (.cells false 0 el l)) (w.alloc (.cells arr el.t (lo, hi))) := by
  have hle : m.le (m.ins h.next ⟨w.heap.size, 0, arr.size⟩) := Mp.le_ins (s.top h.next (Nat.le_refl _)).2
  refine s.make rfl (fun ro' fz' el' c e => ?_) (fun e => (e _ _ _ _ rfl).elim)
  cases e
  refine ⟨arr, lo, hi, by show (w.heap.push _)[w.heap.size]? = _; simp, by simp, hlen, fun i v hv => ?_, fun _ => ⟨Nat.zero_le _, fun i _ h2 => ?_⟩, (fun e => by rw [hwh] at e; cases e), fun e => by rw [hcl] at e; cases e⟩
  · obtain ⟨a1, v', a2, a3⟩ := hl i v hv
    exact ⟨a1, v', by simpa using a2, a3.mono hle⟩
  · simp only at h2; simp; omega

theorem storeVar_run {m : Mp} {h h' : AH} {w : World} (s : Sim m h w) {t : TypeId} {agg : Bool} {ks : List K1} {d : TD} (hp : PlainOk P t agg ks d) {a : Pt} {sl : Slot} (hm : m a.b = some sl) {l : List AV} (hw : h.wr a l = some h') (hone : ∀ x ∈ l, x.one = true)
    {v : Value} (hv : VsRel m l v.cells.toList) (hs : v.cells.size = ks.length) :
    ∃ w', (Instr.storeAt t (.pointer (some (sl.addr a.o))) v).run P w = .ok () w' ∧ Sim m h' w' ∧ Steps m h w m h' w' := by
  obtain ⟨t', ht, g1, g2, g3, g4⟩ := s.wr hw hv hone
  rw [hm] at ht; cases ht
  refine ⟨_, ?_, g3, g4⟩
  have hst := run_storeCells_cells (P := P) sl.cb (sl.co + a.o) v.cells.toList 0 w (by simpa using g1) (by simpa using g2) (one_cells hv hone)
  simp only [Nat.add_zero] at hst
  have hsz := hp.sizeRun w
  simp only [Instr.storeAt, Instr.sureAddr, storeVar, Sem.run_bind, Sem.run_pure, Result.andThen_ok, hsz]
  simp only [hs, ne_eq, not_true_eq_false, if_false, Slot.addr]
  exact hst

theorem heavy_ok (T : TabOk P ty) (o : Oper) (e : Operand → AV) (h : AH) (K : AV → AH → Prop) (hl : heavyW P ty o.op o.type e h K)
    (m : Mp) (w : World) (ρ : Operand → Value) (s : Sim m h w) (hx : ∀ x ∈ o.op.operands, VRel m (e x) (ρ x)) : NextOk P (Post m h w K) ((execOp ρ o).run P w) := by
  obtain ⟨dst, op, type, pos, after, guard⟩ := o
  simp only at hl hx
  cases op with
  | alloc t =>
    simp only [heavyW] at hl
    split at hl
    · rename_i agg ks d hf
      obtain ⟨z, hz1, hz2⟩ := (T.plain hf).zeroRun
      have : (Instr.alloc t true (.tuple #[])).run P w = .ok (.pointer (some ⟨w.heap.size, 0, none⟩)) (w.alloc (.cells z.cells t)) := by
        simp only [Instr.alloc, Sem.run_bind, hz1, Result.andThen_ok, newVar, run_newRow]; rfl
      simp only [execOp, run_v this]
      exact post_new s ⟨t, true, true⟩ (hz2 m) (zeros_one ks) hl
    · exact hl.elim
  | box t x =>
    simp only [heavyW] at hl
    split at hl
    · rename_i agg ks d hf
      obtain ⟨l, hk, h1, h2, h3⟩ := cellsThen_ok hl
      obtain ⟨g1, g2⟩ := h3 m (ρ x) (hx x (by simp [Op.operands]))
      have : (Instr.box t (ρ x)).run P w = .ok (.pointer (some ⟨w.heap.size, 0, none⟩)) (w.alloc (.cells (ρ x).cells t)) := by
        simp only [Instr.box, Sem.run_bind, newVar, run_newRow]; rfl
      simp only [execOp, run_v this]
      exact post_new s ⟨t, true, true⟩ g1 h2 hk
    · exact hl.elim
  | buildSlice t n ps =>
    simp only [heavyW] at hl
    split at hl
    · rename_i agg ks0 esz el hf
      split at hl
      · rename_i agg2 ks d2 hel
        cases hc : (Nat.ble (n * esz) 16777216 && Nat.beq ks.length esz && goodParts (ps.toList.map fun (i, x) => (i, e x))) with
        | false => simp [hc] at hl
        | true =>
          simp only [hc, cond_true] at hl
          simp only [Bool.and_eq_true] at hc
          have hn : n * esz ≤ 16777216 := Nat.le_of_ble_eq_true hc.1.1
          have hke : ks.length = esz := Nat.eq_of_beq_eq_true hc.1.2
          split at hl
          · rename_i r hfl
            rw [oneThen_iff] at hl
            obtain ⟨hu, hse, -, -⟩ := (T.plain hf).slice
            obtain ⟨z, hz1, hz2⟩ := (T.plain hel).zeroRun
            have hzl : z.cells.size = esz := by have := (hz2 m).length; simp at this; omega
            have hzero : VsRel m ((List.replicate n (ks.map K1.zero)).flatten) ((Array.range (n * esz)).map (z.cells[· % z.cells.size]!)).toList := flatten_zeros m (hz2 m) n esz hke
            obtain ⟨rs, g1, g2⟩ := fill_rel (ps.toList.map fun (i, x) => (i, e x)) (ps.map fun (i, x) => (i, ρ x)).toList _ r ((Array.range (n * esz)).map (z.cells[· % z.cells.size]!)) hfl hc.2 hzero (by simp) (fun j p q hp hq => by
              simp only [List.getElem?_map, Array.toList_map] at hp hq
              cases hj : ps.toList[j]? with
              | none => simp [hj] at hp
              | some px =>
                obtain ⟨pi, px⟩ := px
                simp [hj] at hp hq
                subst hp; subst hq
                refine ⟨rfl, hx px ?_⟩
                have := List.mem_of_getElem? hj
                simp only [Op.operands, List.mem_toArray, List.mem_map]
                exact ⟨_, this, rfl⟩)
            have hrl : rs.size = n * esz := by
              have h1 := g2.length
              have h2 : r.length = ((List.replicate n (ks.map K1.zero)).flatten).length := by
                clear g1 g2 hl h1
                have aux : ∀ (l : List (Nat × AV)) (c r : List AV), fillA (fun i => some (i * esz, esz)) c l = some r → r.length = c.length := by
                  intro l
                  induction l with
                  | nil => intro c r h; simp [fillA] at h; rw [h]
                  | cons p l ih =>
                    intro c r h
                    obtain ⟨i, v⟩ := p
                    simp only [fillA] at h
                    cases hb : (Nat.beq v.cellsA.length esz && Nat.ble (i * esz + esz) c.length) with
                    | false => simp [hb] at h
                    | true =>
                      simp only [hb, cond_true] at h
                      simp only [Bool.and_eq_true] at hb
                      have b1 := Nat.eq_of_beq_eq_true hb.1; have b2 := Nat.le_of_ble_eq_true hb.2
                      rw [ih _ _ h, splice_length _ _ _ (by omega)]
                exact aux _ _ _ hfl
              simp only [Array.length_toList] at h1
              rw [← h1, h2]
              simp [List.length_flatten, hke]
            have hn' : ¬ (n * esz > 2 ^ 24) := by omega
            have hrun : (Instr.buildSlice t n (ps.map fun (i, x) => (i, ρ x))).run P w = .ok (.slice (some ⟨w.heap.size, 0, none⟩) n n) (w.alloc (.cells rs el)) := by
              by_cases h0 : n * esz = 0
              · have g1' : Instr.fill (fun i => some (i * esz, esz)) ((Array.range (n * esz)).map ((#[] : Array Value)[· % (#[] : Array Value).size]!)) (ps.map fun (i, x) => (i, ρ x)).toList = some rs := by
                  have e0 : Array.range (n * esz) = #[] := by rw [h0]; rfl
                  rw [e0] at g1 ⊢; simpa using g1
                simp only [Instr.buildSlice, Sem.run_bind, run_underlying hu, Result.andThen_ok, hse, if_neg hn', if_pos h0, Sem.run_pure]
                split
                · rename_i cells hcc
                  have : cells = rs := Option.some.inj (hcc.symm.trans g1')
                  subst this
                  simp only [Sem.run_bind, run_newRow, Result.andThen_ok, Sem.run_pure]
                · rename_i hcc
                  exact (hcc _ g1').elim
              · simp only [Instr.buildSlice, Sem.run_bind, run_underlying hu, Result.andThen_ok, hse, if_neg hn', if_neg h0, Sem.run_pure, hz1]
                split
                · rename_i cells hcc
                  have : cells = rs := Option.some.inj (hcc.symm.trans g1)
                  subst this
                  simp only [Sem.run_bind, run_newRow, Result.andThen_ok, Sem.run_pure]
                · rename_i hcc
                  exact (hcc _ g1).elim
            simp only [execOp, run_v hrun]
            obtain ⟨m', a, b, c⟩ := newCells_post (more := []) s 0 ⟨el, false, true⟩ g2 hl.1 (Nat.zero_le _) (fun _ => rfl)
            rw [List.append_nil, Array.toArray_toList] at a b
            refine ⟨m', _, _, a, b, ?_, hl.2⟩
            refine .slice ⟨h.next, 0⟩ n esz _ n _ c (Nat.le_refl _) ?_ (.inr rfl)
            simp [hrl]
          · exact hl.elim
      · exact hl.elim
    · exact hl.elim
  | store t p x =>
    simp only [heavyW] at hl
    split at hl
    · rename_i agg ks d hf
      obtain ⟨l, hk, h1, h2, h3⟩ := cellsThen_ok hl
      obtain ⟨g1, g2⟩ := h3 m (ρ x) (hx x (by simp [Op.operands]))
      have r1 := hx p (by simp [Op.operands])
      split at hk
      · rename_i q hq
        rw [needSome_iff] at hk
        obtain ⟨a, rfl, h', hw, hk⟩ := hk
        rw [hq] at r1
        generalize hρ : ρ p = pv at *; cases r1 with | ptr _ sl hm =>
        obtain ⟨w', q1, q2, q3⟩ := storeVar_run s (T.plain hf) hm hw h2 g1 g2
        simp only [execOp, hρ, Sem.run_bind, q1, Result.andThen_ok]
        exact ⟨m, h', _, q2, q3, .dead _, hk⟩
      · rename_i hq
        rw [hq] at r1
        cases hb : Nat.beq ks.length 0 with
        | false => simp [hb] at hk
        | true =>
          simp only [hb, cond_true] at hk
          have h0 := Nat.eq_of_beq_eq_true hb
          generalize hρ : ρ p = pv at *; cases r1 with | anyptr a =>
          have hsz := (T.plain hf).sizeRun w
          have hcs : (ρ x).cells.toList = [] := by
            have : (ρ x).cells.toList.length = 0 := by rw [Array.length_toList]; omega
            simpa using this
          have : (Instr.storeAt t (.pointer (some a)) (ρ x)).run P w = .ok () w := by
            simp [Instr.storeAt, Instr.sureAddr, storeVar, hsz, g2, hcs, storeCells]
          simp only [execOp, hρ, Sem.run_bind, this, Result.andThen_ok]
          exact ⟨m, h, _, s, Steps.refl _ _ _, .dead _, hk⟩
      · exact hk.elim
    · exact hl.elim
  | makeMap t r =>
    simp only [heavyW] at hl
    split at hl
    · have : (Instr.makeMap t none).run P w = .ok (.map (some w.heap.size)) (w.alloc (.map #[] 0)) := by
        simp [Instr.makeMap, newObj, Sem.run, World.alloc_eq]
      simp only [execOp, Option.map_none, run_v this]
      obtain ⟨a, b⟩ := s.make (o := .map [] 0) (ob := .map #[] 0) (t := ⟨w.heap.size, 0, 0⟩) rfl (fun _ _ _ _ e => by cases e) (fun _ => ⟨rfl, .map [] #[] 0 trivial⟩)
      exact ⟨_, _, _, a, b, .map h.next ⟨w.heap.size, 0, 0⟩ (by simp [Mp.ins]), hl⟩
    · exact hl.elim
  | mapUpdate t x k v =>
    simp only [heavyW] at hl
    obtain ⟨w', g1, g2⟩ := mapUp_ok T hl s (hx x (by simp [Op.operands])) (hx k (by simp [Op.operands])) (hx v (by simp [Op.operands]))
    simp only [execOp, Sem.run_bind, g1, Result.andThen_ok]; exact g2
  | insert t x k v =>
    simp only [heavyW] at hl
    obtain ⟨w', g1, g2⟩ := mapUp_ok T hl s (hx x (by simp [Op.operands])) (hx k (by simp [Op.operands])) (hx v (by simp [Op.operands]))
    simp only [execOp, Sem.run_bind, g1, Result.andThen_ok]; exact g2
  | mapEntry t x k =>
    simp only [heavyW] at hl
    obtain ⟨v', w', g1, g2⟩ := mapEntry_ok T hl s (hx x (by simp [Op.operands])) (hx k (by simp [Op.operands]))
    have : (execOp ρ ⟨dst, .mapEntry t x k, type, pos, after, guard⟩).run P w = .ok (.value v') w' := by simp only [execOp]; exact run_v g1
    rw [this]; exact g2
  | entryStore t x st v =>
    simp only [heavyW] at hl
    obtain ⟨w', g1, g2⟩ := entryStore_ok (P := P) (mt := t) hl s (hx x (by simp [Op.operands])) (hx st (by simp [Op.operands])) (hx v (by simp [Op.operands]))
    simp only [execOp, Sem.run_bind, g1, Result.andThen_ok]; exact g2
  | convert sT dT x =>
    simp only [heavyW] at hl
    split at hl
    · rename_i d0 ks el sb hs hd hq
      obtain ⟨u, hu, -, hk0, -⟩ := (T.plain hs).desc
      obtain ⟨k0, e0, hk0⟩ := hk0 rfl
      cases e0
      cases u <;> simp [kindOk] at hk0
      obtain ⟨hu2, hse, -, -⟩ := (T.plain hd).slice
      cases hue : P.underlying el with
      | none => simp [hue] at hl
      | some ue =>
        simp only [hue] at hl
        split at hl
        · rename_i he8
          cases he8
          have r1 := hx x (by simp [Op.operands]); rw [hq] at r1
          generalize hρ : ρ x = xv at *; cases r1
          let cap := grownCap w sb.length 0 el
          let arr : Array Value := (sb.toArray.map fun b => Value.int .u8 b.toNat) ++ Array.replicate (cap - sb.length) (.int .u8 0)
          have hge : sb.length ≤ cap := grownCap_ge w sb.length 0 el
          have has : arr.size = cap := by simp [arr]; omega
          have hsz : (ByteArray.mk sb.toArray).size = sb.length := by simp [ByteArray.size]
          obtain ⟨a, b⟩ := newCells_frozen s.drew (l := sb.map byteA) (arr := arr) ⟨el, false, false⟩ cap (cap + 1) rfl rfl (fun i v hv => by
            have hi : i < sb.length := by have := (List.getElem?_eq_some_iff.1 hv).1; simpa using this
            simp only [List.getElem?_map, List.getElem?_eq_getElem hi, Option.map_some] at hv
            cases hv
            refine ⟨rfl, .int .u8 sb[i].toNat, ?_, .int _ _⟩
            simp only [arr]
            rw [Array.getElem?_append_left (by simpa using hi)]
            simp [hi]) (by simp; omega) (by omega)
          have hfz : ((w.drew.alloc (.cells arr el)).freeze ⟨w.heap.size, cap, none⟩ 1) = w.drew.alloc (.cells arr el (cap, cap + 1)) := by
            unfold World.freeze
            rw [if_neg (by omega)]
            show World.mk _ _ _ _ _ = World.mk _ _ _ _ _
            congr 1
            show (w.heap.push (.cells arr el)).modify w.heap.size _ = w.heap.push _
            apply Array.ext'
            apply List.ext_getElem?
            intro j
            simp only [Array.getElem?_toList, Array.getElem?_modify, Array.getElem?_push]
            by_cases hj : w.heap.size = j
            · subst hj; simp
            · simp [hj, show ¬ j = w.heap.size from fun e => hj e.symm]
          have hsh : (w.drew.alloc (.cells arr el)).shape? w.heap.size = some (el, cap) := by
            have : (w.drew.alloc (.cells arr el)).heap[w.heap.size]? = some (.cells arr el) := by show (w.heap.push _)[w.heap.size]? = _; simp
            unfold World.shape?; rw [this]; simp only [has]
          have hrun : (convert sT dT (.string ⟨sb.toArray⟩)).run P w = .ok (.slice (some ⟨w.heap.size, 0, none⟩) sb.length cap) (w.drew.alloc (.cells arr el (cap, cap + 1))) := by
            have hch : (choose (.appendCap sb.length 0 el)).run P w = .ok cap w.drew := by
              simp [Question.forced, cap, grownCap]
            have hms : (markStringish ⟨w.heap.size, 0, none⟩).run P (w.drew.alloc (.cells arr el)) = .ok () (w.drew.alloc (.cells arr el (cap, cap + 1))) := by
              rw [← hfz]
              simp [markStringish, shape, Sem.run, hsh, freeze]
            simp only [convert, Sem.run_bind, run_underlying hu, run_underlying hu2, run_underlying hue, Result.andThen_ok, Conv.stringToBytes, hsz, hch, run_newRow]
            have : (w.drew.heap.size) = w.heap.size := rfl
            simp only [this]
            rw [show (Array.map (fun b : UInt8 => Value.int IntKind.u8 (b.toNat : Int)) sb.toArray ++ Array.replicate (cap - sb.length) (.int .u8 0)) = arr from rfl, hms]
            rfl
          simp only [execOp, hρ, run_v hrun]
          refine ⟨_, _, _, a, Steps.drew.trans b, ?_, hl⟩
          refine .slice ⟨h.next, 0⟩ sb.length 1 _ cap _ (by simp [Mp.ins]; rfl) hge (by simp [has]) (.inr rfl)
        · exact hl.elim
    · exact hl.elim
  | call c =>
    obtain ⟨callee, args, argTypes⟩ := c
    simp only [heavyW] at hl
    split at hl
    · split at hl
      · rename_i t t2 x y ht hxs
        have ea : args = #[x, y] := by cases args; simp at hxs; subst hxs; rfl
        have et : argTypes = #[t, t2] := by cases argTypes; simp at ht; subst ht; rfl
        subst ea; subst et
        cases hni : noInt ty t2 with
        | false =>
          simp only [hni, cond_false] at hl
          obtain ⟨v', w', g1, g2⟩ := appendZ_ok (P := P) (oty := type) T hl s (hx x (by simp [Op.operands, Call.operands])) (hx y (by simp [Op.operands, Call.operands]))
          have : (execOp ρ ⟨dst, .call ⟨.builtin .append, #[x, y], #[t, t2]⟩, type, pos, after, guard⟩).run P w = .ok (.value v') w' := by
            simp [execOp, resolve, invoke, builtin, g1]
          rw [this]; exact g2
        | true =>
          simp only [hni, cond_true] at hl
          have hkind := noInt_run T hni
          have r1 := hx x (by simp [Op.operands, Call.operands]); have r2 := hx y (by simp [Op.operands, Call.operands])
          have fin : ∀ v' w', (Builtin.append_ #[t, t2] type #[ρ x, ρ y]).run P w = .ok v' w' → Post m h w K v' w' → NextOk P (Post m h w K) ((execOp ρ ⟨dst, .call ⟨.builtin .append, #[x, y], #[t, t2]⟩, type, pos, after, guard⟩).run P w) := by
            intro v' w' hr hp
            have : (execOp ρ ⟨dst, .call ⟨.builtin .append, #[x, y], #[t, t2]⟩, type, pos, after, guard⟩).run P w = .ok (.value v') w' := by
              simp [execOp, resolve, invoke, builtin, hr]
            rw [this]; exact hp
          unfold appendW at hl
          split at hl
          · rename_i ks esz el p len sz q k sz' hf hex hey
            cases hb : (Nat.beq esz sz && Nat.beq sz sz') with
            | false => simp [hb] at hl
            | true =>
              simp only [hb, cond_true] at hl
              simp only [Bool.and_eq_true] at hb
              have e1 := Nat.eq_of_beq_eq_true hb.1; have e2 := Nat.eq_of_beq_eq_true hb.2
              subst e1; subst e2
              obtain ⟨ys, hys, hap⟩ := hl
              rw [hex] at r1; rw [hey] at r2
              obtain ⟨base, cap, ys', f1, f2, f3, f4, f5⟩ := SlAt_run (P := P) s hys r2
              have src : Src P esz t2 (ρ y) k ys' w := ⟨hkind, fun w1 => by rw [f1]; simp [Builtin.lenOf], f2 w rfl, f2 _ rfl, f4, one_cells f3 f5⟩
              obtain ⟨v', w', g1, g2⟩ := append_ok s (T.plain hf) (tt2 := type) hap r1 src f3 f5
              exact fin v' w' g1 g2
          · rename_i ks esz el p len sz sb hf hex hey
            cases hb : (Nat.beq esz 1 && Nat.beq sz 1) with
            | false => simp [hb] at hl
            | true =>
              simp only [hb, cond_true] at hl
              simp only [Bool.and_eq_true] at hb
              have e1 := Nat.eq_of_beq_eq_true hb.1; have e2 := Nat.eq_of_beq_eq_true hb.2
              subst e1; subst e2
              rw [hex] at r1; rw [hey] at r2
              generalize hρy : ρ y = yv at *
              cases r2
              have hsz : (ByteArray.mk sb.toArray).size = sb.length := by simp [ByteArray.size]
              have hbc : byteCells ⟨sb.toArray⟩ = sb.map fun b => Value.int .u8 b.toNat := by simp [byteCells]
              have src : Src P 1 t2 (.string ⟨sb.toArray⟩) sb.length (sb.map fun b => Value.int .u8 b.toNat) w := by
                have f1 := firstCells_string (P := P) ⟨sb.toArray⟩
                rw [hsz, hbc] at f1
                exact ⟨hkind, fun w1 => by simp [Builtin.lenOf, hsz], f1 w, f1 w.drew, by simp, fun u hu => by obtain ⟨_, _, rfl⟩ := List.mem_map.1 hu; rfl⟩
              obtain ⟨v', w', g1, g2⟩ := append_ok s (T.plain hf) (tt2 := type) hl r1 src (bytes_rel m sb) (fun v hv => by obtain ⟨_, _, rfl⟩ := List.mem_map.1 hv; rfl)
              exact fin v' w' g1 g2
          · exact hl.elim
      · exact hl.elim
    · split at hl
      · rename_i t t2 x k hts has
        obtain ⟨args⟩ := args
        obtain ⟨argTypes⟩ := argTypes
        simp only at hts has
        subst hts; subst has
        obtain ⟨v', w', g1, g2⟩ := delete_ok (P := P) (t2 := t2) (oty := type) T hl s (hx x (by simp [Op.operands, Call.operands])) (hx k (by simp [Op.operands, Call.operands]))
        have : (execOp ρ ⟨dst, .call ⟨.builtin .delete, #[x, k], #[t, t2]⟩, type, pos, after, guard⟩).run P w = .ok (.value v') w' := by
          simp [execOp, resolve, invoke, builtin, g1]
        rw [this]; exact g2
      · exact hl.elim
    · split at hl
      · rename_i t x hts has
        obtain ⟨args⟩ := args
        obtain ⟨argTypes⟩ := argTypes
        simp only at hts has
        subst hts; subst has
        obtain ⟨v', w', g1, g2⟩ := clear_ok (P := P) (oty := type) T hl s (hx x (by simp [Op.operands, Call.operands]))
        have : (execOp ρ ⟨dst, .call ⟨.builtin .clear, #[x], #[t]⟩, type, pos, after, guard⟩).run P w = .ok (.value v') w' := by
          simp [execOp, resolve, invoke, builtin, g1]
        rw [this]; exact g2
      · exact hl.elim
    · split at hl
      · rename_i t t2 x y hts has
        obtain ⟨args⟩ := args
        obtain ⟨argTypes⟩ := argTypes
        simp only at hts has
        subst hts; subst has
        obtain ⟨v', w', g1, g2⟩ := ust_ok (P := P) (it := t2) (oty := type) T hl s (hx x (by simp [Op.operands, Call.operands])) (hx y (by simp [Op.operands, Call.operands]))
        have : (execOp ρ ⟨dst, .call ⟨.builtin .unsafeString, #[x, y], #[t, t2]⟩, type, pos, after, guard⟩).run P w = .ok (.value v') w' := by
          simp [execOp, resolve, invoke, builtin, g1]
        rw [this]; exact g2
      · exact hl.elim
    · rename_i f
      have r1 := hx f (by simp [Op.operands, Call.operands])
      have hargs : VsRel m (argsE ty e args.toList argTypes.toList) (args.toList.map ρ) :=
        argsE_rel _ _ fun y hy => hx y (by simp only [Op.operands, Call.operands]; simp at hy ⊢; exact .inr hy)
      have := hl m w (ρ f) (args.toList.map ρ) s r1 hargs
      have hex : (execOp ρ ⟨dst, .call ⟨.value f, args, argTypes⟩, type, pos, after, guard⟩) = (do let d ← Deferred.ofValue (ρ f) (args.toList.map ρ).toArray; invoke d.target d.args : Sem Next) := by
        simp only [execOp, resolve]
        congr 1
        simp [← Array.toList_map]
      rw [hex]
      refine this.mono fun v' w' ⟨m', h', v, a, b, c, d⟩ => ?_
      obtain ⟨v2, k2, k3⟩ := resW_iff d
      exact ⟨m', h', v2, a, b, k3 _ _ c, k2⟩
    · exact hl.elim
  | _ => simp only [heavyW] at hl
end Go.La
/- Layer A, part 10: regions: in the order of the text; and in whatever order they may come. -/
namespace Go.La
open Go Go.RowKit

variable {P : Program} {ty : TT}

def putA (t : List AV) (d : Option Tmp) (v : AV) : List AV :=
  match d with
  | some d => t.set d v
  | none => t
def isLight (ty : TT) : Op → Bool
  | .move _ | .assign _ | .pick .. | .build .. | .load .. | .nilCheck _ | .binOp .. | .unOp .. | .fieldAddr .. | .field .. | .indexAddr .. | .index .. | .slice .. | .extract .. | .makeFunc .. | .lookup .. => true
  | .convert _ d _ => match ty.find d with | some (.plain false _ (.slice _ _)) => false | _ => true
  | .call c => match c.callee with | .builtin .len => true | .builtin .cap => true | .builtin .unsafeSliceData => true | .builtin .max => true | .builtin .min => true | _ => false
  | _ => false
/-- The slot of a guard. -/
def guardSlot (all : List Oper) (j : Nat) : Option Tmp := (all[j]?).bind (·.dst)
/-- Is the operation wanted? What is then, and what else. -/
def guardW (all : List Oper) (o : Oper) (t : List AV) (yes no : List AV → Prop) : Prop :=
  match o.guard with
  | none => yes t
  | some (j, want) =>
    match guardSlot all j with
    | none => False
    | some d =>
      match t[d]? with
      | some (.bool b) => cond b (cond want (yes (t.set d (.bool true))) (no (t.set d (.bool true)))) (cond want (no (t.set d (.bool false))) (yes (t.set d (.bool false))))
      | some (.tuple []) => no t
      | _ => False
theorem set_same {t : List AV} {d : Nat} {v : AV} (h : t[d]? = some v) : t.set d v = t := by
  apply List.ext_getElem?
  intro i
  rw [List.getElem?_set]
  by_cases e : d = i
  · subst e
    rw [if_pos rfl, h]
    have := (List.getElem?_eq_some_iff.1 h).1
    simp [this]
  · rw [if_neg e]
/-- What the guard says, told apart. -/
def GuardIs (all : List Oper) (o : Oper) (t : List AV) (r : Bool) : Prop :=
  match o.guard with
  | none => r = true
  | some (j, want) => ∃ d v, guardSlot all j = some d ∧ t[d]? = some v ∧ ((∃ b, v = .bool b ∧ r = (b == want)) ∨ (v = .tuple [] ∧ r = false))
theorem guardW_iff {all : List Oper} {o : Oper} {t : List AV} {yes no : List AV → Prop} (h : guardW all o t yes no) : (GuardIs all o t true ∧ yes t) ∨ (GuardIs all o t false ∧ no t) := by
  unfold guardW at h
  unfold GuardIs
  split at h
  · rename_i hg; exact .inl ⟨rfl, h⟩
  · rename_i j want hg
    split at h
    · exact h.elim
    · rename_i d hd
      split at h
      · rename_i b hb
        cases b <;> cases want <;> simp only [cond_true, cond_false] at h <;> rw [set_same hb] at h
        · exact .inl ⟨⟨d, _, hd, hb, .inl ⟨false, rfl, rfl⟩⟩, h⟩
        · exact .inr ⟨⟨d, _, hd, hb, .inl ⟨false, rfl, rfl⟩⟩, h⟩
        · exact .inr ⟨⟨d, _, hd, hb, .inl ⟨true, rfl, rfl⟩⟩, h⟩
        · exact .inl ⟨⟨d, _, hd, hb, .inl ⟨true, rfl, rfl⟩⟩, h⟩
      · rename_i hb; exact .inr ⟨⟨d, _, hd, hb, .inr ⟨rfl, rfl⟩⟩, h⟩
      · exact h.elim
theorem GuardIs.wanted {all : List Oper} {o : Oper} {t : List AV} {r : Bool} (h : GuardIs all o t r) {m : Mp} {a : Array Value} (ha : VsRel m t a.toList) : Region.wanted o (yielded all.toArray a) = r := by
  unfold GuardIs at h
  unfold Region.wanted
  split at h
  · rename_i hg; rw [hg]; exact h.symm
  · rename_i j want hg
    rw [hg]
    obtain ⟨d, v, h1, h2, h3⟩ := h
    obtain ⟨v', g1, g2⟩ := ha.get h2
    have e1 : (all.toArray[j]?).bind (·.dst) = some d := by simpa [guardSlot] using h1
    simp only [Array.getElem?_toList] at g1
    rcases h3 with ⟨b, rfl, h3⟩ | ⟨rfl, h3⟩
    · cases g2
      have : yielded all.toArray a j = some b := by
        unfold yielded
        simp only [e1, Option.bind_some]
        rw [g1]
      simp only [this, h3]
      cases b <;> cases want <;> rfl
    · cases g2
      have : yielded all.toArray a j = none := by
        unfold yielded
        simp only [e1, Option.bind_some]
        rw [g1]
      simp only [this, h3]
      cases want <;> rfl

/-- What is not written stays. -/
def Fr (W : List Nat) (t t' : List AV) : Prop := t.length = t'.length ∧ ∀ i : Nat, i ∉ W → t'[i]? = t[i]?
theorem Fr.refl (W : List Nat) (t : List AV) : Fr W t t := ⟨rfl, fun _ _ => rfl⟩
theorem Fr.trans {W1 W2 : List Nat} {t1 t2 t3 : List AV} (a : Fr W1 t1 t2) (b : Fr W2 t2 t3) : Fr (W1 ++ W2) t1 t3 :=
  ⟨a.1.trans b.1, fun i hi => (b.2 i fun h => hi (List.mem_append_right _ h)).trans (a.2 i fun h => hi (List.mem_append_left _ h))⟩
theorem Fr.sub {W W' : List Nat} {t t' : List AV} (a : Fr W t t') (h : ∀ i, i ∈ W → i ∈ W') : Fr W' t t' := ⟨a.1, fun i hi => a.2 i fun h' => hi (h i h')⟩
theorem Fr.trans' {W : List Nat} {t1 t2 t3 : List AV} (a : Fr W t1 t2) (b : Fr W t2 t3) : Fr W t1 t3 := ⟨a.1.trans b.1, fun i hi => (b.2 i hi).trans (a.2 i hi)⟩
def dstsOf : List Oper → List Nat
  | [] => []
  | o :: r => match o.dst with | some d => d :: dstsOf r | none => dstsOf r
theorem Fr.put {t t' : List AV} {d : Option Tmp} {v : AV} {W : List Nat} (h : Fr W (putA t d v) t') (hd : ∀ x, d = some x → x ∈ W) : Fr W t t' := by
  refine ⟨?_, fun i hi => ?_⟩
  · rw [← h.1]; cases d <;> simp [putA]
  · rw [h.2 i hi]
    cases d with
    | none => rfl
    | some x => simp only [putA, List.getElem?_set]; rw [if_neg (fun e : x = i => hi (e ▸ hd x rfl))]
theorem dstsOf_cons (o : Oper) (r : List Oper) : dstsOf (o :: r) = (match o.dst with | some d => d :: dstsOf r | none => dstsOf r) := rfl
theorem dstsOf_mem {o : Oper} {r : List Oper} : (∀ x, o.dst = some x → x ∈ dstsOf (o :: r)) ∧ (∀ x, x ∈ dstsOf r → x ∈ dstsOf (o :: r)) := by
  rw [dstsOf_cons]
  cases hd : o.dst with
  | none => exact ⟨fun x h => (by cases h), fun x h => h⟩
  | some d => exact ⟨fun x h => (by cases h; exact List.mem_cons_self), fun x h => List.mem_cons_of_mem _ h⟩

/-! ### In the order of the text -/
def opsW (P : Program) (ty : TT) (all : List Oper) : List Oper → List AV → (List AV → AH → Prop) → AH → Prop
  | [], t, K, h => K t h
  | o :: r, t, K, h =>
    guardW all o t
      (fun t => bif isLight ty o.op then lightW P ty o.op o.type (ev t) h fun v _ => opsW P ty all r (putA t o.dst v) K h
        else heavyW P ty o.op o.type (ev t) h fun v h' => opsW P ty all r (putA t o.dst v) K h')
      (fun t => opsW P ty all r (putA t o.dst (.tuple [])) K h)

/-- The marks of range-over-function loops among the deferred calls. -/
def DRel (m : Mp) : List Nat → List Deferred → Prop
  | [], [] => True
  | d :: r, x :: s => (∃ sl, m d = some sl ∧ x = { target := .collected sl.cb, args := #[] }) ∧ DRel m r s
  | _, _ => False
theorem DRel.mono {m m' : Mp} (hm : m.le m') : ∀ {a : List Nat} {b : List Deferred}, DRel m a b → DRel m' a b
  | [], [], _ => trivial
  | _ :: _, _ :: _, ⟨⟨sl, h1, h2⟩, h3⟩ => ⟨⟨sl, hm _ _ h1, h2⟩, h3.mono hm⟩
  | [], _ :: _, h => h.elim
  | _ :: _, [], h => h.elim

/-- What is said of an exit of code, in the abstract. -/
def CPost (m : Mp) (h : AH) (w : World) (K : Exit → List AV → List Nat → AH → Prop) : Exit → Act → World → Prop :=
  fun e act w' => ∃ m' h' t d, Sim m' h' w' ∧ Steps m h w m' h' w' ∧ VsRel m' t act.tmps.toList ∧ DRel m' d act.defers ∧ K e t d h'

theorem ev_rel {m : Mp} {t : List AV} {a : Act} (h : VsRel m t a.tmps.toList) (x : Operand) : VRel m (ev t x) (a.eval x) := by
  cases x with
  | tmp i =>
    simp only [ev, Act.eval]
    cases hi : t[i]? with
    | none => rw [List.getD_eq_getElem?_getD, hi]; exact .dead _
    | some v =>
      obtain ⟨v', g1, g2⟩ := h.get hi
      rw [List.getD_eq_getElem?_getD, hi]
      simp only [Array.getElem?_toList] at g1
      have : a.tmps.getD i undef = v' := by
        have := (Array.getElem?_eq_some_iff.1 g1)
        obtain ⟨h1, h2⟩ := this
        simp [Array.getD, h1, h2]
      rw [this]; exact g2
  | const v => exact ofK_rel m v
  | global g => exact .dead _
  | func f => exact .func _ _ [] [] #[] #[] (.func f) .nil .nil

theorem putA_rel {m : Mp} {t : List AV} {a : Act} (h : VsRel m t a.tmps.toList) (d : Option Tmp) {v : AV} {v' : Value} (hv : VRel m v v') : VsRel m (putA t d v) (a.put d v').tmps.toList := by
  cases d with
  | none => exact h
  | some d =>
    have hl := h.length
    refine VsRel.of_get (by simp [putA, Act.put]; simpa using hl) fun i x y g1 g2 => ?_
    simp only [putA, Act.put, Array.toList_setIfInBounds] at g1 g2
    rw [List.getElem?_set] at g1 g2
    by_cases e : d = i
    · subst e
      rw [if_pos rfl] at g1 g2
      split at g1
      · rename_i h1
        rw [if_pos (by omega)] at g2
        cases g1; cases g2; exact hv
      · simp at g1
    · rw [if_neg e] at g1 g2
      obtain ⟨y', k1, k2⟩ := h.get g1
      rw [g2] at k1; cases k1; exact k2

theorem put_defers (a : Act) (d : Option Tmp) (v : Value) : (a.put d v).defers = a.defers := by cases d <;> rfl

/-- The fences in which code of ours is walked: outside rounds, and in one. -/
def Wide (F : Fence) : Prop := (∀ f, F.fn f) ∧ F.depth = none ∧ F.alive = false
theorem wide_wide : Wide Fence.wide := ⟨fun _ => trivial, rfl, rfl⟩
theorem wide_inRound (l : Nat) : Wide (Fence.wide.inRound l) := ⟨fun _ => trivial, rfl, rfl⟩

theorem callsIn_of {F : Fence} (hF : F = Fence.wide ∨ ∃ l, F = Fence.wide.inRound l) {n : Nat} {f : FuncId} {args : Array Value} {w : World} {R : Ending → World → Prop} (h : CallsIn Fence.wide 0 P f args w R) : CallsIn F n P f args w R := by
  have h' : CallsIn Fence.wide n P f args w R := callsIn_wide.2 (callsIn_wide.1 h)
  rcases hF with rfl | ⟨l, rfl⟩
  · exact h'
  · exact CallsIn.inRound l h'
theorem roundIn_of {F : Fence} (hF : F = Fence.wide ∨ ∃ l, F = Fence.wide.inRound l) {n l : Nat} {f : FuncId} {tmps : Array Value} {assign body : Code} {w : World} {R : Ending → World → Prop} (h : RoundIn Fence.wide 0 P l f tmps assign body w R) : RoundIn F n P l f tmps assign body w R := by
  have h' : RoundIn Fence.wide n P l f tmps assign body w R := ⟨h.1, fun c cs _ => h.2 c cs (room_wide _)⟩
  rcases hF with rfl | ⟨l2, rfl⟩
  · exact h'
  · exact h'

/-- One operation, whatever it comes to first. -/
theorem upon_of {F : Fence} (hF : F = Fence.wide ∨ ∃ l, F = Fence.wide.inRound l) {n : Nat} {o : Oper} {a : Act} {next : Act → World → Prop} {Q : Exit → Act → World → Prop} {post : Value → World → Prop} {r : Result Next}
    (h : NextOk P post r) (hn : ∀ v w, post v w → next (a.put o.dst v) w) : o.uponIn F n P a next Q r := by
  have hd : F.depth.isSome = true → 1 ≤ n := by rcases hF with rfl | ⟨l, rfl⟩ <;> intro h <;> cases h
  unfold NextOk at h
  split at h
  · exact hn _ _ h
  · exact hn _ _ h
  · exact ⟨hd, (callsIn_of hF h).mono fun e w' ⟨v, h1, h2⟩ => by subst h1; exact hn _ _ h2⟩
  · exact ⟨hd, (roundIn_of hF h).mono fun e w' ⟨v, h1, h2⟩ => by subst h1; exact hn _ _ h2⟩
  · exact h.elim

theorem notDefer_of_light {o : Op} (h : isLight ty o = true) : ∀ c, o ≠ .defer c := by
  intro c e; subst e; simp [isLight] at h
theorem notDefer_of_heavy {o : Op} {t : TypeId} {e : Operand → AV} {h : AH} {K : AV → AH → Prop} (hh : heavyW P ty o t e h K) : ∀ c, o ≠ .defer c := by
  intro c e'; subst e'; simp [heavyW] at hh

theorem op_run {F : Fence} (hF : F = Fence.wide ∨ ∃ l, F = Fence.wide.inRound l) {n : Nat} {o : Oper} {a : Act} {w : World} {next : Act → World → Prop} {Q : Exit → Act → World → Prop} {post : Value → World → Prop}
    (hd : ∀ c, o.op ≠ .defer c) (h : NextOk P post ((execOp a.eval o).run P w)) (hn : ∀ v w, post v w → next (a.put o.dst v) w) : o.wpIn F n P a w next Q := by
  refine ⟨fun f _ => ?_, ?_⟩
  · rcases hF with rfl | ⟨l, rfl⟩ <;> trivial
  · rw [Oper.semAt_eq _ _ _ hd]
    exact upon_of hF h hn

theorem opsW_ok (T : TabOk P ty) {F : Fence} (hF : F = Fence.wide ∨ ∃ l, F = Fence.wide.inRound l) {n : Nat} {ops : Array Oper} {Q : Exit → Act → World → Prop} (K : List AV → AH → Prop) :
    ∀ (r : List Oper) (i : Nat), ops.toList.drop i = r → ∀ (m : Mp) (h : AH) (w : World) (t : List AV) (d : List Nat) (a : Act), Sim m h w → VsRel m t a.tmps.toList → DRel m d a.defers → opsW P ty ops.toList r t K h →
      (∀ m' h' w' t' (a' : Act), Sim m' h' w' → Steps m h w m' h' w' → VsRel m' t' a'.tmps.toList → DRel m' d a'.defers → Fr (dstsOf r) t t' → K t' h' → Q .normal a' w') →
      wpOpsIn F n P ops Q ((List.range ops.size).drop i) a w
  | [], i, hi, m, h, w, t, d, a, s, ht, hdd, hk, hQ => by
    have : ops.size ≤ i := by simpa using hi
    rw [List.drop_eq_nil_of_le (by simpa using this)]
    exact hQ m h w t a s (Steps.refl _ _ _) ht hdd (Fr.refl _ _) hk
  | o :: r, i, hi, m, h, w, t, d, a, s, ht, hdd, hk, hQ => by
    have hlt : i < ops.size := by
      apply Nat.lt_of_not_le; intro hle
      rw [List.drop_eq_nil_of_le (by simpa using hle)] at hi; cases hi
    have ho : ops[i]? = some o := by
      have := congrArg (·[0]?) hi
      simpa using this
    have hr : ops.toList.drop (i + 1) = r := by rw [← List.drop_drop, hi]; rfl
    have hrange : (List.range ops.size).drop i = i :: (List.range ops.size).drop (i + 1) := by
      rw [List.drop_eq_getElem_cons (by simpa using hlt)]; simp
    rw [hrange]
    simp only [wpOpsIn, ho]
    have hall : ops.toList.toArray = ops := by simp
    rcases guardW_iff hk with ⟨hg, hk⟩ | ⟨hg, hk⟩
    · have hw := hg.wanted ht
      rw [hall] at hw
      rw [if_pos hw]
      cases hlight : isLight ty o.op with
      | true =>
        simp only [hlight, cond_true] at hk
        obtain ⟨v, re, hk, hre, hL⟩ := light_ok T o _ _ _ hk
        obtain ⟨v', hrun, hv⟩ := hL h hre m w a.eval s (fun x _ => ev_rel ht x)
        refine op_run hF (post := fun u w' => u = v' ∧ w' = w) (notDefer_of_light hlight) (by rw [hrun]; exact ⟨rfl, rfl⟩) ?_
        rintro u w' ⟨rfl, rfl⟩
        exact opsW_ok T hF K r (i + 1) hr m h _ _ d _ s (putA_rel ht o.dst hv) (by rw [put_defers]; exact hdd) hk
          fun m2 h2 w2 t2 a2 s2 st2 ht2 hd2 hf2 hk2 => hQ m2 h2 w2 t2 a2 s2 st2 ht2 hd2 ((hf2.sub dstsOf_mem.2).put dstsOf_mem.1) hk2
      | false =>
        simp only [hlight, cond_false] at hk
        refine op_run hF (notDefer_of_heavy hk) (heavy_ok T o _ _ _ hk m w a.eval s (fun x _ => ev_rel ht x)) ?_
        rintro v' w' ⟨m', h', v, s', st, hv, hk'⟩
        refine opsW_ok T hF K r (i + 1) hr m' h' w' _ d _ s' (putA_rel (by
          refine VsRel.mono st.map ht) o.dst hv) (by rw [put_defers]; exact hdd.mono st.map) hk' ?_
        exact fun m2 h2 w2 t2 a2 s2 st2 ht2 hd2 hf2 hk2 => hQ m2 h2 w2 t2 a2 s2 (st.trans st2) ht2 hd2 ((hf2.sub dstsOf_mem.2).put dstsOf_mem.1) hk2
    · have hw := hg.wanted ht
      rw [hall] at hw
      rw [if_neg (by simp [hw])]
      refine ⟨fun f _ => by rcases hF with rfl | ⟨l, rfl⟩ <;> trivial, ?_⟩
      exact opsW_ok T hF K r (i + 1) hr m h w _ d _ s (putA_rel ht o.dst (.tuple [] #[] .nil)) (by rw [put_defers]; exact hdd) hk
        fun m2 h2 w2 t2 a2 s2 st2 ht2 hd2 hf2 hk2 => hQ m2 h2 w2 t2 a2 s2 st2 ht2 hd2 ((hf2.sub dstsOf_mem.2).put dstsOf_mem.1) hk2
end Go.La
/- Layer A, part 11: regions whose operations may come in any order that their edges allow. -/
namespace Go.La
open Go Go.RowKit

variable {P : Program} {ty : TT}

/-! ### What comes ahead of what -/
def edgeMask : List Edge → List Nat → Nat → Nat
  | [], _, s => s
  | e :: r, acc, s => edgeMask r acc (bif Region.binds .any e then s ||| 2 ^ e.on ||| acc.getD e.on 0 else s)
def masksFrom : List Oper → List Nat → List Nat
  | [], acc => acc
  | o :: r, acc => masksFrom r (acc ++ [edgeMask o.after.toList acc 0])
def masksOf (ops : List Oper) : List Nat := masksFrom ops []

theorem edgeMask_bit : ∀ (l : List Edge) (acc : List Nat) (s j : Nat), (edgeMask l acc s).testBit j = true → s.testBit j = true ∨ ∃ e ∈ l, Region.binds .any e = true ∧ (j = e.on ∨ (acc.getD e.on 0).testBit j = true)
  | [], _, _, _, h => .inl h
  | e :: r, acc, s, j, h => by
    rcases edgeMask_bit r acc _ j h with h1 | ⟨e', he, h2, h3⟩
    · cases hb : Region.binds .any e with
      | false => rw [hb] at h1; exact .inl h1
      | true =>
        rw [hb] at h1
        simp only [cond_true, Nat.testBit_or, Bool.or_eq_true] at h1
        rcases h1 with (h1 | h1) | h1
        · exact .inl h1
        · refine .inr ⟨e, by simp, hb, .inl ?_⟩
          rw [Nat.testBit_two_pow] at h1; exact (of_decide_eq_true h1).symm
        · exact .inr ⟨e, by simp, hb, .inr h1⟩
    · exact .inr ⟨e', by simp [he], h2, h3⟩

theorem masksFrom_get : ∀ (l : List Oper) (acc : List Nat) (i : Nat), (masksFrom l acc)[i]? = if i < acc.length then acc[i]? else
    match l[i - acc.length]? with
    | some o => some (edgeMask o.after.toList ((masksFrom l acc).take i) 0)
    | none => none
  | [], acc, i => by
    simp only [masksFrom]
    split
    · rfl
    · rename_i h; simp at h ⊢; exact h
  | o :: r, acc, i => by
    simp only [masksFrom]
    have ih := masksFrom_get r (acc ++ [edgeMask o.after.toList acc 0]) i
    rw [ih]
    by_cases h1 : i < acc.length
    · rw [if_pos (by simp; omega), if_pos h1, List.getElem?_append_left h1]
    · rw [if_neg h1]
      by_cases h2 : i = acc.length
      · subst h2
        rw [if_pos (by simp)]
        simp only [Nat.sub_self, List.getElem?_cons_zero]
        rw [List.getElem?_append_right (Nat.le_refl _)]
        simp only [Nat.sub_self, List.getElem?_cons_zero]
        have : (masksFrom r (acc ++ [edgeMask o.after.toList acc 0])).take acc.length = acc := by
          apply List.ext_getElem?
          intro j
          rw [List.getElem?_take]
          by_cases hj : j < acc.length
          · rw [if_pos hj, masksFrom_get r _ j, if_pos (by simp; omega), List.getElem?_append_left hj]
          · rw [if_neg hj, List.getElem?_eq_none (by omega)]
        rw [this]
      · rw [if_neg (by simp; omega)]
        have : i - acc.length = (i - (acc ++ [edgeMask o.after.toList acc 0]).length) + 1 := by simp; omega
        rw [this, List.getElem?_cons_succ]

/-- S is closed: with an operation what must come ahead of it. -/
def Closed (ops : List Oper) (S : Nat → Bool) : Prop := ∀ i o, ops[i]? = some o → S i = true → ∀ e ∈ o.after.toList, Region.binds .any e = true → S e.on = true
theorem closed_mask {ops : List Oper} {S : Nat → Bool} (hS : Closed ops S) : ∀ (i : Nat) (o : Oper), ops[i]? = some o → (∀ e ∈ o.after.toList, Region.binds .any e = true → S e.on = true) → ∀ j, ((masksOf ops).getD i 0).testBit j = true → S j = true := by
  intro i
  induction i using Nat.strongRecOn with
  | _ i ih =>
    intro o ho hp j hj
    have hg := masksFrom_get ops [] i
    simp only [List.length_nil, Nat.not_lt_zero, if_false, Nat.sub_zero, ho] at hg
    have : (masksOf ops).getD i 0 = edgeMask o.after.toList ((masksOf ops).take i) 0 := by
      rw [List.getD_eq_getElem?_getD]; unfold masksOf; rw [hg]; rfl
    rw [this] at hj
    rcases edgeMask_bit _ _ _ _ hj with h1 | ⟨e, he, hb, h2⟩
    · simp at h1
    · have hse := hp e he hb
      rcases h2 with rfl | h2
      · exact hse
      · by_cases hei : e.on < i
        · have h3 : ((masksOf ops).take i).getD e.on 0 = (masksOf ops).getD e.on 0 := by
            rw [List.getD_eq_getElem?_getD, List.getD_eq_getElem?_getD, List.getElem?_take, if_pos hei]
          rw [h3] at h2
          cases hoe : ops[e.on]? with
          | none =>
            have hg2 := masksFrom_get ops [] e.on
            simp only [List.length_nil, Nat.not_lt_zero, if_false, Nat.sub_zero, hoe] at hg2
            have : (masksOf ops).getD e.on 0 = 0 := by rw [List.getD_eq_getElem?_getD]; unfold masksOf; rw [hg2]; rfl
            rw [this] at h2; simp at h2
          | some oe => exact ih e.on hei oe hoe (fun e' he' hb' => hS e.on oe hoe hse e' he' hb') j h2
        · rw [List.getD_eq_getElem?_getD, List.getElem?_take, if_neg hei] at h2; simp at h2

/-! ### What is looked at ahead -/
def pairOk (ty : TT) (ops : List Oper) (masks : List Nat) (i j : Nat) : Bool :=
  match ops[i]?, ops[j]? with
  | some a, some b =>
    !(i == j) && !((masks.getD i 0).testBit j) && ((a.apart ops.toArray b && (isLight ty a.op || isLight ty b.op) && (isLight ty a.op || !isLight ty b.op)) || (masks.getD j 0).testBit i)
  | _, _ => false
def pairsOk (ty : TT) (ops : List Oper) (masks : List Nat) : List Nat → Bool
  | [] => true
  | i :: r => r.all (pairOk ty ops masks i) && pairsOk ty ops masks r
def drawChk (ty : TT) (ops : List Oper) (L : List Nat) : Bool :=
  (List.range ops.length).all (fun i => L.contains i) && L.all (fun i => decide (i < ops.length)) && pairsOk ty ops (masksOf ops) L

def addRead (i : Nat) (re : Re) (reads : List (Nat × (AH → Prop))) : List (Nat × (AH → Prop)) :=
  match re with
  | none => reads
  | some f => (i, f) :: reads
def reloads : List (Nat × (AH → Prop)) → Nat → AH → Prop → Prop
  | [], _, _, K => K
  | (j, f) :: r, mask, h, K => bif mask.testBit j then reloads r mask h K else f h ∧ reloads r mask h K
theorem reloads_iff : ∀ {l : List (Nat × (AH → Prop))} {mask : Nat} {h : AH} {K : Prop}, reloads l mask h K → (∀ j f, (j, f) ∈ l → mask.testBit j = false → f h) ∧ K
  | [], _, _, _, hk => ⟨by simp, hk⟩
  | (j, f) :: r, mask, h, K, hk => by
    simp only [reloads] at hk
    cases hb : mask.testBit j with
    | true =>
      simp only [hb, cond_true] at hk
      obtain ⟨h1, h2⟩ := reloads_iff hk
      refine ⟨fun k g hm hg => ?_, h2⟩
      rcases List.mem_cons.1 hm with e | hm
      · cases e; rw [hb] at hg; cases hg
      · exact h1 k g hm hg
    | false =>
      simp only [hb, cond_false] at hk
      obtain ⟨h1, h2⟩ := reloads_iff hk.2
      refine ⟨fun k g hm hg => ?_, h2⟩
      rcases List.mem_cons.1 hm with e | hm
      · cases e; exact hk.1
      · exact h1 k g hm hg

def drawW (P : Program) (ty : TT) (ops : List Oper) (masks : List Nat) : List Nat → List AV → List (Nat × (AH → Prop)) → (List AV → AH → Prop) → AH → Prop
  | [], t, _, K, h => K t h
  | i :: r, t, reads, K, h =>
    match ops[i]? with
    | none => False
    | some o =>
      guardW ops o t
        (fun t => bif isLight ty o.op then lightW P ty o.op o.type (ev t) h fun v re => drawW P ty ops masks r (putA t o.dst v) (addRead i re reads) K h
          else heavyW P ty o.op o.type (ev t) h fun v h' => reloads reads (masks.getD i 0) h' (drawW P ty ops masks r (putA t o.dst v) reads K h'))
        (fun t => drawW P ty ops masks r (putA t o.dst (.tuple [])) reads K h)

/-! ### Frames of some of the operations -/
def dstOf (ops : List Oper) (i : Nat) : Option Tmp := (ops[i]?).bind (·.dst)
def foldS (ops : List Oper) (p : Nat → Bool) : List AV → List (Nat × AV) → List AV
  | t, [] => t
  | t, (i, v) :: r => foldS ops p (bif p i then putA t (dstOf ops i) v else t) r
theorem foldS_append (ops : List Oper) (p : Nat → Bool) : ∀ (t : List AV) (a b : List (Nat × AV)), foldS ops p t (a ++ b) = foldS ops p (foldS ops p t a) b
  | _, [], _ => rfl
  | t, (i, v) :: r, b => by simp [foldS, foldS_append]
theorem putA_length (t : List AV) (d : Option Tmp) (v : AV) : (putA t d v).length = t.length := by cases d <;> simp [putA]
theorem foldS_length (ops : List Oper) (p : Nat → Bool) : ∀ (t : List AV) (l : List (Nat × AV)), (foldS ops p t l).length = t.length
  | _, [] => rfl
  | t, (i, v) :: r => by rw [foldS, foldS_length]; cases p i <;> simp [putA_length]
theorem putA_get (t : List AV) (d : Option Tmp) (v : AV) (x : Nat) (h : d ≠ some x) : (putA t d v)[x]? = t[x]? := by
  cases d with
  | none => rfl
  | some d => simp only [putA, List.getElem?_set]; rw [if_neg (fun e => h (by rw [e]))]
theorem putA_get_same (t : List AV) (x : Nat) (v : AV) : (putA t (some x) v)[x]? = if x < t.length then some v else none := by
  simp only [putA, List.getElem?_set, if_true]
theorem foldS_get (ops : List Oper) (p q : Nat → Bool) (x : Nat) : ∀ (l : List (Nat × AV)) (t t' : List AV), t.length = t'.length → t[x]? = t'[x]? → (∀ i v, (i, v) ∈ l → dstOf ops i = some x → p i = q i) →
    (foldS ops p t l)[x]? = (foldS ops q t' l)[x]?
  | [], t, t', _, h, _ => h
  | (i, v) :: r, t, t', hl, h, hpq => by
    simp only [foldS]
    refine foldS_get ops p q x r _ _ ?_ ?_ (fun j u hm hd => hpq j u (by simp [hm]) hd)
    · cases p i <;> cases q i <;> simp [putA_length, hl]
    · by_cases hd : dstOf ops i = some x
      · have e := hpq i v (by simp) hd
        rw [e]
        cases q i
        · exact h
        · simp only [cond_true, hd, putA_get_same, hl]
      · have e1 : (bif p i then putA t (dstOf ops i) v else t)[x]? = t[x]? := by cases p i; rfl; exact putA_get _ _ _ _ hd
        have e2 : (bif q i then putA t' (dstOf ops i) v else t')[x]? = t'[x]? := by cases q i; rfl; exact putA_get _ _ _ _ hd
        rw [e1, e2, h]
theorem foldS_none (ops : List Oper) (p : Nat → Bool) (x : Nat) (l : List (Nat × AV)) (t : List AV) (h : ∀ i v, (i, v) ∈ l → dstOf ops i = some x → p i = false) : (foldS ops p t l)[x]? = t[x]? := by
  have := foldS_get ops p (fun _ => false) x l t t rfl rfl (fun i v hm hd => h i v hm hd)
  rw [this]
  clear this h
  induction l generalizing t with
  | nil => rfl
  | cons a l ih => obtain ⟨i, v⟩ := a; simp [foldS, ih]
end Go.La
/- Layer A, part 12: a region whose operations come in whatever order their edges allow is sound. -/
namespace Go.La
open Go Go.RowKit

variable {P : Program} {ty : TT}

/-- Every edge that binds goes back. -/
def edgesBack : List Oper → Nat → Bool
  | [], _ => true
  | o :: r, i => o.after.toList.all (fun e => !Region.binds .any e || Nat.ble (e.on + 1) i) && edgesBack r (i + 1)
theorem edgesBack_get : ∀ {l : List Oper} {k : Nat}, edgesBack l k = true → ∀ i o, l[i]? = some o → ∀ e ∈ o.after.toList, Region.binds .any e = true → e.on < k + i
  | [], _, _, i, o, ho, _, _, _ => by simp at ho
  | x :: r, k, h, i, o, ho, e, he, hb => by
    simp only [edgesBack, Bool.and_eq_true] at h
    cases i with
    | zero =>
      simp at ho; subst ho
      have := List.all_eq_true.1 h.1 e he
      rw [hb] at this
      have := Nat.le_of_ble_eq_true (by simpa using this : Nat.ble (e.on + 1) k = true)
      omega
    | succ i =>
      have := edgesBack_get h.2 i o (by simpa using ho) e he hb
      omega

theorem pairsOk_split : ∀ {L : List Nat} {ops : List Oper} {masks : List Nat}, pairsOk ty ops masks L = true → ∀ a i b, L = a ++ i :: b → ∀ j ∈ b, pairOk ty ops masks i j = true
  | [], _, _, _, a, i, b, h, _, _ => by cases a <;> cases h
  | x :: r, ops, masks, h, a, i, b, e, j, hj => by
    simp only [pairsOk, Bool.and_eq_true] at h
    cases a with
    | nil => cases e; exact List.all_eq_true.1 h.1 j hj
    | cons y a => cases e; exact pairsOk_split h.2 a i b rfl j hj

def lp (listed : Array Bool) (i : Nat) : Bool := listed.getD i false

/-- i comes ahead of j in the order: either they are apart, or i must come ahead of j. -/
structure Ahead (ty : TT) (ops : List Oper) (i j : Nat) : Prop where
  ne : i ≠ j
  no : ((masksOf ops).getD i 0).testBit j = false
  or : ((masksOf ops).getD j 0).testBit i = true ∨ ∃ a b, ops[i]? = some a ∧ ops[j]? = some b ∧ a.apart ops.toArray b = true ∧ (isLight ty a.op = true ∨ isLight ty b.op = true) ∧ (isLight ty a.op = true ∨ isLight ty b.op = false)
theorem ahead_of {ops : List Oper} {i j : Nat} (h : pairOk ty ops (masksOf ops) i j = true) : Ahead ty ops i j := by
  unfold pairOk at h
  split at h
  · rename_i a b ha hb
    simp only [Bool.and_eq_true, Bool.or_eq_true, Bool.not_eq_true', beq_eq_false_iff_ne] at h
    refine ⟨h.1.1, h.1.2, ?_⟩
    rcases h.2 with h2 | h2
    · exact .inr ⟨a, b, ha, hb, h2.1.1, h2.1.2, h2.2⟩
    · exact .inl h2
  · cases h

/-- Slots that an operation looks at. -/
def SameAt (o : Oper) (ops : List Oper) (t t' : List AV) : Prop := ∀ x ∈ o.looksAt ops.toArray, t[x]? = t'[x]?
theorem SameAt.ev {o : Oper} {ops : List Oper} {t t' : List AV} (h : SameAt o ops t t') : ∀ x ∈ o.op.operands, ev t x = ev t' x := by
  intro x hx
  cases x with
  | tmp d =>
    have : t[d]? = t'[d]? := h d (List.mem_append_left _ (List.mem_filterMap.2 ⟨.tmp d, by simpa using hx, rfl⟩))
    simp only [Go.La.ev, List.getD_eq_getElem?_getD, this]
  | const v => rfl
  | func f => rfl
  | global g => rfl
theorem SameAt.guard {o : Oper} {ops : List Oper} {t t' : List AV} (h : SameAt o ops t t') {r : Bool} (hg : GuardIs ops o t r) : GuardIs ops o t' r := by
  unfold GuardIs at *
  split
  · rename_i e; rw [e] at hg; exact hg
  · rename_i j want e
    rw [e] at hg
    obtain ⟨d, v, h1, h2, h3⟩ := hg
    refine ⟨d, v, h1, ?_, h3⟩
    rw [← h d ?_]; exact h2
    refine List.mem_append_right _ ?_
    rw [e]
    have : (ops[j]?).bind (·.dst) = some d := h1
    simp [this]

/-- The value of an operation that has been looked at ahead. -/
def Pend (P : Program) (ty : TT) (ops : List Oper) (t0 : List AV) (h : AH) (reads : List (Nat × (AH → Prop))) (i : Nat) (v : AV) (before : List (Nat × AV)) : Prop :=
  ∃ o, ops[i]? = some o ∧
    ((GuardIs ops o (foldS ops (fun _ => true) t0 before) true ∧ isLight ty o.op = true ∧
        ∃ re : Re, (∀ h' : AH, re.at h' → LOk P o (ev (foldS ops (fun _ => true) t0 before)) h' v) ∧ re.at h ∧ (∀ f, re = some f → (i, f) ∈ reads)) ∨
     (GuardIs ops o (foldS ops (fun _ => true) t0 before) false ∧ v = .tuple []))

def Head (P : Program) (ty : TT) (ops : List Oper) (K : List AV → AH → Prop) (t : List AV) (reads : List (Nat × (AH → Prop))) (h : AH) : List Nat → Prop
  | [] => K t h
  | i :: r => ∃ o, ops[i]? = some o ∧ GuardIs ops o t true ∧ isLight ty o.op = false ∧
      heavyW P ty o.op o.type (ev t) h fun v h' => reloads reads ((masksOf ops).getD i 0) h' (drawW P ty ops (masksOf ops) r (putA t o.dst v) reads K h')

theorem advance (T : TabOk P ty) {ops : List Oper} {t0 : List AV} {K : List AV → AH → Prop} {h : AH} : ∀ (post : List Nat) (pv : List (Nat × AV)) (reads : List (Nat × (AH → Prop))),
    drawW P ty ops (masksOf ops) post (foldS ops (fun _ => true) t0 pv) reads K h →
    ∃ pv2 post2 reads2, post = pv2.map (·.1) ++ post2 ∧ (∀ x ∈ reads, x ∈ reads2) ∧ (∀ a i v b, pv2 = a ++ (i, v) :: b → Pend P ty ops t0 h reads2 i v (pv ++ a)) ∧
      Head P ty ops K (foldS ops (fun _ => true) t0 (pv ++ pv2)) reads2 h post2
  | [], pv, reads, hk => ⟨[], [], reads, rfl, fun _ hx => hx, fun a i v b e => by (cases a <;> cases e), by simpa [Head, drawW] using hk⟩
  | i :: r, pv, reads, hk => by
    simp only [drawW] at hk
    cases ho : ops[i]? with
    | none => simp [ho] at hk
    | some o =>
      simp only [ho] at hk
      have hdst : dstOf ops i = o.dst := by simp [dstOf, ho]
      have hput : ∀ v, foldS ops (fun _ => true) t0 (pv ++ [(i, v)]) = putA (foldS ops (fun _ => true) t0 pv) o.dst v := fun v => by
        rw [foldS_append]; simp [foldS, hdst]
      rcases guardW_iff hk with ⟨hg, hk⟩ | ⟨hg, hk⟩
      · cases hlight : isLight ty o.op with
        | false =>
          simp only [hlight, cond_false] at hk
          exact ⟨[], i :: r, reads, rfl, fun _ hx => hx, fun a i v b e => by (cases a <;> cases e), o, ho, by simpa using hg, hlight, by simpa using hk⟩
        | true =>
          simp only [hlight, cond_true] at hk
          obtain ⟨v, re, hk, hre, hL⟩ := light_ok T o _ _ _ hk
          rw [← hput] at hk
          obtain ⟨pv2, post2, reads2, e1, e2, e3, e4⟩ := advance T r (pv ++ [(i, v)]) (addRead i re reads) hk
          have hsub : ∀ x ∈ reads, x ∈ reads2 := fun x hx => e2 x (by unfold addRead; split; exact hx; exact List.mem_cons_of_mem _ hx)
          refine ⟨(i, v) :: pv2, post2, reads2, by simp [e1], hsub, ?_, by simpa using e4⟩
          intro a j u b e
          cases a with
          | nil =>
            simp only [List.nil_append, List.cons.injEq, Prod.mk.injEq] at e
            obtain ⟨⟨rfl, rfl⟩, rfl⟩ := e
            refine ⟨o, ho, .inl ⟨by simpa using hg, hlight, re, by simpa using hL, hre, fun f hf => e2 _ ?_⟩⟩
            subst hf; simp [addRead]
          | cons y a =>
            simp only [List.cons_append, List.cons.injEq] at e
            obtain ⟨rfl, rfl⟩ := e
            have := e3 a j u b rfl
            simpa using this
      · rw [← hput] at hk
        obtain ⟨pv2, post2, reads2, e1, e2, e3, e4⟩ := advance T r (pv ++ [(i, .tuple [])]) reads hk
        refine ⟨(i, .tuple []) :: pv2, post2, reads2, by simp [e1], e2, ?_, by simpa using e4⟩
        intro a j u b e
        cases a with
        | nil =>
          simp only [List.nil_append, List.cons.injEq, Prod.mk.injEq] at e
          obtain ⟨⟨rfl, rfl⟩, rfl⟩ := e
          exact ⟨o, ho, .inr ⟨by simpa using hg, rfl⟩⟩
        | cons y a =>
          simp only [List.cons_append, List.cons.injEq] at e
          obtain ⟨rfl, rfl⟩ := e
          have := e3 a j u b rfl
          simpa using this

theorem countP_lt (p : Nat → Bool) (i : Nat) : ∀ (l : List Nat), i ∈ l → p i = false → l.countP (fun k => !(p k || k == i)) < l.countP (fun k => !p k)
  | [], h, _ => by cases h
  | x :: r, h, hp => by
    have hle : ∀ l : List Nat, l.countP (fun k => !(p k || k == i)) ≤ l.countP (fun k => !p k) := fun l => List.countP_mono_left (fun k _ hk => by
      simp only [Bool.not_eq_true', Bool.or_eq_false_iff] at hk ⊢; exact hk.1)
    by_cases hx : x = i
    · subst hx
      rw [List.countP_cons, List.countP_cons]
      have := hle r
      simp [hp]; simp at this; omega
    · have := countP_lt p i r (by rcases List.mem_cons.1 h with e | e; exact (hx e.symm).elim; exact e) hp
      rw [List.countP_cons, List.countP_cons]
      have hx' : (x == i) = false := by simpa using hx
      simp only [hx', Bool.or_false]
      omega

theorem split_append {α : Type} {x : α} : ∀ {l1 l2 a b : List α}, l1 ++ l2 = a ++ x :: b → (∃ b', l1 = a ++ x :: b') ∨ ∃ a', a = l1 ++ a' ∧ l2 = a' ++ x :: b
  | [], _, a, _, h => .inr ⟨a, rfl, h⟩
  | y :: l1, l2, [], b, h => by simp at h; exact .inl ⟨l1, by simp [h.1]⟩
  | y :: l1, l2, z :: a, b, h => by
    simp only [List.cons_append, List.cons.injEq] at h
    rcases split_append h.2 with ⟨b', e⟩ | ⟨a', e1, e2⟩
    · exact .inl ⟨b', by rw [h.1, e]; rfl⟩
    · exact .inr ⟨a', by rw [h.1, e1]; rfl, e2⟩
theorem foldS_skip (ops : List Oper) (p : Nat → Bool) : ∀ (l : List (Nat × AV)) (t : List AV), (∀ i v, (i, v) ∈ l → p i = false) → foldS ops p t l = t
  | [], _, _ => rfl
  | (i, v) :: r, t, h => by simp only [foldS, h i v (by simp), cond_false]; exact foldS_skip ops p r t (fun j u hj => h j u (by simp [hj]))
theorem foldS_congr (ops : List Oper) (p q : Nat → Bool) : ∀ (l : List (Nat × AV)) (t : List AV), (∀ i v, (i, v) ∈ l → p i = q i) → foldS ops p t l = foldS ops q t l
  | [], _, _ => rfl
  | (i, v) :: r, t, h => by simp only [foldS, h i v (by simp)]; exact foldS_congr ops p q r _ (fun j u hj => h j u (by simp [hj]))

theorem lp_set {listed : Array Bool} {i : Nat} (hi : i < listed.size) (k : Nat) : lp (listed.setIfInBounds i true) k = (lp listed k || k == i) := by
  unfold lp
  simp only [Array.getD_eq_getD_getElem?, Array.getElem?_setIfInBounds]
  by_cases h : i = k
  · subst h; simp [hi]
  · rw [if_neg h]
    have : (k == i) = false := by simpa using fun e => h e.symm
    rw [this, Bool.or_false]

theorem mem_dsts : ∀ {ops : List Oper} {i : Nat} {x : Tmp}, dstOf ops i = some x → x ∈ dstsOf ops
  | [], _, _, h => by simp [dstOf] at h
  | o :: r, 0, x, h => dstsOf_mem.1 x (by simpa [dstOf] using h)
  | o :: r, i + 1, x, h => dstsOf_mem.2 x (mem_dsts (i := i) (by simpa [dstOf] using h))
theorem foldS_fr {ops : List Oper} (t : List AV) (l : List (Nat × AV)) (p : Nat → Bool) : Fr (dstsOf ops) t (foldS ops p t l) := by
  refine ⟨(foldS_length _ _ _ _).symm, fun x hx => ?_⟩
  rw [foldS_get ops p (fun _ => false) x l t t rfl rfl (fun i v _ hd => (hx (mem_dsts hd)).elim), foldS_skip _ _ _ _ (fun _ _ _ => rfl)]

section
variable {ops : Array Oper} {L : List Nat}

theorem closed_in {S : Nat → Bool} (hS : Closed ops.toList S) {k j : Nat} {o : Oper} (ho : ops.toList[k]? = some o) (hk : S k = true) (hb : ((masksOf ops.toList).getD k 0).testBit j = true) : S j = true :=
  closed_mask hS k o ho (hS k o ho hk) j hb

theorem dst_some {l : List Oper} {k : Nat} {x : Tmp} (h : dstOf l k = some x) : ∃ c, l[k]? = some c := by
  cases hc : l[k]? with
  | none => simp [dstOf, hc] at h
  | some c => exact ⟨c, rfl⟩

/-- What an operation looks at is as it was when it was looked at ahead. -/
theorem same_ahead {S : Nat → Bool} (hS : Closed ops.toList S) {i : Nat} {o : Oper} (ho : ops.toList[i]? = some o) (hr : ∀ e ∈ o.after.toList, Region.binds .any e = true → S e.on = true) (hi : S i = false)
    {t0 : List AV} {A B : List (Nat × AV)} (hA : ∀ k u, (k, u) ∈ A → Ahead ty ops.toList k i) (hB : ∀ k u, (k, u) ∈ B → k = i ∨ Ahead ty ops.toList i k) :
    SameAt o ops.toList (foldS ops.toList (fun _ => true) t0 A) (foldS ops.toList S t0 (A ++ B)) := by
  intro x hx
  have hnone : ∀ t, (foldS ops.toList S t B)[x]? = t[x]? := fun t => foldS_none ops.toList S x B t ?_
  · rw [foldS_append, hnone]
    refine (foldS_get _ _ _ _ _ _ _ rfl rfl fun k u hk hd => ?_).symm
    rcases (hA k u hk).or with h | ⟨a, b, ha, hb, hap, _⟩
    · exact closed_mask hS i o ho hr k h
    · obtain ⟨h1, _, _⟩ := Oper.apart_spec hap
      rw [ho] at hb; cases hb
      have : a.dst = some x := by simpa [dstOf, ha] using hd
      exact (h1 x this hx).elim
  · intro k u hk hd
    rcases hB k u hk with rfl | h
    · exact hi
    · rcases h.or with h | ⟨a, b, ha, hb, hap, _⟩
      · cases hs : S k with
        | false => rfl
        | true =>
          obtain ⟨c, hc⟩ := dst_some hd
          rw [closed_in hS hc hs h] at hi; exact hi
      · obtain ⟨_, _, h3⟩ := Oper.apart_spec hap
        rw [ho] at ha; cases ha
        have : b.dst = some x := by simpa [dstOf, hb] using hd
        exact (h3 x this hx).elim

/-- Put in the midst is put at the end. -/
theorem put_midst {S S' : Nat → Bool} (hS : Closed ops.toList S) {i : Nat} {o : Oper} (ho : ops.toList[i]? = some o) (hi : S i = false) (hS' : ∀ k, S' k = (S k || k == i))
    {t0 : List AV} {A B : List (Nat × AV)} {v : AV} (hB : ∀ k u, (k, u) ∈ B → Ahead ty ops.toList i k) :
    foldS ops.toList S' t0 (A ++ (i, v) :: B) = putA (foldS ops.toList S t0 (A ++ (i, v) :: B)) o.dst v := by
  have hd : dstOf ops.toList i = o.dst := by simp only [dstOf, ho, Option.bind_some]
  apply List.ext_getElem?
  intro x
  by_cases hx : o.dst = some x
  · rw [hx, putA_get_same, foldS_append, foldS, hS' i]
    simp only [beq_self_eq_true, Bool.or_true, cond_true, hd, hx]
    have hnone : ∀ t, (foldS ops.toList S' t B)[x]? = t[x]? := fun t => foldS_none ops.toList S' x B t ?_
    · rw [hnone, putA_get_same, foldS_length, foldS_length]
    · intro k u hk hdk
      have hah := hB k u hk
      rw [hS' k]
      have hne : (k == i) = false := by simpa using fun e => hah.ne e.symm
      rw [hne, Bool.or_false]
      rcases hah.or with h | ⟨a, b, ha, hb, hap, _⟩
      · cases hs : S k with
        | false => rfl
        | true =>
          obtain ⟨c, hc⟩ := dst_some hdk
          rw [closed_in hS hc hs h] at hi; exact hi
      · obtain ⟨_, h2, _⟩ := Oper.apart_spec hap
        rw [ho] at ha; cases ha
        have : b.dst = some x := by simpa [dstOf, hb] using hdk
        exact (h2 x hx this).elim
  · rw [putA_get _ _ _ _ hx]
    refine foldS_get _ _ _ _ _ _ _ rfl rfl fun k u hk hdk => ?_
    rw [hS' k]
    have : (k == i) = false := by
      refine beq_eq_false_iff_ne.2 fun e => hx ?_
      rw [← hd, ← e]; exact hdk
    rw [this, Bool.or_false]

theorem any_ok (T : TabOk P ty) {F : Fence} (hF : F = Fence.wide ∨ ∃ l, F = Fence.wide.inRound l) {n : Nat} {Q : Exit → Act → World → Prop} {K : List AV → AH → Prop} {t0 : List AV} {d : List Nat} {m0 : Mp} {h0 : AH} {w0 : World}
    (hback : edgesBack ops.toList 0 = true) (hpairs : pairsOk ty ops.toList (masksOf ops.toList) L = true) (hall : ∀ i, i < ops.size → i ∈ L) (hlt : ∀ i ∈ L, i < ops.size)
    (hQ : ∀ m' h' w' t' (a' : Act), Sim m' h' w' → Steps m0 h0 w0 m' h' w' → VsRel m' t' a'.tmps.toList → DRel m' d a'.defers → Fr (dstsOf ops.toList) t0 t' → K t' h' → Q .normal a' w') :
    ∀ (fuel : Nat) (listed : Array Bool) (a : Act) (w : World) (m : Mp) (h : AH) (pv : List (Nat × AV)) (post : List Nat) (reads : List (Nat × (AH → Prop))),
      Steps m0 h0 w0 m h w → L = pv.map (·.1) ++ post → Sim m h w → DRel m d a.defers → VsRel m (foldS ops.toList (lp listed) t0 pv) a.tmps.toList → listed.size = ops.size →
      (∀ i, lp listed i = true → i ∈ pv.map (·.1)) → Closed ops.toList (lp listed) →
      (∀ A i v B, pv = A ++ (i, v) :: B → lp listed i = false → Pend P ty ops.toList t0 h reads i v A) →
      Head P ty ops.toList K (foldS ops.toList (fun _ => true) t0 pv) reads h post →
      (List.range ops.size).countP (fun k => !lp listed k) ≤ fuel → wpAnyIn F n P .any ops Q fuel listed a w := by
  have nodup : ∀ A i B, L = A ++ i :: B → i ∉ A ∧ i ∉ B := fun A i B e => by
    refine ⟨fun hi => ?_, fun hi => (ahead_of (pairsOk_split hpairs A i B e i hi)).ne rfl⟩
    obtain ⟨A1, A2, rfl⟩ := List.append_of_mem hi
    exact (ahead_of (pairsOk_split hpairs A1 i (A2 ++ i :: B) (by rw [e]; simp) i (by simp))).ne rfl
  have done : ∀ (listed : Array Bool) (a : Act) (w : World) (m : Mp) (h : AH) (pv : List (Nat × AV)) (post : List Nat) (reads : List (Nat × (AH → Prop))),
      Steps m0 h0 w0 m h w → L = pv.map (·.1) ++ post → Sim m h w → DRel m d a.defers → VsRel m (foldS ops.toList (lp listed) t0 pv) a.tmps.toList →
      (∀ i, lp listed i = true → i ∈ pv.map (·.1)) →
      Head P ty ops.toList K (foldS ops.toList (fun _ => true) t0 pv) reads h post → (∀ i, i < ops.size → lp listed i = true) → Q .normal a w := by
    intro listed a w m h pv post reads st0 hL s hd ht hin hhead hdone
    cases post with
    | cons j r =>
      exact ((nodup _ _ _ hL).1 (hin j (hdone j (hlt j (by rw [hL]; simp))))).elim
    | nil =>
      refine hQ m h w _ a s st0 (foldS_congr ops.toList (lp listed) (fun _ => true) pv t0 (fun k u hk => hdone k (hlt k ?_)) ▸ ht) hd (foldS_fr _ _ _) hhead
      rw [hL]; simp only [List.append_nil]; exact List.mem_map.2 ⟨_, hk, rfl⟩
  have ready0 : ∀ (listed : Array Bool), listed.size = ops.size → Region.ready .any ops listed = [] → ∀ i, i < ops.size → lp listed i = true := by
    intro listed hsz hr i
    induction i using Nat.strongRecOn with
    | _ i ihi =>
      intro hi
      cases hlp : lp listed i with
      | true => rfl
      | false =>
        have : i ∈ Region.ready .any ops listed := by
          unfold Region.ready
          refine List.mem_filter.2 ⟨List.mem_range.2 hi, ?_⟩
          have e1 : listed.getD i true = false := by
            unfold lp at hlp
            simp only [Array.getD_eq_getD_getElem?, Array.getElem?_eq_getElem (hsz ▸ hi : i < listed.size), Option.getD_some] at hlp ⊢; exact hlp
          have e2 : ops[i]? = some ops[i] := Array.getElem?_eq_getElem hi
          rw [e1, e2]
          simp only [Bool.not_false, Bool.true_and, Option.map_some, Option.getD_some]
          rw [← Array.all_toList]
          refine List.all_eq_true.2 fun e he => ?_
          cases hb : Region.binds .any e with
          | false => rfl
          | true =>
            have := edgesBack_get hback i ops[i] (by simpa using e2) e he hb
            have := ihi e.on (by omega) (by omega)
            unfold lp at this; rw [this]; rfl
        rw [hr] at this; cases this
  intro fuel
  induction fuel with
  | zero =>
    intro listed a w m h pv post reads st0 hL s hd ht hsz hin hcl hpend hhead hfuel
    have hdone : ∀ i, i < ops.size → lp listed i = true := by
      intro i hi
      have : (List.range ops.size).countP (fun k => !lp listed k) = 0 := Nat.le_zero.1 hfuel
      have := List.countP_eq_zero.1 this i (List.mem_range.2 hi)
      simpa using this
    refine ⟨?_, done listed a w m h pv post reads st0 hL s hd ht hin hhead hdone⟩
    unfold Region.ready
    refine List.filter_eq_nil_iff.2 fun i hi => ?_
    have := hdone i (List.mem_range.1 hi)
    unfold lp at this
    have e1 : listed.getD i true = true := by
      simp only [Array.getD_eq_getD_getElem?, Array.getElem?_eq_getElem (hsz ▸ List.mem_range.1 hi : i < listed.size), Option.getD_some] at this ⊢; exact this
    rw [e1]; simp
  | succ fuel ih =>
    intro listed a w m h pv post reads st0 hL s hd ht hsz hin hcl hpend hhead hfuel
    refine ⟨fun hr => done listed a w m h pv post reads st0 hL s hd ht hin hhead (ready0 listed hsz hr), fun i hi => ?_⟩
    unfold Region.ready at hi
    obtain ⟨hi1, hi2⟩ := List.mem_filter.1 hi
    have hilt : i < ops.size := List.mem_range.1 hi1
    have ho : ops[i]? = some ops[i] := Array.getElem?_eq_getElem hilt
    generalize ops[i] = o at ho
    have hol : ops.toList[i]? = some o := by simpa using ho
    rw [ho] at hi2
    simp only [Option.map_some, Option.getD_some, Bool.and_eq_true, Bool.not_eq_true'] at hi2
    have hilp : lp listed i = false := by
      have := hi2.1
      unfold lp
      simp only [Array.getD_eq_getD_getElem?, Array.getElem?_eq_getElem (hsz ▸ hilt : i < listed.size), Option.getD_some] at this ⊢; exact this
    have hedge : ∀ e ∈ o.after.toList, Region.binds .any e = true → lp listed e.on = true := by
      have h2 := hi2.2
      rw [← Array.all_toList] at h2
      intro e he hb
      have := List.all_eq_true.1 h2 e he
      rw [hb] at this
      simpa [lp] using this
    have hset : ∀ k, lp (listed.setIfInBounds i true) k = (lp listed k || k == i) := lp_set (hsz ▸ hilt)
    have hcl' : Closed ops.toList (lp (listed.setIfInBounds i true)) := by
      intro k c hc hk e he hb
      rw [hset] at hk ⊢
      cases hks : lp listed k with
      | true => rw [hcl k c hc hks e he hb]; rfl
      | false =>
        rw [hks, Bool.false_or] at hk
        have : k = i := by simpa using hk
        subst this
        rw [hol] at hc; cases hc
        rw [hedge e he hb]; rfl
    have hfuel' : (List.range ops.size).countP (fun k => !lp (listed.setIfInBounds i true) k) ≤ fuel := by
      have h1 := countP_lt (lp listed) i (List.range ops.size) (List.mem_range.2 hilt) hilp
      have h2 : (List.range ops.size).countP (fun k => !lp (listed.setIfInBounds i true) k) = (List.range ops.size).countP (fun k => !(lp listed k || k == i)) := List.countP_congr fun k _ => by rw [hset]
      omega
    have hsz' : (listed.setIfInBounds i true).size = ops.size := by simpa using hsz
    have hLtoA : ops.toList.toArray = ops := by simp
    unfold wpOpIn
    rw [ho]
    simp only []
    by_cases hmem : i ∈ pv.map (·.1)
    · obtain ⟨x, hx, hxi⟩ := List.mem_map.1 hmem
      obtain ⟨i', v⟩ := x
      simp only at hxi; subst hxi
      obtain ⟨A, B, rfl⟩ := List.append_of_mem hx
      have hA : ∀ k u, (k, u) ∈ A → Ahead ty ops.toList k i' := by
        intro k u hk
        obtain ⟨A1, A2, rfl⟩ := List.append_of_mem hk
        exact ahead_of (pairsOk_split hpairs (A1.map (·.1)) k (A2.map (·.1) ++ i' :: B.map (·.1) ++ post) (by rw [hL]; simp) i' (by simp))
      have hB : ∀ k u, (k, u) ∈ B → Ahead ty ops.toList i' k := by
        intro k u hk
        exact ahead_of (pairsOk_split hpairs (A.map (·.1)) i' (B.map (·.1) ++ post) (by rw [hL]; simp) k (List.mem_append_left _ (List.mem_map.2 ⟨_, hk, rfl⟩)))
      have hsame := same_ahead hcl hol hedge hilp (t0 := t0) hA (B := (i', v) :: B) (fun k u hk => by
        rcases List.mem_cons.1 hk with e | hk
        · cases e; exact .inl rfl
        · exact .inr (hB k u hk))
      obtain ⟨o', ho', hp⟩ := hpend A i' v B rfl hilp
      rw [hol] at ho'; cases ho'
      have hnext : ∀ v', VRel m v v' → wpAnyIn F n P .any ops Q fuel (listed.setIfInBounds i' true) (a.put o.dst v') w := by
        intro v' hv
        refine ih _ _ w m h (A ++ (i', v) :: B) post reads st0 hL s (by rw [put_defers]; exact hd) ?_ hsz' (fun k hk => ?_) hcl' (fun A' k u B' e hk => ?_) hhead hfuel'
        · rw [put_midst hcl hol hilp hset hB]
          exact putA_rel ht o.dst hv
        · rw [hset] at hk
          cases hks : lp listed k with
          | true => exact hin k hks
          | false =>
            rw [hks, Bool.false_or] at hk
            have : k = i' := by simpa using hk
            subst this; exact hmem
        · refine hpend A' k u B' e ?_
          rw [hset] at hk
          exact (Bool.or_eq_false_iff.1 hk).1
      rcases hp with ⟨hg, hlight, re, hL1, hre, _⟩ | ⟨hg, rfl⟩
      · have hw := (hsame.guard hg).wanted ht
        rw [hLtoA] at hw
        rw [if_pos hw]
        obtain ⟨v', hrun, hv⟩ := hL1 h hre m w a.eval s (fun x hx => by rw [hsame.ev x hx]; exact ev_rel ht x)
        refine op_run hF (post := fun u w' => u = v' ∧ w' = w) (notDefer_of_light hlight) (by rw [hrun]; exact ⟨rfl, rfl⟩) ?_
        rintro u w' ⟨rfl, rfl⟩
        exact hnext _ hv
      · have hw := (hsame.guard hg).wanted ht
        rw [hLtoA] at hw
        rw [if_neg (by simp [hw])]
        exact ⟨fun f _ => by rcases hF with rfl | ⟨l, rfl⟩ <;> trivial, hnext _ (.tuple [] #[] .nil)⟩
    · have hiL := hall i hilt
      rw [hL] at hiL
      rcases List.mem_append.1 hiL with hc | hipost
      · exact (hmem hc).elim
      cases post with
      | nil => cases hipost
      | cons j r =>
        obtain ⟨o', ho', hg, hheavy, hk⟩ := hhead
        by_cases hij : i = j
        · subst hij
          rw [hol] at ho'; cases ho'
          have hA : ∀ k u, (k, u) ∈ pv → Ahead ty ops.toList k i := by
            intro k u hk
            obtain ⟨A1, A2, rfl⟩ := List.append_of_mem hk
            exact ahead_of (pairsOk_split hpairs (A1.map (·.1)) k (A2.map (·.1) ++ i :: r) (by rw [hL]; simp) i (by simp))
          have hsame := same_ahead hcl hol hedge hilp (t0 := t0) hA (B := []) (fun k u hk => by cases hk)
          rw [List.append_nil] at hsame
          have hw := (hsame.guard hg).wanted ht
          rw [hLtoA] at hw
          rw [if_pos hw]
          refine op_run hF (notDefer_of_heavy hk) (heavy_ok T o _ _ _ hk m w a.eval s (fun x hx => by rw [hsame.ev x hx]; exact ev_rel ht x)) ?_
          rintro v' w' ⟨m', h', v, s', st, hv, hk'⟩
          obtain ⟨hreads, hk'⟩ := reloads_iff hk'
          have hdst : dstOf ops.toList i = o.dst := by simp only [dstOf, hol, Option.bind_some]
          have hput : foldS ops.toList (fun _ => true) t0 (pv ++ [(i, v)]) = putA (foldS ops.toList (fun _ => true) t0 pv) o.dst v := by
            rw [foldS_append]; simp [foldS, hdst]
          rw [← hput] at hk'
          obtain ⟨pv2, post2, reads2, e1, e2, e3, e4⟩ := advance T r (pv ++ [(i, v)]) reads hk'
          have hL2 : L = (pv ++ [(i, v)] ++ pv2).map (·.1) ++ post2 := by rw [hL, e1]; simp
          have hin2 : ∀ k u, (k, u) ∈ pv2 → lp listed k = false ∧ (k == i) = false := by
            intro k u hk2
            obtain ⟨A1, A2, rfl⟩ := List.append_of_mem hk2
            have hn := (nodup ((pv ++ [(i, v)] ++ A1).map (·.1)) k (A2.map (·.1) ++ post2) (by rw [hL2]; simp)).1
            constructor
            · cases hs : lp listed k with
              | false => rfl
              | true => exact (hn (by have := hin k hs; simp only [List.map_append, List.mem_append]; exact .inl (.inl this))).elim
            · refine beq_eq_false_iff_ne.2 fun e => hn ?_
              subst e; simp
          refine ih _ _ w' m' h' (pv ++ [(i, v)] ++ pv2) post2 reads2 (st0.trans st) hL2 s' (by rw [put_defers]; exact hd.mono st.map) ?_ hsz' (fun k hk => ?_) hcl' (fun A k u B e hk => ?_) e4 hfuel'
          · have e5 : foldS ops.toList (lp (listed.setIfInBounds i true)) t0 (pv ++ [(i, v)] ++ pv2) = putA (foldS ops.toList (lp listed) t0 pv) o.dst v := by
              rw [foldS_append, foldS_skip _ _ pv2 _ (fun k u hk => by rw [hset]; obtain ⟨q1, q2⟩ := hin2 k u hk; rw [q1, q2]; rfl), foldS_append]
              simp only [foldS, hset, beq_self_eq_true, Bool.or_true, cond_true, hdst]
              congr 1
              refine foldS_congr _ _ _ _ _ fun k u hk => ?_
              have : (k == i) = false := beq_eq_false_iff_ne.2 fun e => hmem (by rw [← e]; exact List.mem_map.2 ⟨_, hk, rfl⟩)
              rw [hset, this, Bool.or_false]
            rw [e5]
            exact putA_rel (VsRel.mono st.map ht) o.dst hv
          · rw [hset] at hk
            cases hks : lp listed k with
            | true => have := hin k hks; simp only [List.map_append, List.mem_append]; exact .inl (.inl this)
            | false =>
              rw [hks, Bool.false_or] at hk
              have : k = i := by simpa using hk
              subst this; simp
          · rw [hset] at hk
            obtain ⟨hk1, hk2⟩ := Bool.or_eq_false_iff.1 hk
            rcases split_append e with ⟨B', e6⟩ | ⟨A', e6, e7⟩
            · rcases split_append e6 with ⟨B2, e8⟩ | ⟨A2, e8, e9⟩
              · obtain ⟨c, hc, hp⟩ := hpend A k u B2 e8 hk1
                refine ⟨c, hc, ?_⟩
                rcases hp with ⟨q1, q2, re, q3, q4, q5⟩ | hp
                · refine .inl ⟨q1, q2, re, q3, ?_, fun f hf => e2 _ (q5 f hf)⟩
                  cases re with
                  | none => trivial
                  | some f =>
                    refine hreads k f (q5 f rfl) ?_
                    cases hb : ((masksOf ops.toList).getD i 0).testBit k with
                    | false => rfl
                    | true => rw [closed_mask hcl i o hol hedge k hb] at hk1; cases hk1
                · exact .inr hp
              · cases A2 with
                | nil => simp only [List.nil_append, List.cons.injEq, Prod.mk.injEq] at e9; rw [e9.1.1] at hk2; simp at hk2
                | cons y A2 => simp at e9
            · rw [e6]; exact e3 A' k u B e7
        · have hir : i ∈ r := by
            rcases List.mem_cons.1 hipost with e | hm
            · exact (hij e).elim
            · exact hm
          have hah := ahead_of (pairsOk_split hpairs (pv.map (·.1)) j r hL i hir)
          rcases hah.or with hb | ⟨x, y, hx, hy, _, h1, h2⟩
          · have := hin j (closed_mask hcl i o hol hedge j hb)
            exact ((nodup _ _ _ hL).1 this).elim
          · rw [ho'] at hx; cases hx
            rw [hheavy] at h1 h2
            simp only [Bool.false_eq_true, false_or] at h1 h2
            rw [h1] at h2; cases h2

/-- A region that draws its order. -/
theorem draw_ok (T : TabOk P ty) {F : Fence} (hF : F = Fence.wide ∨ ∃ l, F = Fence.wide.inRound l) {n : Nat} {Q : Exit → Act → World → Prop} {K : List AV → AH → Prop} (hm : P.follows .mixedOrders = true) {id : Nat}
    (hchk : (edgesBack ops.toList 0 && drawChk ty ops.toList L) = true) {m : Mp} {h : AH} {w : World} {t : List AV} {d : List Nat} {a : Act} (s : Sim m h w) (ht : VsRel m t a.tmps.toList) (hd : DRel m d a.defers)
    (hk : drawW P ty ops.toList (masksOf ops.toList) L t [] K h)
    (hQ : ∀ m' h' w' t' (a' : Act), Sim m' h' w' → Steps m h w m' h' w' → VsRel m' t' a'.tmps.toList → DRel m' d a'.defers → Fr (dstsOf ops.toList) t t' → K t' h' → Q .normal a' w') :
    (Code.region id ops true).wpIn F n P Q a w := by
  simp only [drawChk, Bool.and_eq_true] at hchk
  obtain ⟨hback, ⟨hall, hlt⟩, hpairs⟩ := hchk
  refine wpIn_region_any hm ?_
  obtain ⟨pv, post, reads, e1, _, e3, e4⟩ := advance T L [] [] hk
  have hfalse : ∀ k, lp (Array.replicate ops.size false) k = false := by
    intro k; unfold lp; simp only [Array.getD_eq_getD_getElem?, Array.getElem?_replicate]; split <;> rfl
  have s' : Sim m h { w with drawn := w.drawn + 1 } := ⟨s.top, s.lies, s.cells, s.disj, s.objs, s.inj⟩
  have st : Steps m h w m h { w with drawn := w.drawn + 1 } := ⟨Nat.le_refl _, Mp.le.refl m, Nat.le_refl _, rfl, rfl, rfl, fun _ _ _ => rfl, fun b o s hb hf hs => .inr ⟨b, o, s, hb, hf, hs, rfl⟩, fun b o s hb hs => .inr ⟨b, o, s, hb, hs, rfl⟩, fun _ _ h => h, fun _ _ h => h⟩
  refine any_ok T hF hback hpairs (fun i hi => ?_) (fun i hi => ?_) hQ ops.size _ a _ m h pv post reads st e1 s' hd ?_ (by simp) (fun i hi => by rw [hfalse] at hi; cases hi)
    (fun i o _ hi => by rw [hfalse] at hi; cases hi) (fun A i v B e _ => by have := e3 A i v B e; simpa using this) (by simpa using e4) ?_
  · have := List.all_eq_true.1 hall i (List.mem_range.2 (by simpa using hi))
    simpa using this
  · have := List.all_eq_true.1 hlt i hi
    simpa using this
  · rw [foldS_skip _ _ _ _ (fun k _ _ => hfalse k)]; exact ht
  · refine Nat.le_trans List.countP_le_length ?_
    simp
end
end Go.La
/- Layer A, part 13: code; what is carried over joins and rounds. -/
namespace Go.La
open Go Go.RowKit

variable {P : Program} {ty : TT}

/-! ### Carried slots -/
abbrev Carry := List (Nat × Bool × List K1)
@[reducible] def HT : List K1 → Type
  | [] => Unit
  | k :: r => k.den × HT r
def encH : (ks : List K1) → HT ks → List AV
  | [], _ => []
  | k :: r, x => k.enc x.1 :: encH r x.2
def K1.dec : (k : K1) → AV → Option k.den
  | .bool, .bool b => some b
  | .int k, .int k' n => bif decide (k = k') then some n else none
  | .str, .str s => some s
  | .ptr, .ptr p => some p
  | .slice sz, .slice p len sz' => bif Nat.beq sz sz' then some ⟨p, len⟩ else none
  | .map, .map r => some r
  | .fn, v => some v
  | .ifc, v => some v
  | _, _ => none
theorem K1.dec_enc {k : K1} {v : AV} {x : k.den} (h : k.dec v = some x) : k.enc x = v := by
  unfold K1.dec at h
  split at h
  · cases h; rfl
  · rename_i k k' n
    cases hd : decide (k = k') with
    | false => simp [hd] at h
    | true =>
      have := of_decide_eq_true hd; subst this
      simp at h; subst h; rfl
  · cases h; rfl
  · cases h; rfl
  · rename_i sz p len sz'
    cases hd : Nat.beq sz sz' with
    | false => simp [hd] at h
    | true =>
      have := Nat.eq_of_beq_eq_true hd; subst this
      simp only [hd, cond_true, Option.some.injEq] at h; subst h; rfl
  · cases h; rfl
  · cases h; rfl
  · cases h; rfl
  · cases h
def decH : (ks : List K1) → List AV → Option (HT ks)
  | [], [] => some ()
  | k :: r, v :: l =>
    match k.dec v with
    | some x => (match decH r l with | some y => some (x, y) | none => none)
    | none => none
  | _, _ => none
theorem decH_enc : ∀ {ks : List K1} {l : List AV} {x : HT ks}, decH ks l = some x → encH ks x = l
  | [], [], _, _ => rfl
  | k :: r, v :: l, x, h => by
    simp only [decH] at h
    cases h1 : k.dec v with
    | none => simp [h1] at h
    | some a =>
      simp only [h1] at h
      cases h2 : decH r l with
      | none => simp [h2] at h
      | some y =>
        simp only [h2, Option.some.injEq] at h
        subst h
        simp [encH, K1.dec_enc h1, decH_enc h2]
  | [], _ :: _, _, h => by simp [decH] at h
  | _ :: _, [], _, h => by simp [decH] at h
def ksOf : Carry → List K1
  | [] => []
  | (_, _, ks) :: r => ks ++ ksOf r
def cellsOf : Carry → List AV → Option (List AV)
  | [], _ => some []
  | (s, agg, ks) :: r, t =>
    match t[s]?, agg with
    | some (.agg l), true => bif Nat.beq l.length ks.length then (match cellsOf r t with | some q => some (l ++ q) | none => none) else none
    | some v, false => bif Nat.beq 1 ks.length then (match cellsOf r t with | some q => some (v :: q) | none => none) else none
    | _, _ => none
def setC : Carry → List AV → List AV → List AV
  | [], _, t => t
  | (s, agg, ks) :: r, cells, t => setC r (cells.drop ks.length) (t.set s (mkv agg (cells.take ks.length)))
def deadW : List Nat → List AV → List AV
  | [], t => t
  | i :: r, t => deadW r (t.set i .dead)
def joinT (c : Carry) (W : List Nat) (t : List AV) (x : HT (ksOf c)) : List AV := setC c (encH _ x) (deadW W t)
def decT (c : Carry) (t : List AV) : Option (HT (ksOf c)) :=
  match cellsOf c t with
  | some l => decH (ksOf c) l
  | none => none

/-- t1 says no more than t2. -/
def Less (t1 t2 : List AV) : Prop := t1.length = t2.length ∧ ∀ (i : Nat) (v : AV), t1[i]? = some v → v = AV.dead ∨ t2[i]? = some v
theorem Less.rel {t1 t2 : List AV} (h : Less t1 t2) {m : Mp} {l : List Value} (hr : VsRel m t2 l) : VsRel m t1 l := by
  refine VsRel.of_get (by rw [h.1]; exact hr.length) fun i x y g1 g2 => ?_
  rcases h.2 i x g1 with rfl | h2
  · exact .dead _
  · obtain ⟨y', k1, k2⟩ := hr.get h2
    rw [g2] at k1; cases k1; exact k2
theorem Less.set {t1 t2 : List AV} (h : Less t1 t2) {i : Nat} {v : AV} (hv : v = .dead ∨ t2[i]? = some v) : Less (t1.set i v) t2 := by
  refine ⟨by simpa using h.1, fun j u hj => ?_⟩
  rw [List.getElem?_set] at hj
  by_cases e : i = j
  · subst e
    rw [if_pos rfl] at hj
    split at hj
    · cases hj; exact hv
    · cases hj
  · rw [if_neg e] at hj; exact h.2 j u hj
theorem deadW_get : ∀ (W : List Nat) (t : List AV) (i : Nat), i ∉ W → (deadW W t)[i]? = t[i]?
  | [], _, _, _ => rfl
  | j :: r, t, i, h => by
    simp only [List.mem_cons, not_or] at h
    rw [deadW, deadW_get r _ i h.2, List.getElem?_set, if_neg (fun e => h.1 e.symm)]
theorem deadW_length : ∀ (W : List Nat) (t : List AV), (deadW W t).length = t.length
  | [], _ => rfl
  | j :: r, t => by rw [deadW, deadW_length]; simp
theorem deadW_dead : ∀ (W : List Nat) (t : List AV) (i : Nat) (v : AV), (deadW W t)[i]? = some v → i ∈ W → v = .dead
  | [], _, _, _, _, h => by cases h
  | j :: r, t, i, v, hv, h => by
    by_cases hr : i ∈ r
    · exact deadW_dead r _ i v hv hr
    · rcases List.mem_cons.1 h with rfl | h
      · rw [deadW, deadW_get r _ i hr, List.getElem?_set, if_pos rfl] at hv
        split at hv
        · cases hv; rfl
        · cases hv
      · exact (hr h).elim
theorem Fr.less {W : List Nat} {t t' : List AV} (h : Fr W t t') : Less (deadW W t) t' := by
  refine ⟨by rw [deadW_length]; exact h.1, fun i v hv => ?_⟩
  by_cases hi : i ∈ W
  · exact .inl (deadW_dead W t i v hv hi)
  · rw [deadW_get W t i hi] at hv
    exact .inr (by rw [h.2 i hi]; exact hv)
theorem setC_less : ∀ (c : Carry) (l : List AV) (t t' : List AV), cellsOf c t' = some l → Less t t' → Less (setC c l t) t'
  | [], _, _, _, _, h => h
  | (s, agg, ks) :: r, l, t, t', hc, h => by
    simp only [cellsOf] at hc
    split at hc
    · rename_i l0 hs
      cases hb : Nat.beq l0.length ks.length with
      | false => simp [hb] at hc
      | true =>
        have hl := Nat.eq_of_beq_eq_true hb
        simp only [hb, cond_true] at hc
        cases hq : cellsOf r t' with
        | none => simp [hq] at hc
        | some q =>
          simp only [hq, Option.some.injEq] at hc; subst hc
          simp only [setC]
          rw [← hl, List.drop_left, List.take_left]
          exact setC_less r q _ t' hq (h.set (.inr hs))
    · rename_i v hs
      cases hb : Nat.beq 1 ks.length with
      | false => simp [hb] at hc
      | true =>
        have hl := Nat.eq_of_beq_eq_true hb
        simp only [hb, cond_true] at hc
        cases hq : cellsOf r t' with
        | none => simp [hq] at hc
        | some q =>
          simp only [hq, Option.some.injEq] at hc; subst hc
          simp only [setC]
          rw [← hl]
          exact setC_less r q _ t' hq (h.set (.inr hs))
    · cases hc
theorem setC_length : ∀ (c : Carry) (l : List AV) (t : List AV), (setC c l t).length = t.length
  | [], _, _ => rfl
  | (s, agg, ks) :: r, l, t => by simp [setC, setC_length r]
theorem setC_get : ∀ (c : Carry) (l : List AV) (t : List AV) (i : Nat), (∀ x ∈ c, x.1 ≠ i) → (setC c l t)[i]? = t[i]?
  | [], _, _, _, _ => rfl
  | (s, agg, ks) :: r, l, t, i, h => by
    rw [setC, setC_get r _ _ i (fun x hx => h x (by simp [hx])), List.getElem?_set, if_neg (h (s, agg, ks) (by simp))]
theorem joinT_less {c : Carry} {W : List Nat} {t t' : List AV} {x : HT (ksOf c)} (hd : decT c t' = some x) (hf : Fr W t t') : Less (joinT c W t x) t' := by
  unfold decT at hd
  cases hc : cellsOf c t' with
  | none => simp [hc] at hd
  | some l =>
    simp only [hc] at hd
    unfold joinT
    rw [decH_enc hd]
    exact setC_less c l _ t' hc hf.less
/-- Every carried slot is one that is written. -/
def carryIn (W : List Nat) : Carry → Bool
  | [] => true
  | x :: r => W.contains x.1 && carryIn W r
theorem carryIn_iff {W : List Nat} : ∀ {c : Carry}, carryIn W c = true → ∀ x ∈ c, x.1 ∈ W
  | [], _, x, hx => by cases hx
  | y :: r, h, x, hx => by
    simp only [carryIn, Bool.and_eq_true] at h
    rcases List.mem_cons.1 hx with rfl | hx
    · simpa using h.1
    · exact carryIn_iff h.2 x hx
theorem joinT_fr {c : Carry} {W : List Nat} {t : List AV} {x : HT (ksOf c)} (hc : carryIn W c = true) : Fr W t (joinT c W t x) := by
  refine ⟨by rw [joinT, setC_length, deadW_length], fun i hi => ?_⟩
  have h1 : ∀ x ∈ c, x.1 ≠ i := fun x hx e => hi (e ▸ carryIn_iff hc x hx)
  rw [joinT, setC_get _ _ _ _ h1, deadW_get _ _ _ hi]

def allH : (ks : List K1) → (HT ks → Prop) → Prop
  | [], F => F ()
  | k :: r, F => ∀ x : k.den, allH r fun y => F (x, y)
theorem allH_iff : ∀ {ks : List K1} {F : HT ks → Prop}, allH ks F ↔ ∀ x, F x
  | [], _ => ⟨fun h _ => h, fun h => h ()⟩
  | _ :: _, _ => ⟨fun h x => allH_iff.1 (h x.1) x.2, fun h x => allH_iff.2 fun y => h (x, y)⟩
def sameD : List Nat → List Nat → Prop → Prop
  | [], [], K => K
  | x :: r, y :: s, K => x = y ∧ sameD r s K
  | _, _, _ => False
theorem sameD_iff : ∀ {a b : List Nat} {K : Prop}, sameD a b K → a = b ∧ K
  | [], [], _, h => ⟨rfl, h⟩
  | x :: r, y :: s, K, h => by
    obtain ⟨h1, h2⟩ := h
    obtain ⟨h3, h4⟩ := sameD_iff h2
    exact ⟨by rw [h1, h3], h4⟩
  | [], _ :: _, _, h => h.elim
  | _ :: _, [], _, h => h.elim

/-! ### Code -/
inductive Ann where
  | leaf
  | seq (a b : Ann)
  | cond (a b : Ann)
  | joinC (c : Carry) (a b : Ann)
  | block (a : Ann)
  | joinB (c : Carry) (a : Ann)
  | loop (c : Carry) (a : Ann)
  | draw (L : List Nat)
def Ann.l : Ann → Ann
  | .seq a _ => a | .cond a _ => a | .joinC _ a _ => a | .block a => a | .joinB _ a => a | .loop _ a => a | _ => .leaf
def Ann.r : Ann → Ann
  | .seq _ b => b | .cond _ b => b | .joinC _ _ b => b | _ => .leaf
def writes : Code → List Nat
  | .region _ ops _ => dstsOf ops.toList
  | .seq a b => writes a ++ writes b
  | .cond _ a b => writes a ++ writes b
  | .block _ a => writes a
  | .loop a => writes a
  | .scope a => writes a
  | _ => []

abbrev CK := Exit → List AV → List Nat → AH → Prop
def isNormal : Exit → Bool
  | .normal => true
  | _ => false
def joinK (c : Carry) (d : List Nat) (J : HT (ksOf c) → AH → Prop) (K : CK) : CK := fun e t' d' h' =>
  match e with
  | .normal => (match decT c t' with | some x => sameD d' d (J x h') | none => False)
  | e => K e t' d' h'
def blockK (id : Nat) (K : CK) : CK := fun e t d h =>
  match e with
  | .exit i => bif Nat.beq i id then K .normal t d h else K (.exit i) t d h
  | e => K e t d h
def thenK (k : List AV → List Nat → AH → Prop) (K : CK) : CK := fun e t d h =>
  match e with
  | .normal => k t d h
  | e => K e t d h
def noGotoK (K : CK) : CK := fun e t d h =>
  match e with
  | .goto _ => False
  | e => K e t d h
def cw (P : Program) (ty : TT) : Code → Ann → List AV → List Nat → CK → AH → Prop
  | .skip, _, t, d, K, h => K .normal t d h
  | .label _, _, t, d, K, h => K .normal t d h
  | .region _ ops draw, a, t, d, K, h =>
    match draw, a with
    | false, _ => opsW P ty ops.toList ops.toList t (fun t h => K .normal t d h) h
    | true, .draw L => bif edgesBack ops.toList 0 && drawChk ty ops.toList L then drawW P ty ops.toList (masksOf ops.toList) L t [] (fun t h => K .normal t d h) h else False
    | _, _ => False
  | .seq x y, a, t, d, K, h => cw P ty x a.l t d (thenK (fun t d h => cw P ty y a.r t d K h) K) h
  | .cond c x y, a, t, d, K, h =>
    match ev t c with
    | .bool b =>
      match a with
      | .joinC cs a1 a2 => bif carryIn (writes x ++ writes y) cs then ∃ J : HT (ksOf cs) → AH → Prop, (b = true → cw P ty x a1 t d (joinK cs d J K) h) ∧ (b = false → cw P ty y a2 t d (joinK cs d J K) h) ∧
          allH (ksOf cs) fun v => ∀ h', J v h' → K .normal (joinT cs (writes x ++ writes y) t v) d h' else False
      | a => (b = true → cw P ty x a.l t d K h) ∧ (b = false → cw P ty y a.r t d K h)
    | _ => False
  | .block id x, a, t, d, K, h =>
    match a with
    | .joinB cs a1 => bif carryIn (writes x) cs then ∃ J : HT (ksOf cs) → AH → Prop, cw P ty x a1 t d (blockK id (joinK cs d J K)) h ∧
        allH (ksOf cs) fun v => ∀ h', J v h' → K .normal (joinT cs (writes x) t v) d h' else False
    | a => cw P ty x a.l t d (blockK id K) h
  | .loop x, a, t, d, K, h =>
    match a with
    | .loop cs a1 => bif carryIn (writes x) cs then ∃ (I : HT (ksOf cs) → AH → Prop) (μ : HT (ksOf cs) → AH → Nat), (match decT cs t with | some v => I v h | none => False) ∧
        allH (ksOf cs) fun v => ∀ h1, I v h1 → cw P ty x a1 (joinT cs (writes x) t v) d (joinK cs d (fun v' h' => I v' h' ∧ μ v' h' < μ v h1) K) h1 else False
    | _ => False
  | .exit id, _, t, d, K, h => K (.exit id) t d h
  | .scope x, a, t, d, K, h => cw P ty x a t d (noGotoK K) h
  | .ret, _, t, d, K, h => K .ret t d h
  | _, _, _, _, _, _ => False
end Go.La
/- Layer A, part 14: code is sound. -/
namespace Go.La
open Go Go.RowKit

variable {P : Program} {ty : TT}

def CPostF (m : Mp) (h : AH) (w : World) (t : List AV) (W : List Nat) (K : CK) : Exit → Act → World → Prop :=
  fun e act w' => ∃ m' h' t' d', Sim m' h' w' ∧ Steps m h w m' h' w' ∧ VsRel m' t' act.tmps.toList ∧ DRel m' d' act.defers ∧ Fr W t t' ∧ K e t' d' h'
theorem CPostF.mono {m : Mp} {h : AH} {w : World} {t : List AV} {W : List Nat} {K K' : CK} {e : Exit} {act : Act} {w' : World} (hp : CPostF m h w t W K e act w') (hk : ∀ e t d h, K e t d h → K' e t d h) : CPostF m h w t W K' e act w' :=
  let ⟨m', h', t', d', a, b, c, d, f, g⟩ := hp; ⟨m', h', t', d', a, b, c, d, f, hk _ _ _ _ g⟩
theorem CPostF.shift {m m1 : Mp} {h h1 : AH} {w w1 : World} {t t1 : List AV} {W W1 : List Nat} {K : CK} {e : Exit} {act : Act} {w' : World} (hp : CPostF m1 h1 w1 t1 W1 K e act w') (st : Steps m h w m1 h1 w1) (hf : Fr W t t1) (hW : ∀ i, i ∈ W1 → i ∈ W) : CPostF m h w t W K e act w' :=
  let ⟨m', h', t', d', a, b, c, d, f, g⟩ := hp; ⟨m', h', t', d', a, st.trans b, c, d, hf.trans' (f.sub hW), g⟩
theorem CPostF.join {m : Mp} {h : AH} {w : World} {t : List AV} {W : List Nat} {K : CK} {e : Exit} {act : Act} {w' : World} {cs : Carry} {d : List Nat} {J : HT (ksOf cs) → AH → Prop}
    (hp : CPostF m h w t W (joinK cs d J K) e act w') (hc : carryIn W cs = true) (hj : ∀ v h', J v h' → K .normal (joinT cs W t v) d h') : CPostF m h w t W K e act w' := by
  obtain ⟨m', h', t', d', a, b, c, hd, f, g⟩ := hp
  cases e with
  | normal =>
    simp only [joinK] at g
    cases hx : decT cs t' with
    | none => simp [hx] at g
    | some x =>
      simp only [hx] at g
      obtain ⟨rfl, g2⟩ := sameD_iff g
      exact ⟨m', h', _, d', a, b, (joinT_less hx f).rel c, hd, joinT_fr hc, hj _ _ g2⟩
  | _ => exact ⟨m', h', t', d', a, b, c, hd, f, g⟩

section
variable {F : Fence} {n : Nat} {Q : Exit → Act → World → Prop}
theorem stepR_scope {b : Frame} {a : Act} {k : List Item} {cs : List Frame} {w : World} {c : Code} : step P (lone (b.atR a (.code (.scope c) :: k)) cs w) = .next (lone (b.atR a (.code c :: .inScope c :: k)) cs w) :=
  step_lone_go (by simp [stepG, stepG.exec, Frame.atR])
theorem stepR_inScope {b : Frame} {a : Act} {k : List Item} {cs : List Frame} {w : World} {c : Code} : step P (lone (b.atR a (.inScope c :: k)) cs w) = .next (lone (b.atR a k) cs w) :=
  step_lone_go (by simp [stepG, stepG.exec, Frame.atR])
theorem wpIn_scope {a : Act} {w : World} {c : Code} (h : c.wpIn F n P (Exit.noGoto Q) a w) : (Code.scope c).wpIn F n P Q a w := by
  intro b k cs hro hb hr
  have h0 : (lone (b.atR a (.code (.scope c) :: k)) cs w).fenced P F := fenced_calm hb hr rfl
  obtain ⟨e, a₁, w₁, hq, harr⟩ := h b (.inScope c :: k) cs hro hb hr
  cases e with
  | normal => exact ⟨.normal, a₁, w₁, hq, .head h0 stepR_scope (StepsIn.trans harr (.one (fenced_calm hb hr rfl) stepR_inScope))⟩
  | exit id =>
    have hx : exitTo id (.inScope c :: k) = exitTo id k := by simp [exitTo]
    exact ⟨.exit id, a₁, w₁, hq, fun k' hk => .head h0 stepR_scope (harr.1 k' (by rw [hx]; exact hk)),
      fun hr' hk => let ⟨k₁, h1, h2⟩ := harr.2 hr' (by rw [hx]; exact hk); ⟨k₁, h1, .head h0 stepR_scope h2⟩⟩
  | goto l => exact hq.elim
  | ret => exact ⟨_, a₁, w₁, hq, .of_steps (.one h0 stepR_scope) harr⟩
  | panic ch => exact ⟨_, a₁, w₁, hq, .of_steps (.one h0 stepR_scope) harr⟩
  | outgrown => exact ⟨_, a₁, w₁, hq, .of_steps (.one h0 stepR_scope) harr⟩
end

theorem least (p : Nat → Prop) (h : ∃ k, p k) : ∃ k, p k ∧ ∀ j, p j → k ≤ j := by
  obtain ⟨k, hk⟩ := h
  induction k using Nat.strongRecOn with
  | _ k ih =>
    by_cases hj : ∃ j, j < k ∧ p j
    · obtain ⟨j, h1, h2⟩ := hj; exact ih j h1 h2
    · exact ⟨k, hk, fun j h2 => Nat.le_of_not_lt fun h1 => hj ⟨j, h1, h2⟩⟩

open Classical in
noncomputable def leastOf (p : Nat → Prop) : Nat := if h : ∃ k, p k then Classical.choose (least p h) else 0
theorem leastOf_spec {p : Nat → Prop} (h : ∃ k, p k) : p (leastOf p) ∧ ∀ j, p j → leastOf p ≤ j := by
  unfold leastOf; rw [dif_pos h]; exact Classical.choose_spec (least p h)

theorem cw_ok (T : TabOk P ty) (hm : P.follows .mixedOrders = true) {F : Fence} (hF : F = Fence.wide ∨ ∃ l, F = Fence.wide.inRound l) {n : Nat} : ∀ (c : Code) (ann : Ann) (t : List AV) (d : List Nat) (K : CK) (m : Mp) (h : AH) (w : World) (a : Act),
    Sim m h w → VsRel m t a.tmps.toList → DRel m d a.defers → cw P ty c ann t d K h → c.wpIn F n P (CPostF m h w t (writes c) K) a w := by
  intro c
  induction c with
  | skip => intro ann t d K m h w a s ht hd hk; exact wpIn_skip ⟨m, h, t, d, s, Steps.refl _ _ _, ht, hd, Fr.refl _ _, hk⟩
  | label l => intro ann t d K m h w a s ht hd hk; exact wpIn_label ⟨m, h, t, d, s, Steps.refl _ _ _, ht, hd, Fr.refl _ _, hk⟩
  | exit id => intro ann t d K m h w a s ht hd hk; exact wpIn_exit ⟨m, h, t, d, s, Steps.refl _ _ _, ht, hd, Fr.refl _ _, hk⟩
  | ret => intro ann t d K m h w a s ht hd hk; exact wpIn_ret ⟨m, h, t, d, s, Steps.refl _ _ _, ht, hd, Fr.refl _ _, hk⟩
  | region id ops draw =>
    intro ann t d K m h w a s ht hd hk
    simp only [cw] at hk
    split at hk
    · refine wpIn_region (opsW_ok T hF (fun t h => K .normal t d h) ops.toList 0 rfl m h w t d a s ht hd hk ?_)
      exact fun m' h' w' t' a' s' st' ht' hd' hf' hk' => ⟨m', h', t', d, s', st', ht', hd', hf', hk'⟩
    · rename_i L
      cases hc : (edgesBack ops.toList 0 && drawChk ty ops.toList L) with
      | false => simp [hc] at hk
      | true =>
        simp only [hc, cond_true] at hk
        exact draw_ok T hF hm hc s ht hd hk fun m' h' w' t' a' s' st' ht' hd' hf' hk' => ⟨m', h', t', d, s', st', ht', hd', hf', hk'⟩
    · exact hk.elim
  | seq x y ihx ihy =>
    intro ann t d K m h w a s ht hd hk
    simp only [cw] at hk
    refine wpIn_seq (wpIn_mono (ihx _ _ _ _ m h w a s ht hd hk) fun e a1 w1 hp => ?_)
    obtain ⟨m1, h1, t1, d1, s1, st1, ht1, hd1, hf1, hk1⟩ := hp
    have hs : ∀ i, i ∈ writes x → i ∈ writes (.seq x y) := fun i hi => List.mem_append_left _ hi
    cases e with
    | normal =>
      refine wpIn_mono (ihy _ _ _ _ m1 h1 w1 a1 s1 ht1 hd1 hk1) fun e a2 w2 hp => ?_
      exact hp.shift st1 (hf1.sub hs) (fun i hi => List.mem_append_right _ hi)
    | _ => exact ⟨m1, h1, t1, d1, s1, st1, ht1, hd1, hf1.sub hs, hk1⟩
  | cond c x y ihx ihy =>
    intro ann t d K m h w a s ht hd hk
    have hsx : ∀ i, i ∈ writes x → i ∈ writes (.cond c x y) := fun i hi => List.mem_append_left _ hi
    have hsy : ∀ i, i ∈ writes y → i ∈ writes (.cond c x y) := fun i hi => List.mem_append_right _ hi
    simp only [cw] at hk
    split at hk
    · rename_i b hb
      have hr := ev_rel ht c
      rw [hb] at hr
      have hv : a.eval c = .bool b := by generalize a.eval c = v at hr; cases hr; rfl
      refine wpIn_cond hv ?_
      split at hk
      · rename_i cs a1 a2
        cases hc : carryIn (writes x ++ writes y) cs with
        | false => simp [hc] at hk
        | true =>
          simp only [hc, cond_true] at hk
          obtain ⟨J, h1, h2, h3⟩ := hk
          rw [allH_iff] at h3
          cases b with
          | true =>
            refine wpIn_mono (ihx _ _ _ _ m h w a s ht hd (h1 rfl)) fun e a2 w2 hp => ?_
            exact (hp.shift (W := writes (.cond c x y)) (Steps.refl _ _ _) (Fr.refl _ _) hsx).join hc h3
          | false =>
            refine wpIn_mono (ihy _ _ _ _ m h w a s ht hd (h2 rfl)) fun e a2 w2 hp => ?_
            exact (hp.shift (W := writes (.cond c x y)) (Steps.refl _ _ _) (Fr.refl _ _) hsy).join hc h3
      · cases b with
        | true => exact wpIn_mono (ihx _ _ _ _ m h w a s ht hd (hk.1 rfl)) fun e a2 w2 hp => hp.shift (Steps.refl _ _ _) (Fr.refl _ _) hsx
        | false => exact wpIn_mono (ihy _ _ _ _ m h w a s ht hd (hk.2 rfl)) fun e a2 w2 hp => hp.shift (Steps.refl _ _ _) (Fr.refl _ _) hsy
    · exact hk.elim
  | block id x ih =>
    intro ann t d K m h w a s ht hd hk
    have fin : ∀ {K : CK} {e : Exit} {a1 : Act} {w1 : World}, CPostF m h w t (writes x) (blockK id K) e a1 w1 → Exit.inBlock id (CPostF m h w t (writes x) K) e a1 w1 := by
      intro K e a1 w1 hp
      cases e with
      | exit i =>
        simp only [Exit.inBlock]
        obtain ⟨m1, h1, t1, d1, s1, st1, ht1, hd1, hf1, hk1⟩ := hp
        simp only [blockK] at hk1
        by_cases e : i = id
        · subst e
          rw [if_pos rfl]
          rw [Nat.beq_refl] at hk1
          exact ⟨m1, h1, t1, d1, s1, st1, ht1, hd1, hf1, hk1⟩
        · rw [if_neg e]
          rw [Bool.eq_false_iff.2 (fun h => e (Nat.eq_of_beq_eq_true h))] at hk1
          exact ⟨m1, h1, t1, d1, s1, st1, ht1, hd1, hf1, hk1⟩
      | _ => exact hp
    simp only [cw] at hk
    split at hk
    · rename_i cs a1
      cases hc : carryIn (writes x) cs with
      | false => simp [hc] at hk
      | true =>
        simp only [hc, cond_true] at hk
        obtain ⟨J, h1, h3⟩ := hk
        rw [allH_iff] at h3
        refine wpIn_block (wpIn_mono (ih _ _ _ _ m h w a s ht hd h1) fun e a2 w2 hp => ?_)
        have := fin hp
        cases e with
        | exit i =>
          simp only [Exit.inBlock] at this ⊢
          split
          · rename_i e; rw [if_pos e] at this; exact this.join hc h3
          · rename_i e; rw [if_neg e] at this; exact this.join hc h3
        | _ => exact this.join hc h3
    · exact wpIn_block (wpIn_mono (ih _ _ _ _ m h w a s ht hd hk) fun e a2 w2 hp => fin hp)
  | loop x ih =>
    intro ann t d K m h w a s ht hd hk
    simp only [cw] at hk
    split at hk
    · rename_i cs a1
      cases hc : carryIn (writes x) cs with
      | false => simp [hc] at hk
      | true =>
        simp only [hc, cond_true] at hk
        obtain ⟨I, μ, h0, h1⟩ := hk
        rw [allH_iff] at h1
        cases hx : decT cs t with
        | none => simp [hx] at h0
        | some v0 =>
          simp only [hx] at h0
          let Inv : Nat → Act → World → Prop := fun k act w' => ∃ m' h' v, Sim m' h' w' ∧ Steps m h w m' h' w' ∧ VsRel m' (joinT cs (writes x) t v) act.tmps.toList ∧ DRel m' d act.defers ∧ I v h' ∧ μ v h' ≤ k
          have start : Inv (μ v0 h) a w := ⟨m, h, v0, s, Steps.refl _ _ _, (joinT_less hx (Fr.refl _ _)).rel ht, hd, h0, Nat.le_refl _⟩
          refine wpIn_loop (fun act w' => ∃ k, Inv k act w') (fun act w' => leastOf fun k => Inv k act w') ⟨_, start⟩ ?_
          intro act w1 hi
          have hmu := (leastOf_spec hi).1
          obtain ⟨m1, h1', v, s1, st1, ht1, hd1, hI, hle⟩ := hmu
          refine wpIn_mono (ih _ _ _ _ m1 h1' w1 act s1 ht1 hd1 (h1 v h1' hI)) fun e a2 w2 hp => ?_
          obtain ⟨m2, h2, t2, d2, s2, st2, ht2, hd2, hf2, hk2⟩ := hp
          have hf : Fr (writes x) t t2 := (joinT_fr hc).trans' hf2
          cases e with
          | normal =>
            simp only [joinK] at hk2
            cases hx2 : decT cs t2 with
            | none => simp [hx2] at hk2
            | some v2 =>
              simp only [hx2] at hk2
              obtain ⟨rfl, hI2, hlt⟩ := sameD_iff hk2
              have inv2 : Inv (μ v2 h2) a2 w2 := ⟨m2, h2, v2, s2, st1.trans st2, (joinT_less hx2 hf).rel ht2, hd2, hI2, Nat.le_refl _⟩
              refine ⟨⟨_, inv2⟩, ?_⟩
              have := (leastOf_spec (p := fun k => Inv k a2 w2) ⟨_, inv2⟩).2 _ inv2
              omega
          | _ => exact ⟨m2, h2, t2, d2, s2, st1.trans st2, ht2, hd2, hf, hk2⟩
    · exact hk.elim
  | scope x ih =>
    intro ann t d K m h w a s ht hd hk
    simp only [cw] at hk
    refine wpIn_scope (wpIn_mono (ih _ _ _ _ m h w a s ht hd hk) fun e a2 w2 hp => ?_)
    obtain ⟨m1, h1, t1, d1, s1, st1, ht1, hd1, hf1, hk1⟩ := hp
    cases e with
    | goto l => exact hk1.elim
    | _ => exact ⟨m1, h1, t1, d1, s1, st1, ht1, hd1, hf1, hk1⟩
  | _ => intro ann t d K m h w a s ht hd hk; simp [cw] at hk
end Go.La
/- Layer A, part 15: functions are sound. -/
namespace Go.La
open Go Go.RowKit

variable {P : Program} {ty : TT}

def resOf (ty : TT) (t : List AV) (h : AH) : List ResultVar → (List AV → Prop) → Prop
  | [], K => K []
  | .tmp i :: r, K => resOf ty t h r fun l => K (t.getD i .dead :: l)
  | .cell a tt :: r, K =>
    match ty.find tt, t.getD a .dead with
    | some (.plain agg ks _), .ptr q => needSome q fun p => ∃ x : Tup ks, h.rd p ks.length = some (encTup ks x) ∧ resOf ty t h r fun l => K (mkv agg (encTup ks x) :: l)
    | _, _ => False
def oneOf (l : List AV) : AV :=
  match l with
  | [v] => v
  | l => .tuple l
def resVar (tmps : Array Value) : ResultVar → Sem Value
  | .tmp t => pure (tmps.getD t undef)
  | .cell a t => do loadVar t (← asAddr (tmps.getD a undef))

theorem getD_rel {m : Mp} {t : List AV} {a : Array Value} (h : VsRel m t a.toList) (i : Nat) : VRel m (t.getD i .dead) (a.getD i undef) := by
  have := ev_rel (a := { tmps := a, defers := [] }) h (.tmp i)
  simpa [ev, Act.eval, Array.getD_eq_getD_getElem?] using this

theorem resOf_run (T : TabOk P ty) {m : Mp} {h : AH} {w : World} (s : Sim m h w) {t : List AV} {a : Array Value} (ht : VsRel m t a.toList) : ∀ (rs : List ResultVar) (K : List AV → Prop), resOf ty t h rs K →
    ∃ vs l, (rs.mapM (resVar a)).run P w = .ok vs w ∧ VsRel m l vs ∧ K l
  | [], K, hk => ⟨[], [], rfl, .nil, hk⟩
  | .tmp i :: r, K, hk => by
    obtain ⟨vs, l, h1, h2, h3⟩ := resOf_run T s ht r _ hk
    refine ⟨_, _, ?_, .cons _ _ _ _ (getD_rel ht i) h2, h3⟩
    simp [List.mapM_cons, resVar, h1]
  | .cell c tt :: r, K, hk => by
    simp only [resOf] at hk
    split at hk
    · rename_i agg ks d q hf hp
      rw [needSome_iff] at hk
      obtain ⟨p, rfl, x, hr, hk⟩ := hk
      obtain ⟨vs, l, h1, h2, h3⟩ := resOf_run T s ht r _ hk
      have r1 := getD_rel ht c
      rw [hp] at r1
      generalize hρ : a.getD c undef = pv at *
      cases r1 with | ptr _ sl hm =>
      obtain ⟨v', g1, g2⟩ := load_run s (T.plain hf) hr hm
      refine ⟨_, _, ?_, .cons _ _ _ _ g2 h2, h3⟩
      simp only [Instr.loadAt, Instr.sureAddr] at g1
      have g1' : (loadVar tt (sl.addr p.o)).run P w = .ok v' w := by simpa using g1
      have hv : (resVar a (.cell c tt)).run P w = .ok v' w := by simp [resVar, hρ, asAddr, g1']
      simp [List.mapM_cons, hv, h1]
    · exact hk.elim

theorem results_run (T : TabOk P ty) {m : Mp} {h : AH} {w : World} (s : Sim m h w) {t : List AV} {a : Array Value} (ht : VsRel m t a.toList) {fn : Func} {K : AV → Prop}
    (hk : resOf ty t h fn.results.toList fun l => K (oneOf l)) : ∃ v v', (results fn a).run P w = .ok v' w ∧ VRel m v v' ∧ K v := by
  obtain ⟨vs, l, h1, h2, h3⟩ := resOf_run T s ht _ _ hk
  have hr : results fn a = (do let vs ← fn.results.mapM (resVar a); pure (if h : vs.size = 1 then vs[0] else .tuple vs)) := by
    unfold results
    congr 1
  have hm : (fn.results.mapM (resVar a)).run P w = .ok vs.toArray w := by
    rw [← Array.toArray_toList (xs := fn.results), List.mapM_toArray]
    simp [h1]
  refine ⟨oneOf l, if h : vs.toArray.size = 1 then vs.toArray[0] else .tuple vs.toArray, by rw [hr]; simp [hm], ?_, h3⟩
  have hl := h2.length
  cases h2 with
  | nil => exact .tuple [] _ .nil
  | cons x y xs ys hx hxs =>
    cases hxs with
    | nil => simpa [oneOf] using hx
    | cons x2 y2 xs2 ys2 hx2 hxs2 =>
      have : ¬ ((y :: y2 :: ys2).toArray.size = 1) := by simp
      rw [dif_neg this]
      exact .tuple _ _ (.cons _ _ _ _ hx (.cons _ _ _ _ hx2 hxs2))

/-- A function's body at arguments. -/
def fnW (P : Program) (ty : TT) (fn : Func) (ann : Ann) (args : List AV) (h : AH) (R : AV → AH → Prop) : Prop :=
  match fn.body with
  | some c => cw P ty c ann (args ++ List.replicate (fn.ntmps - args.length) .dead) [] (fun e t d h' =>
      match e with
      | .normal => (match d with | [] => resOf ty t h' fn.results.toList fun l => R (oneOf l) h' | _ => False)
      | .ret => (match d with | [] => resOf ty t h' fn.results.toList fun l => R (oneOf l) h' | _ => False)
      | _ => False) h
  | none => False

theorem replicate_rel (m : Mp) (n : Nat) : VsRel m (List.replicate n .dead) (List.replicate n undef) := by
  induction n with
  | zero => exact .nil
  | succ n ih => exact .cons _ _ _ _ (.dead _) ih

theorem fnW_calls (T : TabOk P ty) (hm : P.follows .mixedOrders = true) {f : FuncId} {fn : Func} (hf : P.funcs[f]? = some fn) {ann : Ann} {args : List AV} {h : AH} {R : AV → AH → Prop} (hk : fnW P ty fn ann args h R)
    {m : Mp} {w : World} {args' : Array Value} (s : Sim m h w) (ha : VsRel m args args'.toList) : CallsIn Fence.wide 0 P f args' w fun e w' => ∃ v, e = .returned v ∧ Post m h w R v w' := by
  unfold fnW at hk
  split at hk
  · rename_i c hb
    refine callsIn_of_wp hf hb trivial (wpIn_mono (cw_ok T hm (.inl rfl) c ann _ [] _ m h w { tmps := args' ++ Array.replicate (fn.ntmps - args'.size) undef, defers := [] } s ?_ trivial hk) ?_)
    · have hl := ha.length
      simp only [Array.toList_append, Array.toList_replicate]
      rw [show args'.size = args.length by simpa using hl.symm]
      exact ha.append (replicate_rel m _)
    · intro e a w' hp
      obtain ⟨m', h', t', d', s', st, ht, hd, _, hk'⟩ := hp
      cases e with
      | normal =>
        simp only at hk'
        split at hk'
        · obtain ⟨v, v', g1, g2, g3⟩ := results_run T s' ht (K := fun v => R v h') hk'
          refine ⟨?_, v', g1, v', rfl, m', h', v, s', st, g2, g3⟩
          cases hda : a.defers with
          | nil => rfl
          | cons x y => rw [hda] at hd; exact hd.elim
        · exact hk'.elim
      | ret =>
        simp only at hk'
        split at hk'
        · obtain ⟨v, v', g1, g2, g3⟩ := results_run T s' ht (K := fun v => R v h') hk'
          refine ⟨?_, v', g1, v', rfl, m', h', v, s', st, g2, g3⟩
          cases hda : a.defers with
          | nil => rfl
          | cons x y => rw [hda] at hd; exact hd.elim
        · exact hk'.elim
      | _ => exact hk'.elim
  · exact hk.elim

theorem fnW_ok (T : TabOk P ty) (hm : P.follows .mixedOrders = true) {f : FuncId} {fn : Func} (hf : P.funcs[f]? = some fn) (hn : (fn.name == "runtime.NumGoroutine") = false) {ann : Ann} {l1 args l2 : List AV} {h : AH} {R : AV → AH → Prop}
    (hk : fnW P ty fn ann (l1 ++ args ++ l2) h R) : ACall P (.func (.func f) l1 l2) args h R := by
  intro m w F' args' s hF ha
  cases hF with | func _ fn' _ _ a1 a2 hfn h1 h2 =>
  cases hfn with | func =>
  have hb : fn.body.isNone = false := by
    unfold fnW at hk
    cases hb : fn.body with
    | none => simp [hb] at hk
    | some c => rfl
  have : (do let d ← Deferred.ofValue (.func (.func f) a1 a2) args'.toArray; invoke d.target d.args : Sem Next).run P w = .ok (.enter f (a1 ++ args'.toArray ++ a2)) w := by
    have hn' : ¬ fn.name = "runtime.NumGoroutine" := by simpa using hn
    have hb' : ¬ fn.body = none := fun e => by rw [e] at hb; cases hb
    simp [Deferred.ofValue, invoke, callFunc, hf, hn', hb']
  rw [this]
  refine fnW_calls T hm hf hk s ?_
  simp only [Array.toList_append]
  exact (h1.append ha).append h2
end Go.La
/- Layer A, forgetting: what a call made, and nothing leads to any more, need not be told. -/
namespace Go.La
open Go Go.RowKit

variable {P : Program}

theorem FnRel.back {m m' : Mp} (hm : m.le m') {f x y : Fn} (h : FnRel m f x) (k : FnRel m' f y) : FnRel m f y := by
  cases h with
  | func f => cases k; exact .func f
  | yield l s h => cases k with | yield _ s' h' => rw [hm _ _ h] at h'; cases h'; exact .yield l s h
mutual
theorem VRel.back {m m' : Mp} (hm : m.le m') : ∀ {v : AV} {x y : Value}, VRel m v x → VRel m' v y → VRel m v y
  | _, _, _, .bool b, .bool _ => .bool b
  | _, _, _, .int k n, .int _ _ => .int k n
  | _, _, _, .str s, .str _ => .str s
  | _, _, _, .pnil, .pnil => .pnil
  | _, _, _, .ptr p s h, .ptr _ s' h' => by rw [hm _ _ h] at h'; cases h'; exact .ptr p s h
  | _, _, _, .anyptr _, .anyptr b => .anyptr b
  | _, _, _, .snil sz, .snil _ => .snil sz
  | _, _, _, .slice p len sz a cap s h h1 h2 h3, .slice _ _ _ a' cap' s' h' h1' h2' h3' => by rw [hm _ _ h] at h'; cases h'; exact .slice p len sz a' cap' s h h1' h2' h3'
  | _, _, _, .mnil, .mnil => .mnil
  | _, _, _, .map r s h, .map _ s' h' => by rw [hm _ _ h] at h'; cases h'; exact .map r s h
  | _, _, _, .func fn fn' l1 l2 a1 a2 h h1 h2, .func _ gn _ _ b1 b2 k k1 k2 => .func fn gn l1 l2 b1 b2 (h.back hm k) (VsRel.back hm h1 k1) (VsRel.back hm h2 k2)
  | _, _, _, .fnil, .fnil => .fnil
  | _, _, _, .iface t v v' h, .iface _ _ w k => .iface t v w (VRel.back hm h k)
  | _, _, _, .inil, .inil => .inil
  | _, _, _, .agg l a h, .agg _ b k => .agg l b (VsRel.back hm h k)
  | _, _, _, .tuple l a h, .tuple _ b k => .tuple l b (VsRel.back hm h k)
  | _, _, _, .dead _, k => by cases k; exact .dead _
theorem VsRel.back {m m' : Mp} (hm : m.le m') : ∀ {v : List AV} {x y : List Value}, VsRel m v x → VsRel m' v y → VsRel m v y
  | _, _, _, .nil, .nil => .nil
  | _, _, _, .cons _ _ _ _ h1 h2, .cons _ _ _ _ k1 k2 => .cons _ _ _ _ (VRel.back hm h1 k1) (VsRel.back hm h2 k2)
end
theorem EntRel.back {m m' : Mp} (hm : m.le m') : ∀ {a : List (AV × AV × Nat)} {b c : List MapEntry}, EntRel m a b → EntRel m' a c → EntRel m a c
  | [], [], [], _, _ => trivial
  | (_, _, _) :: _, _ :: _, _ :: _, ⟨h1, h2, h3, h4⟩, ⟨k1, k2, k3, k4⟩ => ⟨h1.back hm k1, h2.back hm k2, k3, EntRel.back hm h4 k4⟩
  | [], _ :: _, _, h, _ => h.elim
  | [], [], _ :: _, _, h => h.elim
  | (_, _, _) :: _, [], _, h, _ => h.elim
  | (_, _, _) :: _, _ :: _, [], _, h => h.elim
theorem ObjRel.back {m m' : Mp} (hm : m.le m') {o : AObj} {x y : Obj} (h : ObjRel m o x) (k : ObjRel m' o y) : ObjRel m o y := by
  cases h with
  | map es arr clock h => cases k with | map _ arr' _ k => exact .map es arr' clock (h.back hm k)
  | iter0 since seen last => cases k; exact .iter0 since seen last
  | iter r s h since seen last => cases k with | iter _ s' k => rw [hm _ _ h] at k; cases k; exact .iter r s h since seen last
  | loop st pend fn tmps ps asg body d ct cd h1 h2 => cases k with | loop _ _ fn' _ _ _ _ _ ct' cd' k1 k2 => rw [hm _ _ h2] at k2; cases k2; exact .loop st pend fn' tmps ps asg body d ct' cd (h1.back hm k1) h2
  | dfr o => cases k; exact .dfr o
  | siter s pos => cases k; exact .siter s pos

/-- All places of the value lie below n. -/
def Low (n : Nat) (v : AV) : Prop := ∀ (m m' : Mp) (x : Value), (∀ b s, b < n → m' b = some s → m b = some s) → VRel m' v x → VRel m v x
theorem Low.int (n : Nat) (k : IntKind) (i : Int) : Low n (.int k i) := fun _ _ _ _ h => by cases h; exact .int _ _
theorem Low.bool (n : Nat) (b : Bool) : Low n (.bool b) := fun _ _ _ _ h => by cases h; exact .bool _
theorem Low.str (n : Nat) (s : Str) : Low n (.str s) := fun _ _ _ _ h => by cases h; exact .str _
theorem Low.nptr (n : Nat) : Low n (.ptr none) := fun _ _ _ _ h => by cases h; exact .pnil
theorem Low.dead (n : Nat) : Low n .dead := fun _ _ _ _ h => by cases h; exact .dead _
theorem Low.ptr {n : Nat} {p : Pt} (h : p.b < n) : Low n (.ptr (some p)) := fun _ _ _ hm k => by cases k with | ptr _ s q => exact .ptr p s (hm _ _ h q)
theorem Low.slice {n : Nat} {p : Pt} (h : p.b < n) (l sz : Nat) : Low n (.slice (some p) l sz) := fun _ _ _ hm k => by cases k with | slice _ _ _ a cap s q h1 h2 h3 => exact .slice p l sz a cap s (hm _ _ h q) h1 h2 h3
theorem Low.nslice (n l sz : Nat) : Low n (.slice none l sz) := fun _ _ _ _ h => by cases h; exact .snil _
theorem Low.list {n : Nat} : ∀ {l : List AV}, (∀ v ∈ l, Low n v) → ∀ (m m' : Mp) (x : List Value), (∀ b s, b < n → m' b = some s → m b = some s) → VsRel m' l x → VsRel m l x
  | [], _, _, _, _, _, h => by cases h; exact .nil
  | v :: r, hl, m, m', _, hm, h => by cases h with | cons _ _ _ _ h1 h2 => exact .cons _ _ _ _ (hl v (by simp) m m' _ hm h1) (Low.list (fun u hu => hl u (by simp [hu])) m m' _ hm h2)
theorem Low.agg {n : Nat} {l : List AV} (h : ∀ v ∈ l, Low n v) : Low n (.agg l) := fun m m' _ hm k => by cases k with | agg _ a k => exact .agg l a (Low.list h m m' _ hm k)
theorem Low.tuple {n : Nat} {l : List AV} (h : ∀ v ∈ l, Low n v) : Low n (.tuple l) := fun m m' _ hm k => by cases k with | tuple _ a k => exact .tuple l a (Low.list h m m' _ hm k)

/-- g: what is left of h', when what is new to h is forgotten. -/
def Cut (h h' g : AH) : Prop :=
  g.next = h.next ∧ ∀ b o, g.get b = some o → b < h.next ∧ h'.get b = some o ∧ (h.get b = some o ∨ ∃ ro fz el c, o = .cells ro fz el c ∧ ∀ v ∈ c, Low h.next v)
theorem ACall.forget {F : AV} {args : List AV} {h : AH} {R : AV → AH → Prop} (hc : ACall P F args h fun v h' => ∃ g, Cut h h' g ∧ Low h.next v ∧ R v g) : ACall P F args h R := by
  intro m w F' args' s hF ha
  refine (hc m w F' args' s hF ha).mono ?_
  rintro x w' ⟨m', h', v, s', st, hv, g, ⟨gn, hg⟩, hlow, hr⟩
  have old : ∀ b t, b < h.next → m' b = some t → m b = some t := fun b t hb ht => by
    cases e : m b with
    | none => rw [st.anon b hb e] at ht; cases ht
    | some u => rw [st.map b u e] at ht; exact ht ▸ rfl
  have up : ∀ b o, g.get b = some o → ∃ t, m b = some t ∧ m' b = some t ∧ t.cb < w'.heap.size := fun b o hb => by
    obtain ⟨h1, h2, -⟩ := hg b o hb
    obtain ⟨t, ht, hl⟩ := s'.lies b o h2
    exact ⟨t, old b t h1 ht, ht, hl⟩
  refine ⟨m, g, v, ⟨fun b hb => ?_, fun b o hb => ?_, fun b ro fz el c t hb ht => ?_, fun b b' fz el c ro' fz' el' c' t t' hb hb' hne ht ht' => ?_, fun b o t hb hn ht => ?_, fun b b' o o' t t' hb hb' hne hn ht ht' => ?_⟩,
    ⟨Nat.le_of_eq gn.symm, Mp.le.refl m, st.size, st.os, st.tape, st.out, st.keep, fun b o t hb hf ht => ?_, fun b o t hb ht => ?_, fun b hb hn => ?_, fun _ _ h => h⟩, hlow m m' x old hv, hr⟩
  · rw [gn] at hb
    refine ⟨?_, (s.top b hb).2⟩
    cases e : g.get b with
    | none => rfl
    | some o => exact absurd (hg b o e).1 (by omega)
  · obtain ⟨t, h1, -, h3⟩ := up b o hb
    exact ⟨t, h1, h3⟩
  · obtain ⟨h1, h2, h3⟩ := hg b _ hb
    obtain ⟨arr, lo, hi, c1, c2, c3, c4, c5⟩ := s'.cells b ro fz el c t h2 (st.map b t ht)
    refine ⟨arr, lo, hi, c1, c2, c3, fun i u hu => ⟨(c4 i u hu).1, ?_⟩, c5⟩
    obtain ⟨y, hy, hr'⟩ := (c4 i u hu).2
    refine ⟨y, hy, ?_⟩
    rcases h3 with h3 | ⟨_, _, _, c', e, hl⟩
    · obtain ⟨_, _, _, -, -, -, d4, -⟩ := s.cells b ro fz el c t h3 ht
      obtain ⟨z, -, hz⟩ := (d4 i u hu).2
      exact hz.back st.map hr'
    · cases e
      exact hl u (List.mem_of_getElem? hu) m m' y old hr'
  · exact s'.disj b b' fz el c ro' fz' el' c' t t' (hg _ _ hb).2.1 (hg _ _ hb').2.1 hne (st.map _ _ ht) (st.map _ _ ht')
  · obtain ⟨h1, h2, h3⟩ := hg b _ hb
    obtain ⟨a1, ob, a2, a3⟩ := s'.objs b o t h2 hn (st.map _ _ ht)
    refine ⟨a1, ob, a2, ?_⟩
    rcases h3 with h3 | ⟨_, _, _, c', e, hl⟩
    · obtain ⟨-, ob', -, b3⟩ := s.objs b o t h3 hn ht
      exact b3.back st.map a3
    · exact absurd e (hn _ _ _ _)
  · exact s'.inj b b' o o' t t' (hg _ _ hb).2.1 (hg _ _ hb').2.1 hne hn (st.map _ _ ht) (st.map _ _ ht')
  · exact st.live b o t (hg _ _ hb).2.1 hf (st.map _ _ ht)
  · exact st.kin b o t (hg _ _ hb).2.1 (st.map _ _ ht)
  · cases e : g.get b with
    | none => rfl
    | some o => exact absurd ((hg b o e).2.1) (by rw [st.gone b hb hn]; exact fun h => by cases h)

/-- Everything old is as it was. -/
def Ext (h h' : AH) : Prop := h.next ≤ h'.next ∧ ∀ b, b < h.next → h'.get b = h.get b
theorem Ext.refl (h : AH) : Ext h h := ⟨Nat.le_refl _, fun _ _ => rfl⟩
theorem Ext.trans {a b c : AH} (h : Ext a b) (k : Ext b c) : Ext a c := ⟨Nat.le_trans h.1 k.1, fun x hx => (k.2 x (Nat.lt_of_lt_of_le hx h.1)).trans (h.2 x hx)⟩
theorem Ext.new {a b : AH} (h : Ext a b) (o : AObj) : Ext a (b.new o) := ⟨Nat.le_succ_of_le h.1, fun x hx => by rw [AH.new_get, if_neg (by have := h.1; omega)]; exact h.2 x hx⟩
theorem Ext.set {a b : AH} (h : Ext a b) {u : Nat} (hu : a.next ≤ u) (o : Option AObj) : Ext a (b.set u o) := ⟨h.1, fun x hx => by rw [AH.set_get, if_neg (by omega)]; exact h.2 x hx⟩

/-- Is all of the heap below its next? -/
def AH.ok (h : AH) : Prop := ∀ b, h.next ≤ b → h.get b = none
theorem ACall.isok {F : AV} {args : List AV} {h : AH} {R : AV → AH → Prop} (hc : h.ok → ACall P F args h R) : ACall P F args h R := fun m w F' args' s hF ha => hc (fun b hb => (s.top b hb).1) m w F' args' s hF ha
theorem ACall.okd {F : AV} {args : List AV} {h : AH} {R : AV → AH → Prop} (hc : ACall P F args h fun v h' => h'.ok → R v h') : ACall P F args h R :=
  fun m w F' args' s hF ha => (hc m w F' args' s hF ha).mono fun _ _ ⟨m', h', v, a, b, c, d⟩ => ⟨m', h', v, a, b, c, d fun b hb => (a.top b hb).1⟩

/-- A call that changes nothing old, and hands back what is no new place: in the end the heap is as it was. -/
theorem ACall.pure {F : AV} {args : List AV} {h : AH} {R : AV → AH → Prop} (hc : ACall P F args h fun v h' => Ext h h' ∧ Low h.next v ∧ R v h) : ACall P F args h R := by
  refine ACall.isok fun hok => ACall.forget (hc.mono fun v h' ⟨he, hl, hr⟩ => ⟨h, ⟨rfl, fun b o hb => ?_⟩, hl, hr⟩)
  have hb' : b < h.next := Nat.lt_of_not_le fun k => by rw [hok b k] at hb; cases hb
  exact ⟨hb', (he.2 b hb').trans hb, .inl hb⟩
/-- A call that changes the cells of one old block alone. -/
theorem ACall.pureAt {F : AV} {args : List AV} {h : AH} {R : AV → AH → Prop} {b : Nat} (hb : b < h.next) (hc : ACall P F args h fun v h' => ∃ ro fz el c, Ext (h.set b (some (.cells ro fz el c))) h' ∧ (∀ u ∈ c, Low h.next u) ∧ Low h.next v ∧ R v (h.set b (some (.cells ro fz el c)))) : ACall P F args h R := by
  refine ACall.isok fun hok => ACall.forget (hc.mono fun v h' ⟨ro, fz, el, c, he, hl, hlv, hr⟩ => ⟨h.set b (some (.cells ro fz el c)), ⟨rfl, fun x o hx => ?_⟩, hlv, hr⟩)
  rw [AH.set_get] at hx
  by_cases e : x = b
  · subst e
    rw [if_pos rfl] at hx
    refine ⟨hb, (he.2 x hb).trans (by rw [AH.set_get, if_pos rfl]; exact hx), .inr ?_⟩
    cases hx
    exact ⟨_, _, _, _, rfl, hl⟩
  · rw [if_neg e] at hx
    have hb' : x < h.next := Nat.lt_of_not_le fun k => by rw [hok x k] at hx; cases hx
    exact ⟨hb', (he.2 x hb').trans (by rw [AH.set_get, if_neg e]; exact hx), .inl hx⟩
theorem AH.ext {a b : AH} (h : a.next = b.next) (k : ∀ x, a.get x = b.get x) : a = b := by cases a; cases b; cases h; congr; exact funext k
theorem AH.set_set (h : AH) (b : Nat) (x y : Option AObj) : (h.set b x).set b y = h.set b y := by
  refine AH.ext rfl fun u => ?_
  simp only [AH.set_get]; split <;> rfl
theorem AH.set_same (h : AH) (b : Nat) : h.set b (h.get b) = h := by
  refine AH.ext rfl fun u => ?_
  simp only [AH.set_get]; split
  · rename_i e; rw [e]
  · rfl
theorem AH.set_at {h : AH} {b : Nat} {o : Option AObj} (e : h.get b = o) : h.set b o = h := e ▸ h.set_same b
@[simp] theorem AH.set_next (h : AH) (b : Nat) (o : Option AObj) : (h.set b o).next = h.next := rfl
@[simp] theorem AH.new_next (h : AH) (o : AObj) : (h.new o).next = h.next + 1 := rfl
end Go.La
/- Layer A: calls of functions that have no body of their own. -/
namespace Go.La
open Go Go.RowKit

variable {P : Program} {ty : TT}

theorem extern_ok {f : FuncId} {fn : Func} (hf : P.funcs[f]? = some fn) (hn : (fn.name == "runtime.NumGoroutine") = false) (hb : fn.body.isNone = true) (h1 : (Extern.findNext fn).isNone = true) {e : Array Value → Sem Value} (h2 : Extern.find fn = some e)
    {args : List AV} {h : AH} {R : AV → AH → Prop} (hrun : ∀ (m : Mp) (w : World) (args' : List Value), Sim m h w → VsRel m args args' → ∃ v' w', (e args'.toArray).run P w = .ok v' w' ∧ Post m h w R v' w') : ACall P (.func (.func f) [] []) args h R := by
  intro m w F' args' s hF ha
  cases hF with | func _ fn' _ _ a1 a2 hfn q1 q2 =>
  cases hfn with | func =>
  have e1 : a1 = #[] := by cases a1; cases q1; rfl
  have e2 : a2 = #[] := by cases a2; cases q2; rfl
  subst e1; subst e2
  obtain ⟨v', w', g1, g2⟩ := hrun m w args' s ha
  have hn' : ¬ fn.name = "runtime.NumGoroutine" := by simpa using hn
  have h1' : Extern.findNext fn = none := by simpa using h1
  have hbn : fn.body = none := by simpa using hb
  have : (do let d ← Deferred.ofValue (.func (.func f) #[] #[]) args'.toArray; invoke d.target d.args : Sem Next).run P w = .ok (.value v') w' := by
    simp [Deferred.ofValue, invoke, callFunc, hf, hn', hbn, h1', h2, g1]
  rw [this]
  exact g2
/-- A function that hands its one argument back. -/
theorem same_ok {f : FuncId} {fn : Func} (hf : P.funcs[f]? = some fn) (hn : (fn.name == "runtime.NumGoroutine") = false) (hb : fn.body.isNone = true) (h1 : (Extern.findNext fn).isNone = true) (h2 : Extern.find fn = some Extern.AbiNoEscape.same)
    {v : AV} {h : AH} {R : AV → AH → Prop} (hR : R v h) : ACall P (.func (.func f) [] []) [v] h R := by
  refine extern_ok hf hn hb h1 h2 fun m w args' s ha => ?_
  cases ha with | cons _ v' _ _ hv hnil =>
  cases hnil
  exact ⟨v', w, rfl, m, h, v, s, Steps.refl _ _ _, hv, hR⟩

def countB (s : Str) (c : Int) : Int := (⟨s.toArray⟩ : ByteArray).foldl (fun n x => if x == c.toNat.toUInt8 then n + 1 else n) ((0 : Nat) : Int)
def idxB (s : Str) (c : Int) : Int :=
  match (List.range (⟨s.toArray⟩ : ByteArray).size).find? fun i => (⟨s.toArray⟩ : ByteArray)[i]! == c.toNat.toUInt8 with
  | some i => i
  | none => -1
def cmpB (a b : Str) : Int := Extern.BytealgCompare.cmp ⟨a.toArray⟩ ⟨b.toArray⟩

theorem count_ok {f : FuncId} {fn : Func} (hf : P.funcs[f]? = some fn) (hn : (fn.name == "runtime.NumGoroutine") = false) (hb : fn.body.isNone = true) (h1 : (Extern.findNext fn).isNone = true) (h2 : Extern.find fn = some Extern.BytealgCount.count)
    {t : Str} {c : Int} {h : AH} {R : AV → AH → Prop} (hR : R (.int .i64 (countB t c)) h) : ACall P (.func (.func f) [] []) [.str t, .int .u8 c] h R := by
  refine extern_ok hf hn hb h1 h2 fun m w args' s ha => ?_
  cases ha with | cons _ v1 _ _ hv1 hr =>
  cases hr with | cons _ v2 _ _ hv2 hnil =>
  cases hnil
  cases hv1; cases hv2
  exact ⟨_, w, rfl, m, h, _, s, Steps.refl _ _ _, .int _ _, hR⟩
theorem idxB_ok {f : FuncId} {fn : Func} (hf : P.funcs[f]? = some fn) (hn : (fn.name == "runtime.NumGoroutine") = false) (hb : fn.body.isNone = true) (h1 : (Extern.findNext fn).isNone = true) (h2 : Extern.find fn = some Extern.BytealgIndexByte.indexByte)
    {t : Str} {c : Int} {h : AH} {R : AV → AH → Prop} (hR : R (.int .i64 (idxB t c)) h) : ACall P (.func (.func f) [] []) [.str t, .int .u8 c] h R := by
  refine extern_ok hf hn hb h1 h2 fun m w args' s ha => ?_
  cases ha with | cons _ v1 _ _ hv1 hr =>
  cases hr with | cons _ v2 _ _ hv2 hnil =>
  cases hnil
  cases hv1; cases hv2
  refine ⟨.int .i64 (idxB t c), w, ?_, m, h, _, s, Steps.refl _ _ _, .int _ _, hR⟩
  have hrun : (Extern.BytealgIndexByte.indexByte #[.string ⟨t.toArray⟩, .int .u8 c]).run P w =
      (match (List.range (⟨t.toArray⟩ : ByteArray).size).find? fun i => (⟨t.toArray⟩ : ByteArray)[i]! == c.toNat.toUInt8 with
        | some i => pure (goInt i)
        | none => pure (goInt (-1)) : Sem Value).run P w := rfl
  refine Eq.trans hrun ?_
  unfold idxB
  cases (List.range (⟨t.toArray⟩ : ByteArray).size).find? fun i => (⟨t.toArray⟩ : ByteArray)[i]! == c.toNat.toUInt8 <;> simp [goInt]
theorem cmpB_ok {f : FuncId} {fn : Func} (hf : P.funcs[f]? = some fn) (hn : (fn.name == "runtime.NumGoroutine") = false) (hb : fn.body.isNone = true) (h1 : (Extern.findNext fn).isNone = true) (h2 : Extern.find fn = some Extern.BytealgCompare.compare)
    {t u : Str} {h : AH} {R : AV → AH → Prop} (hR : R (.int .i64 (cmpB t u)) h) : ACall P (.func (.func f) [] []) [.str t, .str u] h R := by
  refine extern_ok hf hn hb h1 h2 fun m w args' s ha => ?_
  cases ha with | cons _ v1 _ _ hv1 hr =>
  cases hr with | cons _ v2 _ _ hv2 hnil =>
  cases hnil
  cases hv1; cases hv2
  exact ⟨_, w, rfl, m, h, _, s, Steps.refl _ _ _, .int _ _, hR⟩
end Go.La
