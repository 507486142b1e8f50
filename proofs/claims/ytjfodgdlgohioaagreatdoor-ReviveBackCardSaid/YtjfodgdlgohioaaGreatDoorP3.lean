/- Part 3 of the proof: LaX6, LaX7, LaX8, LaX9, LaX10, LaX11, LaX12, LaX13, LaX14, LaX15, LaX16, LaX17. By an AI agent. -/
import Derived.Test.YtjfodgdlgohioaaGreatDoorP2
import Derived.Laws.MakeOwn
import Derived.RangeFuncRecord
import Derived.RangeFuncNested
import Derived.Test.YtjfodgdlgohioaaGreatDoorP1
set_option linter.all false
/- Layer X, part 6: instructions that only look are sound. -/
namespace Go.La
open Go Go.RowKit

variable {P : Program} {ty : TT}

theorem kindN_inj {k k' : IntKind} (h : kindN k = kindN k') : k = k' := by cases k <;> cases k' <;> first | rfl | (exact absurd h (by decide))
theorem anyX_ok {v : AV} {k0 : Rs} {k1 : Nat → Nat → Rs} (h : anyX v k0 k1 = .ok) : (v = .anyptr ∧ k0 = .ok) ∨ ∃ p : Pt, v = .ptr (some p) ∧ k1 p.b p.o = .ok := by
  cases v <;> first | exact Rs.noConfusion h | exact .inl ⟨rfl, h⟩ | skip
  rename_i p; cases p
  · exact Rs.noConfusion h
  · exact .inr ⟨_, rfl, h⟩
theorem aggOr_ok {v : AV} {k0 : List AV → Rs} {k1 : Rs} (h : aggOr v k0 k1 = .ok) : (∃ l, v = .agg l ∧ k0 l = .ok) ∨ (v.one = true ∧ k1 = .ok) := by
  cases v <;> first | exact Rs.noConfusion h | exact .inl ⟨_, rfl, h⟩ | exact .inr ⟨rfl, h⟩
theorem atPt_ok {p : Option Pt} {k0 : Rs} {k1 : Nat → Nat → Rs} (h : atPt p k0 k1 = .ok) : (p = none ∧ k0 = .ok) ∨ ∃ a : Pt, p = some a ∧ k1 a.b a.o = .ok := by
  cases p
  · exact .inl ⟨rfl, h⟩
  · exact .inr ⟨_, rfl, h⟩
theorem atPt_bad {p : Option Pt} {n : Nat} {k1 : Nat → Nat → Rs} (h : atPt p (.bad n) k1 = .ok) : ∃ a : Pt, p = some a ∧ k1 a.b a.o = .ok := by
  rcases atPt_ok h with ⟨_, h⟩ | h
  · exact Rs.noConfusion h
  · exact h
theorem nonePt_ok {p : Option Pt} {R : Rs} (h : nonePt p R = .ok) : p = none ∧ R = .ok := by
  cases p
  · exact ⟨rfl, h⟩
  · exact Rs.noConfusion h
theorem noneM_ok {p : Option Nat} {R : Rs} (h : noneM p R = .ok) : p = none ∧ R = .ok := by
  cases p
  · exact ⟨rfl, h⟩
  · exact Rs.noConfusion h
theorem isNone_eq (p : Option Pt) (K : Bool → Rs) : isNone p K = K p.isNone := by cases p <;> rfl
theorem isNoneM_eq (p : Option Nat) (K : Bool → Rs) : isNoneM p K = K p.isNone := by cases p <;> rfl
theorem allOne_ok : ∀ {l : List AV} {R : Rs}, allOne l R = .ok → (∀ v ∈ l, v.one = true) ∧ R = .ok
  | [], _, h => ⟨by simp, h⟩
  | a :: r, R, h => by
    obtain ⟨h1, h2⟩ := oneX_ok (show oneX a (allOne r R) = .ok from h)
    obtain ⟨h3, h4⟩ := allOne_ok h2
    exact ⟨by simpa using ⟨h1, h3⟩, h4⟩
/-- Kinds. -/
theorem fitV_ok {k : K1} {v : AV} {R : Rs} (h : fitV k v R = .ok) : k.basic = true ∧ fitsK [k] [v] = true ∧ R = .ok := by
  cases k with
  | bool =>
    obtain ⟨b, rfl, h⟩ := asBool_ok (show asBool v R R = .ok from h)
    exact ⟨rfl, rfl, by cases b <;> exact h⟩
  | int k =>
    obtain ⟨k', n, rfl, h1⟩ := asInt_ok (k0 := fun k' _ => iteE (kindN k) (kindN k') R (.bad 130)) h
    obtain ⟨e, h2⟩ := iteE_bad h1
    have := kindN_inj e; subst this
    exact ⟨rfl, by simp [fitsK], h2⟩
  | str =>
    obtain ⟨s, rfl, h⟩ := asStr_ok (k0 := fun _ => R) h
    exact ⟨rfl, rfl, h⟩
  | _ => exact Rs.noConfusion h
theorem fitsK_cons {k : K1} {v : AV} {ks : List K1} {l : List AV} (h1 : fitsK [k] [v] = true) (h2 : fitsK ks l = true) : fitsK (k :: ks) (v :: l) = true := by
  cases k <;> cases v <;> simp_all [fitsK]
theorem fitL_ok : ∀ {ks : List K1} {l : List AV} {R : Rs}, fitL ks l R = .ok → fitsK ks l = true ∧ R = .ok
  | [], [], _, h => ⟨rfl, h⟩
  | [], _ :: _, _, h => Rs.noConfusion h
  | _ :: _, [], _, h => Rs.noConfusion h
  | k :: ks, v :: l, R, h => by
    obtain ⟨_, h1, h2⟩ := fitV_ok (show fitV k v (fitL ks l R) = .ok from h)
    obtain ⟨h3, h4⟩ := fitL_ok h2
    exact ⟨fitsK_cons h1 h3, h4⟩
theorem fitKX_ok {agg : Bool} {ks : List K1} {v : AV} {R : Rs} (h : fitKX agg ks v R = .ok) : fitKey agg ks v = true ∧ R = .ok := by
  cases agg with
  | false => exact fitL_ok (show fitL ks [v] R = .ok from h)
  | true =>
    obtain ⟨l, rfl, h⟩ := asAgg_ok (k0 := fun l => fitL ks l R) h
    exact fitL_ok h
theorem allKX_ok {agg : Bool} {ks : List K1} : ∀ {l : ES} {R : Rs}, allKX agg ks l R = .ok → allKeys agg ks l = true ∧ R = .ok
  | [], _, h => ⟨rfl, h⟩
  | x :: r, R, h => by
    obtain ⟨h1, h2⟩ := fitKX_ok (show fitKX agg ks x.1 (allKX agg ks r R) = .ok from h)
    obtain ⟨h3, h4⟩ := allKX_ok h2
    exact ⟨by simp [allKeys, h1, h3], h4⟩

/-! ### Texts -/
theorem u8_eq (a b : UInt8) : Nat.beq a.toNat b.toNat = (a == b) := by
  cases h : Nat.beq a.toNat b.toNat with
  | true => have := UInt8.toNat_inj.1 (Nat.eq_of_beq_eq_true h); subst this; simp
  | false => symm; simp; intro e; subst e; rw [Nat.beq_refl] at h; cases h
theorem eqS_eq : ∀ (l m : Str), eqS l m = (l == m)
  | [], [] => rfl
  | [], _ :: _ => rfl
  | _ :: _, [] => rfl
  | a :: l, b :: m => by
    show (Bool.rec (motive := fun _ => Bool) false (eqS l m) (Nat.beq a.toNat b.toNat)) = _
    rw [u8_eq, eqS_eq l m]
    cases h : a == b <;> simp [h]
theorem appS_eq : ∀ (l m : Str) (K : Str → Rs), appS l m K = K (l ++ m)
  | [], _, _ => rfl
  | a :: r, m, K => appS_eq r m fun r => K (a :: r)
theorem dropS_ok : ∀ {n : Nat} {l : Str} {K : Str → Rs}, dropS n l K = .ok → n ≤ l.length ∧ K (l.drop n) = .ok
  | 0, _, _, h => ⟨Nat.zero_le _, h⟩
  | _ + 1, [], _, h => Rs.noConfusion h
  | n + 1, _ :: r, K, h => let ⟨a, b⟩ := dropS_ok (n := n) (l := r) (K := K) h; ⟨Nat.succ_le_succ a, b⟩
theorem takeS_ok : ∀ {n : Nat} {l : Str} {K : Str → Rs}, takeS n l K = .ok → n ≤ l.length ∧ K (l.take n) = .ok
  | 0, _, _, h => ⟨Nat.zero_le _, h⟩
  | _ + 1, [], _, h => Rs.noConfusion h
  | n + 1, a :: r, K, h => let ⟨a', b⟩ := takeS_ok (n := n) (l := r) (K := fun r => K (a :: r)) h; ⟨Nat.succ_le_succ a', b⟩
theorem toStr_ok : ∀ {l : List AV} {K : Str → Rs}, toStr l K = .ok → ∃ s : Str, l = s.map byteA ∧ K s = .ok
  | [], _, h => ⟨[], rfl, h⟩
  | a :: r, K, h => by
    obtain ⟨k, n, rfl, g1⟩ := asInt_ok (k0 := fun k n => iteE (kindN k) 4 (natI n fun n => iteN n 255 (toStr r fun r => K (UInt8.ofNat n :: r)) (.bad 136)) (.bad 136)) h
    obtain ⟨e, g2⟩ := iteE_bad g1
    have hk : k = .u8 := kindN_inj (k' := .u8) e
    obtain ⟨h0, g3⟩ := natI_ok g2
    obtain ⟨h1, g4⟩ := iteN_bad g3
    obtain ⟨s, hs, g5⟩ := toStr_ok g4
    refine ⟨UInt8.ofNat n.toNat :: s, ?_, g5⟩
    rw [hs, hk]
    simp only [List.map_cons, byteA]
    congr 2
    have : (UInt8.ofNat n.toNat).toNat = n.toNat := by rw [UInt8.toNat_ofNat']; omega
    rw [this]
    omega
theorem ofStr_eq : ∀ (s : Str) (K : List AV → Rs), ofStr s K = K (s.map byteA)
  | [], _ => rfl
  | a :: r, K => ofStr_eq r fun r => K (.int .u8 (.ofNat (UInt8.toNat a)) :: r)
theorem eqVX_ok {k : K1} {a b : AV} {K : Bool → Rs} (ha : fitsK [k] [a] = true) (hb : fitsK [k] [b] = true) (h : eqVX a b K = .ok) : ∃ t, K t = .ok ∧ ∀ r s, beqCells (a :: r) (b :: s) = (t && beqCells r s) := by
  cases k <;> cases a <;> simp [fitsK] at ha <;> cases b <;> simp [fitsK] at hb
  · rename_i x y
    obtain ⟨c, e, h⟩ := asBool_ok (show asBool (.bool y) (K x) (K (notB x)) = .ok from h)
    cases e
    refine ⟨x == y, ?_, fun r s => rfl⟩
    cases x <;> cases y <;> exact h
  · rename_i k1 x k2 y
    refine ⟨eqI x y, h, fun r s => ?_⟩
    rw [eqI_eq]; rfl
  · rename_i x y
    refine ⟨eqS x y, h, fun r s => ?_⟩
    rw [eqS_eq]; rfl
theorem eqCX_ok : ∀ {ks : List K1} {l m : List AV} {K : Bool → Rs}, fitsK ks l = true → fitsK ks m = true → eqCX l m K = .ok → K (beqCells l m) = .ok
  | [], [], [], _, _, _, h => h
  | [], _ :: _, _, _, h, _, _ => by simp [fitsK] at h
  | [], [], _ :: _, _, _, h, _ => by simp [fitsK] at h
  | k :: ks, [], _, _, h, _, _ => by cases k <;> simp [fitsK] at h
  | k :: ks, _ :: _, [], _, _, h, _ => by cases k <;> simp [fitsK] at h
  | k :: ks, a :: l, b :: m, K, ha, hb, h => by
    have spl : ∀ {v : AV} {l : List AV}, fitsK (k :: ks) (v :: l) = true → fitsK [k] [v] = true ∧ fitsK ks l = true := by
      intro v l hv
      cases k <;> cases v <;> simp_all [fitsK]
    obtain ⟨t, h1, h2⟩ := eqVX_ok (spl ha).1 (spl hb).1 (show eqVX a b (fun t => iteB t (eqCX l m K) (K false)) = .ok from h)
    rw [h2]
    have h1 := iteB_ok h1
    cases t with
    | true => exact eqCX_ok (spl ha).2 (spl hb).2 h1
    | false => exact h1
theorem eqX_ok {op : BinOp} {b : Bool} {K : KA} (h : eqX op b K = .ok) : eqW op b fun v => K v = .ok := by
  cases op <;> first | exact Rs.noConfusion h | skip
  · have : kb b K = .ok := h
    rw [kb_eq] at this; exact this
  · have : kb (notB b) K = .ok := h
    rw [kb_eq, notB_eq] at this; exact this

/-! ### Arithmetic -/
theorem powX_eq (k : IntKind) : powX k = 2 ^ k.bits := by cases k <;> rfl
theorem bitsX_eq (k : IntKind) : bitsX k = k.bits := by cases k <;> rfl
theorem forceI_eq (n : Int) (K : Int → Rs) : forceI n K = K n := by cases n <;> rfl
theorem bv_nat (k : IntKind) (a : Nat) : (BitVec.ofInt k.bits (.ofNat a)).toNat = a % powX k := by
  rw [powX_eq, BitVec.toNat_ofInt]
  have : (Int.ofNat a % ((2 ^ k.bits : Nat) : Int)).toNat = a % 2 ^ k.bits := by
    show (((a % 2 ^ k.bits : Nat) : Int)).toNat = _
    rw [Int.toNat_natCast]
  exact this
theorem bv_neg (k : IntKind) (a : Nat) : (BitVec.ofInt k.bits (.negSucc a)).toNat = Nat.pred (powX k) - a % powX k := by
  rw [powX_eq, BitVec.toNat_ofInt]
  have h : 0 < 2 ^ k.bits := Nat.two_pow_pos _
  rw [Int.negSucc_emod _ (by exact_mod_cast h)]
  have h2 : a % 2 ^ k.bits < 2 ^ k.bits := Nat.mod_lt _ h
  generalize 2 ^ k.bits = M at *
  have : Nat.pred M = M - 1 := rfl
  omega
theorem bitX_eq (f : Nat → Nat → Nat → Nat) (k : IntKind) (x y : Int) (K : KA) : bitX f k x y K = K (.int k (k.wrap (f (powX k) (BitVec.ofInt k.bits x).toNat (BitVec.ofInt k.bits y).toNat : Nat))) := by
  cases x with
  | ofNat a => cases y with
    | ofNat b => rw [bv_nat, bv_nat]; exact ki_eq _ _ _
    | negSucc b => rw [bv_nat, bv_neg]; exact ki_eq _ _ _
  | negSucc a => cases y with
    | ofNat b => rw [bv_neg, bv_nat]; exact ki_eq _ _ _
    | negSucc b => rw [bv_neg, bv_neg]; exact ki_eq _ _ _
theorem eqI0 {y : Int} {b : Rs} {n : Nat} (h : iteB (eqI y (.ofNat 0)) (.bad n) b = .ok) : y ≠ 0 ∧ b = .ok := by
  have h1 := iteB_ok h
  rw [eqI_eq] at h1
  by_cases e : y = 0
  · subst e; exact Rs.noConfusion h1
  · have : (y == (.ofNat 0 : Int)) = false := by simpa using e
    rw [this] at h1
    exact ⟨e, h1⟩
theorem intX_ok {op : BinOp} {k : IntKind} {x y : Int} {K : KA} (h1 : op ≠ .shl) (h2 : op ≠ .shr) (h : intX op k x y K = .ok) : intW op k x y fun v => K v = .ok := by
  cases op with
  | add =>
    have : addI x y (fun n => ki k n K) = .ok := h
    rw [addI_eq, ki_eq] at this; exact this
  | sub =>
    have : addI x (negI y) (fun n => ki k n K) = .ok := h
    rw [addI_eq, negI_eq, ki_eq] at this
    show K _ = .ok
    rw [show x - y = x + (0 - y) by omega]; exact this
  | mul => exact (ki_eq k (x * y) K).symm.trans h
  | quo =>
    obtain ⟨e, h⟩ := eqI0 (show iteB (eqI y (.ofNat 0)) (.bad 15) (ki k (Int.tdiv x y) K) = .ok from h)
    exact ⟨e, (ki_eq _ _ _).symm.trans h⟩
  | rem =>
    obtain ⟨e, h⟩ := eqI0 (show iteB (eqI y (.ofNat 0)) (.bad 15) (forceI (Int.tmod x y) fun n => K (.int k n)) = .ok from h)
    rw [forceI_eq] at h
    exact ⟨e, h⟩
  | and =>
    have : bitX (fun _ => Nat.land) k x y K = .ok := h
    rw [bitX_eq] at this
    show K _ = .ok
    rw [BitVec.toNat_and]; exact this
  | or =>
    have : bitX (fun _ => Nat.lor) k x y K = .ok := h
    rw [bitX_eq] at this
    show K _ = .ok
    rw [BitVec.toNat_or]; exact this
  | xor =>
    have : bitX (fun _ => Nat.xor) k x y K = .ok := h
    rw [bitX_eq] at this
    show K _ = .ok
    rw [BitVec.toNat_xor]; exact this
  | andNot =>
    have : bitX (fun M a b => Nat.land a (Nat.sub (Nat.pred M) b)) k x y K = .ok := h
    rw [bitX_eq] at this
    show K _ = .ok
    rw [BitVec.toNat_and, BitVec.toNat_not, ← powX_eq]; exact this
  | eql =>
    have : kb (eqI x y) K = .ok := h
    rw [kb_eq, eqI_eq] at this; exact this
  | neq =>
    have : kb (notB (eqI x y)) K = .ok := h
    rw [kb_eq, notB_eq, eqI_eq] at this; exact this
  | lss =>
    have : kb (ltI x y) K = .ok := h
    rw [kb_eq, ltI_eq] at this; exact this
  | leq =>
    have : kb (notB (ltI y x)) K = .ok := h
    rw [kb_eq, notB_eq, ltI_eq] at this
    show K _ = .ok
    rw [show decide (x ≤ y) = !decide (y < x) by rw [← decide_not]; congr 1; apply propext; omega]; exact this
  | gtr =>
    have : kb (ltI y x) K = .ok := h
    rw [kb_eq, ltI_eq] at this; exact this
  | geq =>
    have : kb (notB (ltI x y)) K = .ok := h
    rw [kb_eq, notB_eq, ltI_eq] at this
    show K _ = .ok
    rw [show decide (x ≥ y) = !decide (x < y) by rw [← decide_not]; congr 1; apply propext; omega]; exact this
  | shl => exact (h1 rfl).elim
  | shr => exact (h2 rfl).elim
theorem shl_ok {k : IntKind} {x y : Int} {K : KA} (h : intX .shl k x y K = .ok) : 0 ≤ y ∧ K (.int k (k.wrap (x * 2 ^ (min y.toNat k.bits)))) = .ok := by
  obtain ⟨h0, h⟩ := natI_ok (K := fun s => iteN s (bitsX k) (ki k (Int.mul x (.ofNat (Nat.pow 2 s))) K) (.bad 16)) h
  obtain ⟨h1, h⟩ := iteN_bad h
  rw [bitsX_eq] at h1
  rw [ki_eq] at h
  refine ⟨h0, ?_⟩
  rw [Nat.min_eq_left h1]
  have : x * 2 ^ y.toNat = Int.mul x (.ofNat (Nat.pow 2 y.toNat)) := by
    show _ = x * ((2 ^ y.toNat : Nat) : Int)
    rw [Int.natCast_pow]; rfl
  rw [this]; exact h
theorem shr_ok {k : IntKind} {x y : Int} {K : KA} (h : intX .shr k x y K = .ok) : 0 ≤ y ∧ K (.int k (x.fdiv (2 ^ (min y.toNat k.bits)))) = .ok := by
  obtain ⟨h0, h⟩ := natI_ok (K := fun s => iteN s (bitsX k) (Int.rec (motive := fun _ => Nat → IntKind → KA → Rs) (fun a s k K => natK (Nat.div a (Nat.pow 2 s)) fun a => K (.int k (.ofNat a))) (fun a s k K => natK (Nat.div a (Nat.pow 2 s)) fun a => K (.int k (.negSucc a))) x s k K) (.bad 16)) h
  obtain ⟨h1, h⟩ := iteN_bad h
  rw [bitsX_eq] at h1
  refine ⟨h0, ?_⟩
  rw [Nat.min_eq_left h1]
  have hp : (2 : Int) ^ y.toNat = ((2 ^ y.toNat : Nat) : Int) := by rw [Int.natCast_pow]; rfl
  rw [hp]
  have h2 : 0 < 2 ^ y.toNat := Nat.two_pow_pos _
  cases x with
  | ofNat a =>
    have h : K (.int k (.ofNat (a / 2 ^ y.toNat))) = .ok := h
    have : (Int.ofNat a).fdiv ((2 ^ y.toNat : Nat) : Int) = .ofNat (a / 2 ^ y.toNat) := by
      rw [Int.fdiv_eq_ediv_of_nonneg _ (by omega)]; rfl
    rw [this]; exact h
  | negSucc a =>
    have h : K (.int k (.negSucc (a / 2 ^ y.toNat))) = .ok := h
    have : (Int.negSucc a).fdiv ((2 ^ y.toNat : Nat) : Int) = .negSucc (a / 2 ^ y.toNat) := by
      rw [Int.fdiv_eq_ediv_of_nonneg _ (by omega)]
      generalize 2 ^ y.toNat = M at h2 ⊢
      cases M with
      | zero => omega
      | succ M => rfl
    rw [this]; exact h
theorem ltS_eq : ∀ (l m : Str), ltS l m = Op.bytesLess l m
  | [], [] => rfl
  | [], _ :: _ => rfl
  | _ :: _, [] => rfl
  | a :: l, b :: m => by
    show (Bool.rec (motive := fun _ => Bool) (Bool.rec (motive := fun _ => Bool) false (ltS l m) (Nat.beq a.toNat b.toNat)) true (Nat.ble (Nat.succ a.toNat) b.toNat)) = _
    rw [u8_eq, ltS_eq l m]
    have hb : Nat.ble (Nat.succ a.toNat) b.toNat = decide (a < b) := by
      cases h : Nat.ble (Nat.succ a.toNat) b.toNat with
      | true => symm; simp; exact UInt8.lt_iff_toNat_lt.2 (Nat.le_of_ble_eq_true h)
      | false => symm; simp; exact UInt8.le_iff_toNat_le.2 (Nat.le_of_not_lt fun e => by rw [Nat.ble_eq_true_of_le e] at h; cases h)
    rw [hb]
    show _ = (decide (a < b) || (a == b && Op.bytesLess l m))
    cases decide (a < b) <;> cases (a == b) <;> simp
end Go.La
/- Layer X, part 7: instructions that only look, in their places, are sound. -/
namespace Go.La
open Go Go.RowKit

variable {P : Program} {ty : TT} {la : LT} {call : Caller} {e : EV} {h : XH} {K : KV} {N : Nat}

theorem bytesLess_total : ∀ (x y : Str), (Op.bytesLess x y || x == y) = !Op.bytesLess y x
  | [], [] => rfl
  | [], _ :: _ => rfl
  | _ :: _, [] => rfl
  | a :: l, b :: m => by
    have ih := bytesLess_total l m
    show ((decide (a < b) || (a == b && Op.bytesLess l m)) || (a == b && l == m)) = !(decide (b < a) || (b == a && Op.bytesLess m l))
    by_cases h1 : a = b
    · subst h1
      have : ¬ a < a := by simp
      simp only [this, decide_false, Bool.false_or, beq_self_eq_true, Bool.true_and]
      exact ih
    · have e1 : (a == b) = false := by simpa using h1
      have e2 : (b == a) = false := by simpa using fun e => h1 e.symm
      simp only [e1, e2, Bool.false_and, Bool.or_false]
      by_cases h2 : a < b
      · have : ¬ b < a := fun h3 => by have := UInt8.lt_iff_toNat_lt.1 h2; have := UInt8.lt_iff_toNat_lt.1 h3; omega
        simp [h2, this]
      · have : b < a := by
          apply UInt8.lt_iff_toNat_lt.2
          have h3 : ¬ a.toNat < b.toNat := fun h => h2 (UInt8.lt_iff_toNat_lt.2 h)
          have h4 : a.toNat ≠ b.toNat := fun h => h1 (UInt8.toNat_inj.1 h)
          omega
        simp [h2, this]
theorem strX_ok {op : BinOp} {x y : Str} {K : KA} (h : strX op x y K = .ok) : strW op x y fun v => K v = .ok := by
  cases op <;> first | exact Rs.noConfusion h | skip
  · have h : lenS x 0 (fun a => lenS y 0 fun b => iteN (Nat.add a b) 4611686018427387903 (appS x y fun s => K (.str s)) (.bad 19)) = .ok := h
    rw [lenS_eq, lenS_eq] at h
    obtain ⟨h1, h⟩ := iteN_bad h
    rw [appS_eq] at h
    have h1 : 0 + x.length + (0 + y.length) ≤ 4611686018427387903 := h1
    exact ⟨by omega, h⟩
  · have h : kb (eqS x y) K = .ok := h
    rw [kb_eq, eqS_eq] at h; exact h
  · have h : kb (notB (eqS x y)) K = .ok := h
    rw [kb_eq, notB_eq, eqS_eq] at h; exact h
  · have h : kb (ltS x y) K = .ok := h
    rw [kb_eq, ltS_eq] at h; exact h
  · have h : kb (notB (ltS y x)) K = .ok := h
    rw [kb_eq, notB_eq, ltS_eq] at h
    show K _ = .ok
    rw [bytesLess_total]; exact h
  · have h : kb (ltS y x) K = .ok := h
    rw [kb_eq, ltS_eq] at h
    show K _ = .ok
    rw [bytesLess_total]; simpa using h
  · have h : kb (notB (ltS x y)) K = .ok := h
    rw [kb_eq, notB_eq, ltS_eq] at h; exact h
theorem ptrEq_ok {p q : Option Pt} {K : Bool → Rs} (h : ptrEq p q K = .ok) : (q = none ∧ K p.isNone = .ok) ∨ ∃ a, p = some a ∧ q = some a ∧ K true = .ok := by
  cases q with
  | none => cases p <;> exact .inl ⟨rfl, h⟩
  | some b => cases p with
    | none => exact Rs.noConfusion h
    | some a =>
      obtain ⟨e1, h⟩ := iteE_bad (show iteE a.b b.b (iteE a.o b.o (K true) (.bad 21)) (.bad 21) = .ok from h)
      obtain ⟨e2, h⟩ := iteE_bad h
      refine .inr ⟨a, rfl, ?_, h⟩
      cases a; cases b; simp_all

theorem binW_int {op : BinOp} {t : TypeId} {k : IntKind} {n m : Int} {K : AV → Prop} (n1 : op ≠ .shl) (n2 : op ≠ .shr) (h : intW op k n m K) : binW ty op t (.int k n) (.int k m) K := by
  cases op <;> first | exact (n1 rfl).elim | exact (n2 rfl).elim | simpa [binW] using h

theorem sbin_ok {op : BinOp} {t : TypeId} {x y : Operand} (hk : runI (sbin N ty op t x y) la call e h K = .ok) : binW ty op t (ev (view N e) x) (ev (view N e) y) fun v => K v h = .ok := by
  have hop : op = .shl ∨ op = .shr ∨ (op ≠ .shl ∧ op ≠ .shr ∧ sbin N ty op t x y = sbin2 N ty op t x y) := by cases op <;> simp [sbin]
  rcases hop with rfl | rfl | ⟨n1, n2, hop⟩
  · have hk := evX_ok (K := fun x => evX (sv N y) e fun y => asInt x fun k n => asInt y fun _ m => intX .shl k n m fun v => K v h) hk
    have hk := evX_ok hk
    obtain ⟨k, n, e1, hk⟩ := asInt_ok hk
    obtain ⟨k', m, e2, hk⟩ := asInt_ok hk
    rw [e1, e2]; exact shl_ok hk
  · have hk := evX_ok (K := fun x => evX (sv N y) e fun y => asInt x fun k n => asInt y fun _ m => intX .shr k n m fun v => K v h) hk
    have hk := evX_ok hk
    obtain ⟨k, n, e1, hk⟩ := asInt_ok hk
    obtain ⟨k', m, e2, hk⟩ := asInt_ok hk
    rw [e1, e2]; exact shr_ok hk
  · rw [hop] at hk
    unfold sbin2 at hk
    split at hk
    · have hk := evX_ok (K := fun x => evX (sv N y) e fun y => asInt x fun k n => asInt y fun k' m => iteE (kindN k) (kindN k') (intX op k n m fun v => K v h) (.bad 133)) hk
      have hk := evX_ok hk
      obtain ⟨k, n, e1, hk⟩ := asInt_ok hk
      obtain ⟨k', m, e2, hk⟩ := asInt_ok hk
      obtain ⟨ek, hk2⟩ := iteE_bad hk
      have hkk := kindN_inj ek
      rw [e1, e2, ← hkk]
      exact binW_int n1 n2 (intX_ok n1 n2 hk2)
    · have hk := evX_ok (K := fun x => evX (sv N y) e fun y => asStr x fun s => asStr y fun t => strX op s t fun v => K v h) hk
      have hk := evX_ok hk
      obtain ⟨s, e1, hk⟩ := asStr_ok hk
      obtain ⟨t, e2, hk⟩ := asStr_ok hk
      rw [e1, e2]; exact strX_ok hk
    · rename_i hf
      have hk := evX_ok (K := fun x => evX (sv N y) e fun y => asBool x (asBool y (eqX op true fun v => K v h) (eqX op false fun v => K v h)) (asBool y (eqX op false fun v => K v h) (eqX op true fun v => K v h))) hk
      have hk := evX_ok hk
      obtain ⟨a, e1, hk⟩ := asBool_ok hk
      rw [e1]
      cases a with
      | true =>
        obtain ⟨b, e2, hk⟩ := asBool_ok hk
        rw [e2]
        simp only [binW, hf]
        cases b <;> exact eqX_ok hk
      | false =>
        obtain ⟨b, e2, hk⟩ := asBool_ok hk
        rw [e2]
        simp only [binW, hf]
        cases b <;> exact eqX_ok hk
    · rename_i te hf
      have hk := evX_ok (K := fun x => evX (sv N y) e fun y => asPtrO x fun p => asPtrO y fun q => ptrEq p q fun b => eqX op b fun v => K v h) hk
      have hk := evX_ok hk
      obtain ⟨p, e1, hk⟩ := asPtrO_ok hk
      obtain ⟨q, e2, hk⟩ := asPtrO_ok hk
      rw [e1, e2]
      rcases ptrEq_ok hk with ⟨rfl, hk2⟩ | ⟨a, rfl, rfl, hk2⟩
      · simp only [binW, hf]; exact eqX_ok hk2
      · simp only [binW, hf, true_and]; exact eqX_ok hk2
    · rename_i sz d hf
      have hk := evX_ok (K := fun x => evX (sv N y) e fun y => asSlice x fun p _ _ => asSlice y fun q n _ => iteE n 0 (nonePt q (isNone p fun b => eqX op b fun v => K v h)) (.bad 134)) hk
      have hk := evX_ok hk
      obtain ⟨p, n, s, e1, hk⟩ := asSlice_ok hk
      obtain ⟨q, n', s', e2, hk⟩ := asSlice_ok hk
      obtain ⟨rfl, hk⟩ := iteE_bad hk
      obtain ⟨rfl, hk⟩ := nonePt_ok hk
      rw [isNone_eq] at hk
      rw [e1, e2]
      simp only [binW, hf]; exact eqX_ok hk
    · rename_i d hf
      have hk := evX_ok (K := fun x => evX (sv N y) e fun y => asMap x fun p => asMap y fun q => noneM q (isNoneM p fun b => eqX op b fun v => K v h)) hk
      have hk := evX_ok hk
      obtain ⟨p, e1, hk⟩ := asMap_ok hk
      obtain ⟨q, e2, hk⟩ := asMap_ok hk
      obtain ⟨rfl, hk⟩ := noneM_ok hk
      rw [isNoneM_eq] at hk
      rw [e1, e2]
      simp only [binW, hf]; exact eqX_ok hk
    · rename_i ks fs hf
      have hk := evX_ok (K := fun x => evX (sv N y) e fun y => asAgg x fun l => asAgg y fun m => fitL ks l (fitL ks m (eqCX l m fun b => eqX op b fun v => K v h))) hk
      have hk := evX_ok hk
      obtain ⟨l, e1, hk⟩ := asAgg_ok hk
      obtain ⟨m, e2, hk⟩ := asAgg_ok hk
      obtain ⟨h1, hk⟩ := fitL_ok hk
      obtain ⟨h2, hk⟩ := fitL_ok hk
      rw [e1, e2]
      simp only [binW, hf, h1, h2, Bool.and_true, cond_true]
      exact eqX_ok (eqCX_ok h1 h2 hk)
    · rename_i k ks n hf
      split at hk
      · rename_i hkb
        have hk := evX_ok (K := fun x => evX (sv N y) e fun y => asAgg x fun l => asAgg y fun m => fitL (List.replicate n k) l (fitL (List.replicate n k) m (eqCX l m fun b => eqX op b fun v => K v h))) hk
        have hk := evX_ok hk
        obtain ⟨l, e1, hk⟩ := asAgg_ok hk
        obtain ⟨m, e2, hk⟩ := asAgg_ok hk
        obtain ⟨h1, hk⟩ := fitL_ok hk
        obtain ⟨h2, hk⟩ := fitL_ok hk
        rw [e1, e2]
        simp only [binW, hf, h1, h2, hkb, Bool.and_true, cond_true]
        exact eqX_ok (eqCX_ok h1 h2 hk)
      · exact Rs.noConfusion hk
    · exact Rs.noConfusion hk

theorem slcX_ok {lo hi : Option AV} {len : Nat} {K : Nat → Nat → Rs} (hk : slcX lo hi len K = .ok) : sliceArgs len lo hi (fun l r => K l r = .ok ∧ l ≤ r ∧ r ≤ len) := by
  cases lo with
  | none => cases hi with
    | none => exact ⟨hk, Nat.zero_le _, Nat.le_refl _⟩
    | some r =>
      obtain ⟨k, r, rfl, hk⟩ := asInt_ok (k0 := fun _ r => natI r fun r => iteN r len (K 0 r) (.bad 25)) hk
      obtain ⟨h0, hk⟩ := natI_ok hk
      obtain ⟨h1, hk⟩ := iteN_bad hk
      exact ⟨h0, by omega, hk, Nat.zero_le _, h1⟩
  | some l =>
    obtain ⟨k, l, rfl, hk⟩ := asInt_ok (k0 := fun _ l => natI l fun l => Option.rec (motive := fun _ => Nat → Nat → (Nat → Nat → Rs) → Rs) (fun l len K => iteN l len (K l len) (.bad 25)) (fun r l len K => asInt r fun _ r => natI r fun r => iteN l r (iteN r len (K l r) (.bad 25)) (.bad 25)) hi l len K) hk
    obtain ⟨h0, hk⟩ := natI_ok hk
    cases hi with
    | none =>
      obtain ⟨h1, hk⟩ := iteN_bad hk
      exact ⟨h0, by omega, hk, h1, Nat.le_refl _⟩
    | some r =>
      obtain ⟨k, r, rfl, hk⟩ := asInt_ok (k0 := fun _ r => natI r fun r => iteN l.toNat r (iteN r len (K l.toNat r) (.bad 25)) (.bad 25)) hk
      obtain ⟨h2, hk⟩ := natI_ok hk
      obtain ⟨h3, hk⟩ := iteN_bad hk
      obtain ⟨h4, hk⟩ := iteN_bad hk
      exact ⟨h0, by omega, by omega, hk, h3, h4⟩
theorem sliceArgs_mono {lo hi : Option AV} {len : Nat} {K K' : Nat → Nat → Prop} (hk : sliceArgs len lo hi K) (hm : ∀ l r, K l r → K' l r) : sliceArgs len lo hi K' := by
  unfold sliceArgs at *
  split at hk
  · exact hm _ _ hk
  · exact ⟨hk.1, hk.2.1, hm _ _ hk.2.2⟩
  · exact ⟨hk.1, hk.2.1, hm _ _ hk.2.2⟩
  · exact ⟨hk.1, hk.2.1, hk.2.2.1, hm _ _ hk.2.2.2⟩
  · exact hk
theorem keyX_ok {agg : Bool} {ks : List K1} {a b : AV} {K : Bool → Rs} (ha : fitKey agg ks a = true) (hb : fitKey agg ks b = true) (h : keyX a b K = .ok) : ∃ t, K t = .ok ∧ t = keyEq a b := by
  cases agg with
  | true =>
    cases a <;> simp [fitKey] at ha
    cases b <;> simp [fitKey] at hb
    rename_i l m
    have h : eqCX l m K = .ok := h
    exact ⟨_, eqCX_ok ha hb h, rfl⟩
  | false =>
    have ha : fitsK ks [a] = true := ha
    have hb : fitsK ks [b] = true := hb
    cases ks with
    | nil => simp [fitsK] at ha
    | cons k ks =>
      have one : ∀ {v : AV}, fitsK (k :: ks) [v] = true → fitsK [k] [v] = true ∧ v.cellsA = [v] := by
        intro v hv; cases k <;> cases v <;> simp_all [fitsK, AV.cellsA]
      have h' : eqVX a b K = .ok := by
        have h1 := (one ha).1
        cases k <;> cases a <;> simp [fitsK] at h1 <;> exact h
      obtain ⟨t, g1, g2⟩ := eqVX_ok (one ha).1 (one hb).1 h'
      refine ⟨t, g1, ?_⟩
      unfold keyEq
      rw [(one ha).2, (one hb).2, g2]
      simp [beqCells]
theorem findX_ok {k : AV} {Kn : Rs} {Ks : AV → Nat → Rs} {agg : Bool} {ks : List K1} (hfk : fitKey agg ks k = true) : ∀ {l : ES} (i : Nat), allKeys agg ks l = true → findX k l Kn Ks = .ok → (findI k l i = none ∧ Kn = .ok) ∨ ∃ j v n, findI k l i = some (j, v) ∧ bornI k l = n ∧ Ks v n = .ok
  | [], _, _, h => .inl ⟨rfl, h⟩
  | (kk, v, n) :: r, i, ha, h => by
    simp only [allKeys, Bool.and_eq_true] at ha
    have h : keyX k kk (fun t => iteB t (Ks v n) (findX k r Kn Ks)) = .ok := h
    obtain ⟨t, h1, h2⟩ := keyX_ok hfk ha.1 h
    have h1 := iteB_ok h1
    cases t with
    | true => exact .inr ⟨i, v, n, by simp [findI, ← h2], by simp [bornI, ← h2], h1⟩
    | false =>
      rcases findX_ok hfk (i + 1) ha.2 h1 with ⟨g1, g2⟩ | ⟨j, v', n', g1, g2, g3⟩
      · exact .inl ⟨by simp [findI, ← h2, g1], g2⟩
      · exact .inr ⟨j, v', n', by simp [findI, ← h2, g1], by simp [bornI, ← h2, g2], g3⟩
end Go.La
/- Layer X, part 8: every instruction that only looks is sound. -/
namespace Go.La
open Go Go.RowKit

variable {P : Program} {ty : TT} {la : LT} {call : Caller} {e : EV} {h : XH} {K : KV} {N : Nat}

theorem one1_cases {agg : Bool} {ks : List K1} {a z : XI} {b : Nat → XI} : (agg = false ∧ one1 agg ks a b z = a) ∨ (agg = true ∧ ks = [] ∧ one1 agg ks a b z = z) ∨ (agg = true ∧ one1 agg ks a b z = b ks.length) := by
  cases agg
  · exact .inl ⟨rfl, rfl⟩
  · cases ks
    · exact .inr (.inl ⟨rfl, rfl, rfl⟩)
    · exact .inr (.inr ⟨rfl, rfl⟩)
theorem mkv_one {v : AV} : mkv false [v] = v := rfl
theorem mkv_agg {l : List AV} : mkv true l = .agg l := rfl
theorem PlainOk.one {t : TypeId} {ks : List K1} {d : TD} (h : PlainOk P t false ks d) : ks.length = 1 := by
  obtain ⟨u, _, _, hk, _⟩ := h.desc
  obtain ⟨k, e, _⟩ := hk rfl
  rw [e]; rfl

/-- Loads: the cells as they are. -/
theorem load_gives (T : TabOk P ty) {o : Oper} {t : TypeId} {p : Operand} (ho : o.op = .load t p) {f : Operand → AV} {h : AH} {agg : Bool} {ks : List K1} {d : TD} (hf : ty.find t = some (.plain agg ks d)) {a : Pt} (hp : f p = .ptr (some a)) {l : List AV} (hr : h.rd a ks.length = some l)
    {K : AV → Re → Prop} (hk : ∀ re, K (mkv agg l) re) : LGives P o f h K := by
  obtain ⟨dst, op, type, pos, after, guard⟩ := o
  simp only at ho; subst ho
  refine ⟨_, some fun h' => h'.rd a ks.length = some l, hk _, hr, fun h' hr' m w ρ s hx => ?_⟩
  have r1 := hx p (by simp [Op.operands])
  rw [hp] at r1
  generalize hρ : ρ p = pv at *; cases r1 with | ptr _ sl hm =>
  obtain ⟨v', g1, g2⟩ := load_run s (T.plain hf) hr' hm
  exact ⟨v', by simp only [execOp, hρ]; exact vrun g1, g2⟩

theorem fillX_ok {place : Nat → Option (Nat × Nat)} : ∀ {l : List (Nat × Operand)} {ps : List (Nat × Nat × XV)} {c : List AV} {K : List AV → Rs}, partsX N place l = some ps → fillX ps e c K = .ok →
    ∃ r, fillA place c (l.map fun (i, x) => (i, ev (view N e) x)) = some r ∧ goodParts (l.map fun (i, x) => (i, ev (view N e) x)) = true ∧ K r = .ok
  | [], ps, c, K, hp, hk => by
    simp only [partsX, Option.some.injEq] at hp; subst hp
    exact ⟨c, rfl, rfl, hk⟩
  | (i, x) :: r, ps, c, K, hp, hk => by
    simp only [partsX] at hp
    split at hp
    · rename_i off size l h1 h2
      cases hp
      have hk := evX_ok (K := fun v => aggOr v (fun l1 => lenX l1 0 fun n => iteE n size (spliceX off l1 c fun c => fillX l e c K) (.bad 141)) (iteE 1 size (setX off v c fun c => fillX l e c K) (.bad 141))) hk
      rcases aggOr_ok hk with ⟨l1, e1, hk⟩ | ⟨ho, hk⟩
      · rw [lenX_eq, Nat.zero_add] at hk
        obtain ⟨e2, hk⟩ := iteE_bad hk
        obtain ⟨h3, hk⟩ := spliceX_ok hk
        obtain ⟨r', g1, g2, hk⟩ := fillX_ok h2 hk
        refine ⟨r', ?_, ?_, hk⟩
        · simp only [List.map_cons, fillA, h1, e1, AV.cellsA, e2, Nat.beq_refl, Bool.true_and]
          rw [show Nat.ble (off + size) c.length = true from Nat.ble_eq_true_of_le (by omega)]
          exact g1
        · simp only [List.map_cons, goodParts, e1, Bool.true_and]; exact g2
      · obtain ⟨e2, hk⟩ := iteE_bad hk
        obtain ⟨h3, hk⟩ := setX_ok hk
        obtain ⟨r', g1, g2, hk⟩ := fillX_ok h2 hk
        have hc : (ev (view N e) x).cellsA = [ev (view N e) x] := by
          generalize ev (view N e) x = v at ho; cases v <;> simp [AV.one] at ho <;> rfl
        refine ⟨r', ?_, ?_, hk⟩
        · simp only [List.map_cons, fillA, h1, hc, List.length_singleton, ← e2, Nat.beq_refl, Bool.true_and]
          rw [show Nat.ble (off + 1) c.length = true from Nat.ble_eq_true_of_le (by omega)]
          exact g1
        · have hg : ∀ (v : AV) (l : List (Nat × AV)), v.one = true → goodParts ((i, v) :: l) = goodParts l := by
            intro v l hv
            cases v <;> first | rfl | (simp [AV.one] at hv)
          exact (hg _ _ ho).trans g2
    · cases hp
theorem si_light (T : TabOk P ty) (hla : ∀ a n o t, la a n o t = true → liesAt P P.depth a (n / P.cellsOf a) o t 1 = true) (o : Oper) (hl : isLight ty o.op = true) (hk : runI (si N ty o.op o.type) la call e h K = .ok) :
    LGives P o (ev (view N e)) h.ah (fun v _ => K v h = .ok) := by
  have ho := o
  obtain ⟨dst, op, type, pos, after, guard⟩ := o
  simp only at hl hk
  cases op with
  | move x => exact light_ok T _ _ _ _ (evX_ok (K := fun v => K v h) hk)
  | assign x => exact light_ok T _ _ _ _ (evT_ok (K := fun v => K v h) hk)
  | pick c a b =>
    have hk := evX_ok (K := fun c => evX (sv N a) e fun a => evX (sv N b) e fun b => asBool c (K a h) (K b h)) hk
    have hk := evX_ok hk
    have hk := evX_ok hk
    obtain ⟨bc, e1, hk⟩ := asBool_ok hk
    refine LGives.pure (v := cond bc (ev (view N e) a) (ev (view N e) b)) (by cases bc <;> exact hk) fun m w ρ hx => ?_
    have r1 := hx c (by simp [Op.operands]); have r2 := hx a (by simp [Op.operands]); have r3 := hx b (by simp [Op.operands])
    rw [e1] at r1
    refine ⟨cond bc (ρ a) (ρ b), ?_, by cases bc; exact r3; exact r2⟩
    generalize hρ : ρ c = cv at *; cases r1
    cases bc <;> simp [execOp, Go.asBool, hρ]
  | load t p =>
    simp only [si] at hk
    split at hk
    · rename_i agg ks d hf
      rcases one1_cases (agg := agg) (ks := ks) (a := .ld1 (sv N p)) (b := fun n => .ldN n (sv N p)) (z := .ld0 (sv N p)) with ⟨rfl, e1⟩ | ⟨rfl, rfl, e1⟩ | ⟨rfl, e1⟩
      · rw [e1] at hk
        have hk := evX_ok (K := fun p => asPtr p fun b o => rd1 b o h fun v => K v h) hk
        obtain ⟨a, e2, hk⟩ := asPtr_ok hk
        obtain ⟨v, hr, hk⟩ := rd1_ok hk
        exact load_gives T rfl hf e2 (l := [v]) (by rw [(T.plain hf).one]; exact hr) fun _ => hk
      · rw [e1] at hk
        have hk := evX_ok (K := fun p => anyX p (K (.agg []) h) fun b o => rdN b o 0 h fun l => K (.agg l) h) hk
        rcases anyX_ok hk with ⟨e2, hk⟩ | ⟨a, e2, hk⟩
        · refine light_ok T _ _ _ _ ?_
          simp only [lightW, hf, e2]; exact hk
        · obtain ⟨l, hr, hk⟩ := rdN_ok hk
          exact load_gives T rfl hf e2 hr fun _ => hk
      · rw [e1] at hk
        have hk := evX_ok (K := fun p => asPtr p fun b o => rdN b o ks.length h fun l => K (.agg l) h) hk
        obtain ⟨a, e2, hk⟩ := asPtr_ok hk
        obtain ⟨l, hr, hk⟩ := rdN_ok hk
        exact load_gives T rfl hf e2 hr fun _ => hk
    · exact Rs.noConfusion hk
  | nilCheck x =>
    refine light_ok T _ _ _ _ ?_
    have hk := evX_ok (K := fun x => nilX x fun v => K v h) hk
    obtain ⟨hk, hv⟩ := nilX_ok hk
    rcases hv with ⟨p, e1⟩ | e1 | ⟨f, l1, l2, e1⟩ <;> rw [e1] at hk <;> simp only [lightW, e1, needSome] <;> exact hk
  | binOp op t x y yt => exact light_ok T _ _ _ _ (sbin_ok hk)
  | unOp op t x =>
    refine light_ok T _ _ _ _ ?_
    cases op with
    | not =>
      have hk := evX_ok (K := fun x => asBool x (K (.bool false) h) (K (.bool true) h)) hk
      obtain ⟨b, e1, hk⟩ := asBool_ok hk
      simp only [lightW, e1]
      cases b <;> exact hk
    | neg =>
      have hk := evX_ok (K := fun x => asInt x fun k n => ki k (La.negI n) fun v => K v h) hk
      obtain ⟨k, n, e1, hk⟩ := asInt_ok hk
      rw [ki_eq, negI_eq] at hk
      simp only [lightW, e1]; exact hk
    | _ => exact Rs.noConfusion hk
  | convert s d x =>
    refine light_ok T _ _ _ _ ?_
    have hk : runI (sconv N ty s d x) la call e h K = .ok := hk
    unfold sconv at hk
    split at hk
    · rename_i k1 d1 k2 hs hd
      have hk := evX_ok (K := fun x => asInt x fun _ n => ki k2 n fun v => K v h) hk
      obtain ⟨k, n, e1, hk⟩ := asInt_ok hk
      rw [ki_eq] at hk
      simp only [lightW, hs, hd, e1]; exact hk
    · rename_i d1 hs hd
      have hk := evX_ok (K := fun x => asStr x fun s => K (.str s) h) hk
      obtain ⟨s, e1, hk⟩ := asStr_ok hk
      simp only [lightW, hs, hd, e1]; exact hk
    · rename_i sz el hs hd
      split at hk
      · rename_i d3 hel
        have hk := evX_ok (K := fun x => asSlice x fun p n _ => atPt p (iteE n 0 (K (.str []) h) (.bad 145)) fun b o => rdN b o n h fun l => toStr l fun s => K (.str s) h) hk
        obtain ⟨p, n, sz', e1, hk⟩ := asSlice_ok hk
        simp only [lightW, hs, hd, e1, hel]
        rcases atPt_ok hk with ⟨rfl, hk2⟩ | ⟨a, rfl, hk2⟩
        · obtain ⟨en, hk3⟩ := iteE_bad hk2
          exact ⟨[], ⟨en, rfl⟩, hk3⟩
        · obtain ⟨l, hr, hk3⟩ := rdN_ok hk2
          obtain ⟨s, rfl, hk4⟩ := toStr_ok hk3
          exact ⟨s, hr, hk4⟩
      · exact Rs.noConfusion hk
    · rename_i d1 ks2 el hs hd
      exfalso
      simp [isLight, hd] at hl
    · rename_i te hs hd
      split at hk
      · rename_i agg k ks d3 hte
        have hk := evX_ok (K := fun x => asPtr x fun b o => rd1 b o h fun _ => K (.ptr (some ⟨b, o⟩)) h) hk
        obtain ⟨a, e1, hk⟩ := asPtr_ok hk
        obtain ⟨v, hr, hk⟩ := rd1_ok hk
        simp only [lightW, hs, hd, e1, hte, needSome]
        exact ⟨_, hr, hk⟩
      · exact Rs.noConfusion hk
    · rename_i te hs hd
      have hk := evX_ok (K := fun x => asPtr x fun b o => getO b h fun q => asCells q fun _ _ el c => iteB el.wh (lenX c 0 fun n => iteB (la el.t n o te) (K (.ptr (some ⟨b, o⟩)) h) (.bad 135)) (.bad 135)) hk
      obtain ⟨a, e1, hk⟩ := asPtr_ok hk
      obtain ⟨_, hk⟩ := getO_ok hk
      obtain ⟨ro, fz, el, c, e2, hk⟩ := asCells_ok hk
      have hk := iteB_ok hk
      cases hw : el.wh with
      | false => rw [hw] at hk; exact Rs.noConfusion hk
      | true =>
        rw [hw] at hk
        have hk : lenX c 0 (fun n => iteB (la el.t n a.o te) (K (.ptr (some ⟨a.b, a.o⟩)) h) (.bad 135)) = .ok := hk
        rw [lenX_eq] at hk
        have hk := iteB_ok hk
        cases hq : la el.t (0 + c.length) a.o te with
        | false => rw [hq] at hk; exact Rs.noConfusion hk
        | true =>
          rw [hq] at hk
          have := hla _ _ _ _ hq
          rw [Nat.zero_add] at this
          simp only [lightW, hs, hd, e1, needSome]
          exact ⟨ro, fz, el, c, e2, hw, this, hk⟩
    · exact Rs.noConfusion hk
  | fieldAddr t p i =>
    refine light_ok T _ _ _ _ ?_
    simp only [si] at hk
    split at hk
    · rename_i agg ks fs fl hf
      split at hk
      · rename_i off size ag hi
        cases hz : Nat.beq size 0 with
        | true =>
          rw [hz] at hk
          have hk := evX_ok (K := fun p => asPtr p fun b _ => getO b h fun q => asCells q fun _ _ el _ => iteB (okEl ty el.t) (K .anyptr h) (.bad 137)) hk
          obtain ⟨a, e1, hk⟩ := asPtr_ok hk
          obtain ⟨_, hk⟩ := getO_ok hk
          obtain ⟨ro, fz, el, c, e2, hk⟩ := asCells_ok hk
          have hk := iteB_ok hk
          cases hw : okEl ty el.t with
          | false => rw [hw] at hk; exact Rs.noConfusion hk
          | true =>
            rw [hw] at hk
            simp only [lightW, hf, e1, needSome, hi, hz, cond_true]
            exact ⟨el, by simp only [AH.el, e2], hw, hk⟩
        | false =>
          rw [hz] at hk
          have hk := evX_ok (K := fun p => asPtr p fun b o => natK (Nat.add o off) fun o => K (.ptr (some ⟨b, o⟩)) h) hk
          obtain ⟨a, e1, hk⟩ := asPtr_ok hk
          simp only [lightW, hf, e1, needSome, hi, hz, cond_false]
          exact hk
      · exact Rs.noConfusion hk
    · exact Rs.noConfusion hk
  | field t x i =>
    refine light_ok T _ _ _ _ ?_
    simp only [si] at hk
    split at hk
    · rename_i agg ks fs fl hf
      split at hk
      · rename_i off size ag hi
        cases ag with
        | true =>
          have hk := evX_ok (K := fun x => asAgg x fun l => dropX off l fun l => takeX size l fun l => K (.agg l) h) hk
          obtain ⟨l, e1, hk⟩ := asAgg_ok hk
          obtain ⟨h1, hk⟩ := dropX_ok hk
          obtain ⟨h2, hk⟩ := takeX_ok hk
          simp only [List.length_drop] at h2
          simp only [lightW, hf, e1, hi, partA]
          exact ⟨by omega, hk⟩
        | false =>
          have hk := evX_ok (K := fun x => asAgg x fun l => nthX off l fun v => K v h) hk
          obtain ⟨l, e1, hk⟩ := asAgg_ok hk
          obtain ⟨v, h1, hk⟩ := nthX_ok hk
          simp only [lightW, hf, e1, hi, partA, h1]; exact hk
      · exact Rs.noConfusion hk
    · exact Rs.noConfusion hk
  | indexAddr t x i =>
    refine light_ok T _ _ _ _ ?_
    simp only [si] at hk
    split at hk
    · rename_i agg ks esz el hf
      have hk := evX_ok (K := fun x => evX (sv N i) e fun i => asSlice x fun p len _ => asInt i fun _ i => natI i fun i => iteN (Nat.succ i) len (atPt p (.bad 27) fun b o => natK (Nat.add o (Nat.mul i esz)) fun o => K (.ptr (some ⟨b, o⟩)) h) (.bad 28)) hk
      have hk := evX_ok hk
      obtain ⟨p, len, sz, e1, hk⟩ := asSlice_ok hk
      obtain ⟨k, n, e2, hk⟩ := asInt_ok hk
      obtain ⟨h0, hk⟩ := natI_ok hk
      obtain ⟨h1, hk⟩ := iteN_bad hk
      obtain ⟨a, ea, hk⟩ := atPt_bad hk
      simp only [lightW, hf, e1, e2, ea, needSome]
      exact ⟨h0, by omega, hk⟩
    · rename_i agg ks len esz ea hf
      have hk := evX_ok (K := fun x => evX (sv N i) e fun i => asPtr x fun b o => asInt i fun _ i => natI i fun i => iteN (Nat.succ i) len (natK (Nat.add o (Nat.mul i esz)) fun o => K (.ptr (some ⟨b, o⟩)) h) (.bad 28)) hk
      have hk := evX_ok hk
      obtain ⟨a, e1, hk⟩ := asPtr_ok hk
      obtain ⟨k, n, e2, hk⟩ := asInt_ok hk
      obtain ⟨h0, hk⟩ := natI_ok hk
      obtain ⟨h1, hk⟩ := iteN_bad hk
      simp only [lightW, hf, e1, e2, needSome]
      exact ⟨h0, by omega, hk⟩
    · exact Rs.noConfusion hk
  | index t x i =>
    refine light_ok T _ _ _ _ ?_
    simp only [si] at hk
    split at hk
    · rename_i d hf
      have hk := evX_ok (K := fun x => evX (sv N i) e fun i => asStr x fun s => asInt i fun _ i => natI i fun i => dropS i s fun s => List.rec (motive := fun _ => XH → KV → Rs) (fun _ _ => .bad 28) (fun c _ _ h K => natK (UInt8.toNat c) fun c => K (.int .u8 (.ofNat c)) h) s h K) hk
      have hk := evX_ok hk
      obtain ⟨s, e1, hk⟩ := asStr_ok hk
      obtain ⟨k, n, e2, hk⟩ := asInt_ok hk
      obtain ⟨h0, hk⟩ := natI_ok hk
      obtain ⟨h1, hk⟩ := dropS_ok hk
      simp only [lightW, hf, e1, e2]
      cases hd : s.drop n.toNat with
      | nil => rw [hd] at hk; exact Rs.noConfusion hk
      | cons c r =>
        rw [hd] at hk
        have hk : K (.int .u8 (.ofNat c.toNat)) h = .ok := hk
        have hlt : n.toNat < s.length := by
          apply Nat.lt_of_not_le; intro hle
          rw [List.drop_eq_nil_of_le hle] at hd; cases hd
        have hg : s.getD n.toNat 0 = c := by
          rw [List.drop_eq_getElem_cons hlt] at hd
          have := (List.cons.inj hd).1
          rw [List.getD_eq_getElem?_getD, List.getElem?_eq_getElem hlt]; exact this
        refine ⟨h0, by omega, ?_⟩
        rw [hg]; exact hk
    · rename_i agg ks len esz ag _ hf
      cases ag with
      | true =>
        have hk := evX_ok (K := fun x => evX (sv N i) e fun i => asAgg x fun l => asInt i fun _ i => natI i fun i => iteN (Nat.succ i) len (dropX (Nat.mul i esz) l fun l => takeX esz l fun l => K (.agg l) h) (.bad 28)) hk
        have hk := evX_ok hk
        obtain ⟨l, e1, hk⟩ := asAgg_ok hk
        obtain ⟨k, n, e2, hk⟩ := asInt_ok hk
        obtain ⟨h0, hk⟩ := natI_ok hk
        obtain ⟨h1, hk⟩ := iteN_bad hk
        obtain ⟨h2, hk⟩ := dropX_ok hk
        obtain ⟨h3, hk⟩ := takeX_ok hk
        simp only [List.length_drop] at h3
        have hm : Nat.mul n.toNat esz = n.toNat * esz := rfl
        rw [hm] at h2 h3 hk
        simp only [lightW, hf, e1, e2, partA]
        exact ⟨h0, by omega, by omega, hk⟩
      | false =>
        have hk := evX_ok (K := fun x => evX (sv N i) e fun i => asAgg x fun l => asInt i fun _ i => natI i fun i => iteN (Nat.succ i) len (nthX (Nat.mul i esz) l fun v => K v h) (.bad 28)) hk
        have hk := evX_ok hk
        obtain ⟨l, e1, hk⟩ := asAgg_ok hk
        obtain ⟨k, n, e2, hk⟩ := asInt_ok hk
        obtain ⟨h0, hk⟩ := natI_ok hk
        obtain ⟨h1, hk⟩ := iteN_bad hk
        obtain ⟨v, h2, hk⟩ := nthX_ok hk
        have h2 : l[n.toNat * esz]? = some v := h2
        simp only [lightW, hf, e1, e2, partA, h2]
        exact ⟨h0, by omega, hk⟩
    · exact Rs.noConfusion hk
  | slice t x lo hi mx =>
    refine light_ok T _ _ _ _ ?_
    cases mx with
    | some m => exact Rs.noConfusion hk
    | none =>
      simp only [si] at hk
      split at hk
      · rename_i d hf
        have hk := evX_ok (K := fun x => optX (lo.map (sv N)) e fun lo => optX (hi.map (sv N)) e fun hi => asStr x fun s => lenS s 0 fun n => slcX lo hi n fun l r => dropS l s fun s => takeS (Nat.sub r l) s fun s => K (.str s) h) hk
        have hk := opt_ok hk
        have hk := opt_ok hk
        obtain ⟨s, e1, hk⟩ := asStr_ok hk
        rw [lenS_eq, Nat.zero_add] at hk
        simp only [lightW, hf, e1]
        refine sliceArgs_mono (slcX_ok hk) fun l r ⟨h1, h2, h3⟩ => ?_
        obtain ⟨_, h1⟩ := dropS_ok h1
        obtain ⟨_, h1⟩ := takeS_ok h1
        rw [List.drop_take]; exact h1
      · rename_i agg ks esz el _ hf
        have hk := evX_ok (K := fun x => optX (lo.map (sv N)) e fun lo => optX (hi.map (sv N)) e fun hi => asSlice x fun p n sz => iteE esz sz (slcX lo hi n fun l r => natK (Nat.sub r l) fun m => atPt p (K (.slice none m sz) h) fun b o => natK (Nat.add o (Nat.mul l sz)) fun o => K (.slice (some ⟨b, o⟩) m sz) h) (.bad 138)) hk
        have hk := opt_ok hk
        have hk := opt_ok hk
        obtain ⟨p, n, sz, e1, hk⟩ := asSlice_ok hk
        obtain ⟨esize, hk⟩ := iteE_bad hk
        simp only [lightW, hf, e1, esize, Nat.beq_refl, cond_true]
        refine sliceArgs_mono (slcX_ok hk) fun l r ⟨h1, h2, h3⟩ => ?_
        rcases atPt_ok h1 with ⟨ep, h4⟩ | ⟨a, ep, h4⟩
        · rw [ep]; exact h4
        · rw [ep]; exact h4
      · rename_i agg ks n esz ea _ hf
        have hk := evX_ok (K := fun x => optX (lo.map (sv N)) e fun lo => optX (hi.map (sv N)) e fun hi => asPtr x fun b o => rdN b o (Nat.mul n esz) h fun _ => slcX lo hi n fun l r => natK (Nat.sub r l) fun m => natK (Nat.add o (Nat.mul l esz)) fun o => K (.slice (some ⟨b, o⟩) m esz) h) hk
        have hk := opt_ok hk
        have hk := opt_ok hk
        obtain ⟨a, e1, hk⟩ := asPtr_ok hk
        obtain ⟨c, hr, hk⟩ := rdN_ok hk
        simp only [lightW, hf, e1, needSome]
        exact ⟨c, hr, sliceArgs_mono (slcX_ok hk) fun l r ⟨h1, h2, h3⟩ => h1⟩
      · exact Rs.noConfusion hk
  | extract x i =>
    refine light_ok T _ _ _ _ ?_
    have hk := evX_ok (K := fun x => asTup x fun l => nthX i l fun v => K v h) hk
    obtain ⟨l, e1, hk⟩ := asTup_ok hk
    obtain ⟨v, h1, hk⟩ := nthX_ok hk
    simp only [lightW, e1, h1]; exact hk
  | lookup t x k ok =>
    refine light_ok T _ _ _ _ ?_
    simp only [si, keyI] at hk
    simp only [lightW, lookupW]
    split at hk
    · rename_i agg ks kt et hf
      split at hk
      · rename_i kagg kks eagg eks ed h1 h2
        simp only [hf, h1, h2]
        have hk := evX_ok (K := fun x => evX (sv N k) e fun k => fitKX kagg kks k (asMap x fun m =>
          Option.rec (motive := fun _ => AV → AV → Bool → XH → KV → Rs) (fun _ z ok h K => lookK ok z false h K) (fun b k z ok h K => getO b h fun o => asMapO o fun es _ => allKX kagg kks es (findX k es (lookK ok z false h K) fun v _ => lookK ok v true h K)) m k (mkv eagg (eks.map K1.zero)) ok h K)) hk
        have hk := evX_ok hk
        obtain ⟨hfk, hk⟩ := fitKX_ok hk
        obtain ⟨m, e1, hk⟩ := asMap_ok hk
        have lk : ∀ {v : AV} {b : Bool}, lookK ok v b h K = .ok → K (lookRes ok v b) h = .ok := by
          intro v b hq; cases ok <;> exact hq
        simp only [hfk, cond_true, e1]
        cases m with
        | none => exact lk hk
        | some b =>
          obtain ⟨_, hk⟩ := getO_ok hk
          obtain ⟨es, clk, e2, hk⟩ := asMapO_ok hk
          obtain ⟨hak, hk⟩ := allKX_ok hk
          refine ⟨es, clk, e2, hak, ?_⟩
          rcases findX_ok hfk 0 hak hk with ⟨g1, g2⟩ | ⟨j, v, n, g1, _, g2⟩
          · rw [g1]; exact lk g2
          · rw [g1]; exact lk g2
      · exact Rs.noConfusion hk
    · exact Rs.noConfusion hk
  | makeFunc fn l1 l2 =>
    refine light_ok T _ _ _ _ ?_
    cases fn with
    | func f =>
      have hk := evs_map (K := fun l1 => evsX (l2.toList.map (sv N)) e fun l2 => K (.func (.func f) l1 l2) h) hk
      have hk := evs_map hk
      exact hk
    | _ => exact Rs.noConfusion hk
  | call c =>
    refine light_ok T _ _ _ _ ?_
    obtain ⟨callee, ⟨args⟩, ⟨argTypes⟩⟩ := c
    replace hk : runI (scall N ty ⟨callee, ⟨args⟩, ⟨argTypes⟩⟩) la call e h K = .ok := hk
    cases callee with
    | value f => simp [isLight] at hl
    | invoke r m => simp [isLight] at hl
    | builtin b =>
      unfold scall at hk
      simp only at hk
      split at hk
      · rename_i x t
        simp only [lightW, lenW]
        split at hk
        · rename_i sz d hf
          have hk := evX_ok (K := fun x => asSlice x fun _ n _ => K (.int .i64 (.ofNat n)) h) hk
          obtain ⟨p, n, s, e1, hk⟩ := asSlice_ok hk
          simp only [hf, e1]; exact hk
        · rename_i agg ks kt et hf
          have hk := evX_ok (K := fun x => asMap x fun m => Option.rec (motive := fun _ => XH → KV → Rs) (fun h K => K (.int .i64 (.ofNat 0)) h) (fun b h K => getO b h fun o => asMapO o fun es _ => lenM es 0 fun n => K (.int .i64 (.ofNat n)) h) m h K) hk
          obtain ⟨m, e1, hk⟩ := asMap_ok hk
          cases m with
          | none => simp only [hf, e1]; exact hk
          | some b =>
            obtain ⟨_, hk⟩ := getO_ok hk
            obtain ⟨es, clk, e2, hk⟩ := asMapO_ok hk
            have lenM_eq : ∀ (l : ES) (n : Nat) (K : Nat → Rs), lenM l n K = K (n + l.length) := by
              intro l
              induction l with
              | nil => intro n K; rfl
              | cons a r ih => intro n K; exact (ih (n + 1) K).trans (by rw [List.length_cons]; congr 1; omega)
            rw [lenM_eq, Nat.zero_add] at hk
            simp only [hf, e1]
            exact ⟨es, clk, e2, hk⟩
        · rename_i d hf
          have hk := evX_ok (K := fun x => asStr x fun s => lenS s 0 fun n => K (.int .i64 (.ofNat n)) h) hk
          obtain ⟨s, e1, hk⟩ := asStr_ok hk
          rw [lenS_eq, Nat.zero_add] at hk
          simp only [hf, e1]; exact hk
        · exact Rs.noConfusion hk
      · rename_i x y
        have hk := evX_ok (K := fun x => evX (sv N y) e fun y => asInt x fun k a => asInt y fun k' b => iteE (kindN k) (kindN k') (iteB (ltI a b) (K y h) (K x h)) (.bad 139)) hk
        have hk := evX_ok hk
        obtain ⟨k, a, e1, hk⟩ := asInt_ok hk
        obtain ⟨k', b, e2, hk⟩ := asInt_ok hk
        obtain ⟨ek, hk⟩ := iteE_bad hk
        have ek := kindN_inj ek
        have hk := iteB_ok hk
        rw [ltI_eq, e1, e2, ← ek] at hk
        simp only [lightW, e1, e2, ← ek, decide_true, cond_true]
        by_cases hab : a < b
        · rw [if_pos hab]; simpa [hab] using hk
        · rw [if_neg hab]; simpa [hab] using hk
      · rename_i x y
        have hk := evX_ok (K := fun x => evX (sv N y) e fun y => asInt x fun k a => asInt y fun k' b => iteE (kindN k) (kindN k') (iteB (ltI b a) (K y h) (K x h)) (.bad 139)) hk
        have hk := evX_ok hk
        obtain ⟨k, a, e1, hk⟩ := asInt_ok hk
        obtain ⟨k', b, e2, hk⟩ := asInt_ok hk
        obtain ⟨ek, hk⟩ := iteE_bad hk
        have ek := kindN_inj ek
        have hk := iteB_ok hk
        rw [ltI_eq, e1, e2, ← ek] at hk
        simp only [lightW, e1, e2, ← ek, decide_true, cond_true]
        by_cases hab : b < a
        · rw [if_pos hab]; simpa [hab] using hk
        · rw [if_neg hab]; simpa [hab] using hk
      · rename_i x t
        split at hk
        · rename_i sz esz el hf
          have hk := evX_ok (K := fun x => asSlice x fun p _ _ => nonePt p (K (.int .i64 (.ofNat 0)) h)) hk
          obtain ⟨p, n, s, e1, hk⟩ := asSlice_ok hk
          obtain ⟨ep, hk⟩ := nonePt_ok hk
          simp only [lightW, hf, e1, ep]; exact hk
        · exact Rs.noConfusion hk
      · simp [isLight] at hl
      · simp [isLight] at hl
      · simp [isLight] at hl
      · rename_i x _
        have hk := evX_ok (K := fun x => asSlice x fun p n _ => atPt p (K (.ptr none) h) fun b o => iteE n 0 (.bad 140) (K (.ptr (some ⟨b, o⟩)) h)) hk
        obtain ⟨p, n, s, e1, hk⟩ := asSlice_ok hk
        rcases atPt_ok hk with ⟨ep, hk⟩ | ⟨a, ep, hk⟩
        · simp only [lightW, e1, ep]; exact hk
        · rcases iteE_ok hk with ⟨_, hk⟩ | ⟨hn, hk⟩
          · exact Rs.noConfusion hk
          · simp only [lightW, e1, ep]; exact ⟨by omega, hk⟩
      · simp [isLight] at hl
      · exact Rs.noConfusion hk
  | build t ps =>
    refine light_ok T _ _ _ _ ?_
    simp only [si] at hk
    split at hk
    · rename_i ks fs fl hf
      split at hk
      · rename_i l hp
        obtain ⟨r, h1, h2, hk⟩ := fillX_ok hp (show fillX l e (zerosOf ks) (fun l => K (.agg l) h) = .ok from hk)
        simp only [lightW, hf]
        unfold zerosOf at h1
        rw [h2, h1]; exact hk
      · exact Rs.noConfusion hk
    · rename_i ks n esz ea hf
      split at hk
      · rename_i l hp
        obtain ⟨r, h1, h2, hk⟩ := fillX_ok hp (show fillX l e (zerosOf ks) (fun l => K (.agg l) h) = .ok from hk)
        simp only [lightW, hf]
        unfold zerosOf at h1
        rw [h2, h1]; exact hk
      · exact Rs.noConfusion hk
    · exact Rs.noConfusion hk
  | _ => simp [isLight] at hl
end Go.La
/- Layer X, part 9: instructions that make or write are sound. -/
namespace Go.La
open Go Go.RowKit

variable {P : Program} {ty : TT} {la : LT} {call : Caller} {e : EV} {h : XH} {K : KV} {N : Nat}

def KX2 (K : KV) : AV → AH → Prop := fun v h' => ∃ hx : XH, h' = hx.ah ∧ K v hx = .ok
/-- What is asked of the calls. -/
structure CallOk (P : Program) (call : Caller) : Prop where
  plain : ∀ (md : Nat) (f : AV) (args : List AV) (h : XH) (K : KV), md ≠ 2 → call md f args h K = .ok → ACall P f args h.ah (KX2 K)
  body : ∀ (f : AV) (args : List AV) (h : XH) (K : KV), call 1 f args h K = .ok → ∃ fid l1 l2 fn, f = .func (.func fid) l1 l2 ∧ P.funcs[fid]? = some fn ∧ fn.body.isNone = false ∧ (fn.name == "runtime.NumGoroutine") = false
  dfr : ∀ (f : AV) (args : List AV) (h : XH) (K : KV), call 2 f args h K = .ok → ∃ fid l1 l2 fn, f = .func (.func fid) l1 l2 ∧ P.funcs[fid]? = some fn ∧ fn.body.isNone = false ∧ (fn.name == "runtime.NumGoroutine") = false ∧
    ∀ (m : Mp) (w : World) (args' : Array Value) (u : FrameMode), Sim m h.ah w → VsRel m (l1 ++ args ++ l2) args'.toList → CallsDIn Fence.wide 0 P fid args' u w fun e u' w' => u' = u ∧ ∃ v, e = .returned v ∧ Post m h.ah w (KX2 K) v w'
theorem gives_heavy (T : TabOk P ty) {o : Oper} {f : Operand → AV} {h : AH} {K : AV → AH → Prop} (hk : heavyW P ty o.op o.type f h K) : HGives P o f h K :=
  ⟨notDefer_of_heavy hk, fun m w ρ s hx => heavy_ok T o _ _ _ hk m w ρ s hx⟩
theorem newO_kx {o : AObj} {h : XH} {F : Nat → AV} (hk : newO o h (fun b h => K (F b) h) = .ok) : KX2 K (F h.ah.next) (h.ah.new o) := by
  obtain ⟨h', h1, h2⟩ := newO_ok hk
  exact ⟨h', h2.symm, h1⟩
theorem oneThen_of {l : List AV} {Q : Prop} (h : ∀ v ∈ l, v.one = true) (hq : Q) : oneThen l Q := oneThen_iff.2 ⟨h, hq⟩
theorem cells1 {v : AV} {n : Nat} {Q : List AV → Prop} (hn : n = 1) (ho : v.one = true) (hq : Q [v]) : cellsThen false n v Q := by
  subst hn
  have : cellsThen false 1 v Q = oneThen [v] (Q [v]) := by cases v <;> rfl
  rw [this]; exact oneThen_of (by simpa using ho) hq
theorem cellsN {l : List AV} {n : Nat} {Q : List AV → Prop} (hn : l.length = n) (ho : ∀ v ∈ l, v.one = true) (hq : Q l) : cellsThen true n (.agg l) Q := by
  subst hn
  show (bif Nat.beq l.length l.length then oneThen l (Q l) else False)
  rw [Nat.beq_refl]; exact oneThen_of ho hq
theorem appM_eq : ∀ (l m : ES) (K : ES → Rs), appM l m K = K (l ++ m)
  | [], _, _ => rfl
  | a :: r, m, K => appM_eq r m fun r => K (a :: r)
theorem updM_ok {agg : Bool} {ks : List K1} {k v : AV} (hfk : fitKey agg ks k = true) : ∀ {l : ES} {K : ES → Rs}, allKeys agg ks l = true → updM k v l K = .ok → K (updI k v l) = .ok
  | [], _, _, h => Rs.noConfusion h
  | (kk, y) :: r, K, ha, h => by
    simp only [allKeys, Bool.and_eq_true] at ha
    have h : keyX k kk (fun t => iteB t (K ((k, v, y.2) :: r)) (updM k v r fun r => K ((kk, y) :: r))) = .ok := h
    obtain ⟨t, h1, h2⟩ := keyX_ok hfk ha.1 h
    have h1 := iteB_ok h1
    cases t with
    | true => simp only [updI, ← h2, cond_true]; exact h1
    | false => simp only [updI, ← h2, cond_false]; exact updM_ok hfk ha.2 h1
theorem delM_ok {agg : Bool} {ks : List K1} {k : AV} (hfk : fitKey agg ks k = true) : ∀ {l : ES} {K : ES → Rs}, allKeys agg ks l = true → delM k l K = .ok → K (delI k l) = .ok
  | [], _, _, h => h
  | (kk, y) :: r, K, ha, h => by
    simp only [allKeys, Bool.and_eq_true] at ha
    have h : keyX k kk (fun t => iteB t (K r) (delM k r fun r => K ((kk, y) :: r))) = .ok := h
    obtain ⟨t, h1, h2⟩ := keyX_ok hfk ha.1 h
    have h1 := iteB_ok h1
    cases t with
    | true => simp only [delI, ← h2, cond_true]; exact h1
    | false => simp only [delI, ← h2, cond_false]; exact delM_ok hfk ha.2 h1
theorem stoM_ok {n : Nat} {v : AV} : ∀ {l : ES} {K : ES → Rs}, stoM n v l K = .ok → ∃ q, storeI n v l = some q ∧ K q = .ok
  | [], _, h => Rs.noConfusion h
  | (kk, y) :: r, K, h => by
    rcases iteE_ok (show iteE y.2 n (K ((kk, v, y.2) :: r)) (stoM n v r fun r => K ((kk, y) :: r)) = .ok from h) with ⟨e1, h1⟩ | ⟨e1, h1⟩
    · exact ⟨_, by simp only [storeI, e1, Nat.beq_refl, cond_true]; rfl, by rw [e1] at h1; exact h1⟩
    · obtain ⟨q, h2, h3⟩ := stoM_ok h1
      have : Nat.beq y.2 n = false := by
        cases hb : Nat.beq y.2 n with
        | false => rfl
        | true => exact (e1 (Nat.eq_of_beq_eq_true hb)).elim
      exact ⟨(kk, y) :: q, by simp only [storeI, this, cond_false, h2], h3⟩
theorem withMap_ok {m : AV} {h : XH} {K : Nat → ES → Nat → Rs} (hk : withMap m h K = .ok) : ∃ b es clk, m = .map (some b) ∧ h.ah.get b = some (.map es clk) ∧ K b es clk = .ok := by
  obtain ⟨r, e1, hk⟩ := asMap_ok hk
  cases r with
  | none => exact Rs.noConfusion hk
  | some b =>
    obtain ⟨_, hk⟩ := getO_ok (show getO b h (fun o => asMapO o fun es clk => K b es clk) = .ok from hk)
    obtain ⟨es, clk, e2, hk⟩ := asMapO_ok hk
    exact ⟨b, es, clk, e1, e2, hk⟩
theorem setO_kx {b : Nat} {o : AObj} {v : AV} {h : XH} (hk : setO b (some o) h (fun h => K v h) = .ok) : KX2 K v (h.ah.set b (some o)) := by
  obtain ⟨h', h1, h2⟩ := setO_ok hk
  exact ⟨h', h2.symm, h1⟩
theorem mapUpX_ok {t : TypeId} {x k v : Operand} (hk : runI (keyI ty t fun agg ks _ => .mapUp agg ks (sv N x) (sv N k) (sv N v)) la call e h K = .ok) : mapUpW ty t (ev (view N e) x) (ev (view N e) k) (ev (view N e) v) h.ah (KX2 K) := by
  unfold keyI at hk
  unfold mapUpW
  split at hk
  · rename_i agg ks kt et hf
    split at hk
    · rename_i kagg kks eagg eks ed h1 h2
      simp only [hf, h1]
      have hk := evX_ok (K := fun m => evX (sv N k) e fun k => evX (sv N v) e fun x => fitKX kagg kks k (withMap m h fun b es clk => allKX kagg kks es (
        findX k es (appM es [(k, x, clk)] fun es => natK (Nat.succ clk) fun clk => setO b (some (.map es clk)) h fun h => K .dead h) fun _ _ => updM k x es fun es => setO b (some (.map es clk)) h fun h => K .dead h))) hk
      have hk := evX_ok hk
      have hk := evX_ok hk
      obtain ⟨hfk, hk⟩ := fitKX_ok hk
      obtain ⟨b, es, clk, e1, e2, hk⟩ := withMap_ok hk
      obtain ⟨hak, hk⟩ := allKX_ok hk
      simp only [hfk, cond_true, e1]
      refine ⟨es, clk, e2, hak, ?_⟩
      rcases findX_ok hfk 0 hak hk with ⟨g1, g2⟩ | ⟨j, v', n, g1, _, g2⟩
      · rw [g1]
        rw [appM_eq] at g2
        exact setO_kx g2
      · rw [g1]
        exact setO_kx (updM_ok hfk hak g2)
    · exact Rs.noConfusion hk
  · exact Rs.noConfusion hk
theorem forceB_eq (b : Bool) (K : Bool → Rs) : forceB b K = K b := by cases b <;> rfl
theorem appTX_ok {el : Nat} {p : Option Pt} {len sz k : Nat} {ys : List AV} (hk : appTX el p len sz k ys h K = .ok) : appendTo h.ah p len sz el k ys (KX2 K) := by
  have hk : iteN (Nat.succ (len + k)) 4294967296 (iteE k 0 (K (.slice p len sz) h)
    (atPt p (newO (.cells false 0 ⟨el, false, true⟩ ys) h fun b h => K (.slice (some ⟨b, 0⟩) k sz) h) fun a o =>
      getO a h fun x => asCells x fun ro fz el' c => iteB ro (.bad 31) (iteE el'.t el (natK (Nat.add o (Nat.mul len sz)) fun m => iteN fz m
        (dropX o c fun c => takeX (Nat.mul len sz) c fun c => appX c ys fun c => setO a none h fun h => natK (Nat.sub fz o) fun fz => forceB (Bool.and el'.cl (Nat.beq o 0)) fun cl => newO (.cells false fz ⟨el, false, cl⟩ c) h fun b h => K (.slice (some ⟨b, 0⟩) (len + k) sz) h) (.bad 32)) (.bad 32)))) (.bad 33) = .ok := hk
  obtain ⟨hb, hk⟩ := iteN_bad hk
  refine ⟨by omega, ?_⟩
  rcases iteE_ok hk with ⟨e1, hk⟩ | ⟨e1, hk⟩
  · subst e1; exact ⟨h, rfl, hk⟩
  · have hk0 : Nat.beq k 0 = false := by
      cases hb : Nat.beq k 0 with
      | false => rfl
      | true => exact (e1 (Nat.eq_of_beq_eq_true hb)).elim
    rw [hk0]
    rcases atPt_ok hk with ⟨ep, hk⟩ | ⟨a, ep, hk⟩
    · subst ep
      exact newO_kx (F := fun b => .slice (some ⟨b, 0⟩) k sz) hk
    · subst ep
      obtain ⟨_, hk⟩ := getO_ok hk
      obtain ⟨ro, fz, el', c, e2, hk⟩ := asCells_ok hk
      have hk := iteB_ok hk
      cases ro with
      | true => exact Rs.noConfusion hk
      | false =>
        obtain ⟨e3, hk⟩ := iteE_bad hk
        have hk : iteN fz (a.o + len * sz) (dropX a.o c fun c => takeX (len * sz) c fun c => appX c ys fun c => setO a.b none h fun h => forceB (Bool.and el'.cl (Nat.beq a.o 0)) fun cl => newO (.cells false (fz - a.o) ⟨el, false, cl⟩ c) h fun b h => K (.slice (some ⟨b, 0⟩) (len + k) sz) h) (.bad 32) = .ok := hk
        obtain ⟨h1, hk⟩ := iteN_bad hk
        obtain ⟨h2, hk⟩ := dropX_ok hk
        obtain ⟨h3, hk⟩ := takeX_ok hk
        rw [appX_eq] at hk
        obtain ⟨h', hk, e4⟩ := setO_ok hk
        simp only [List.length_drop] at h3
        rw [forceB_eq] at hk
        have e5 : el' = ⟨el, el'.wh, el'.cl⟩ := by cases el'; simp only at e3; rw [e3]
        have h9 := newO_kx (F := fun b => .slice (some ⟨b, 0⟩) (len + k) sz) hk
        rw [e4] at h9
        exact ⟨fz, el'.wh, el'.cl, c, by rw [e2, ← e5], by omega, h1, h9⟩
theorem call_gives (hcall : CallOk P call) {o : Oper} {f : Operand} {args : List Operand} {ts : List TypeId} (ho : o.op = .call ⟨.value f, ⟨args⟩, ⟨ts⟩⟩) {g : Operand → AV} (hk : call 0 (g f) (argsE ty g args ts) h K = .ok) : HGives P o g h.ah (KX2 K) := by
  obtain ⟨dst, op, type, pos, after, guard⟩ := o
  simp only at ho; subst ho
  refine ⟨(fun c e => by cases e), fun m w ρ s hx => ?_⟩
  have r1 := hx f (by simp [Op.operands, Call.operands])
  have hargs : VsRel m (argsE ty g args ts) (args.map ρ) := argsE_rel _ _ fun y hy => hx y (by simp only [Op.operands, Call.operands]; simp at hy ⊢; exact .inr hy)
  have := hcall.plain _ _ _ _ _ (by decide) hk m w (ρ f) (args.map ρ) s r1 hargs
  have hex : (execOp ρ ⟨dst, .call ⟨.value f, ⟨args⟩, ⟨ts⟩⟩, type, pos, after, guard⟩) = (do let d ← Deferred.ofValue (ρ f) (args.map ρ).toArray; invoke d.target d.args : Sem Next) := by
    simp only [execOp, resolve]
    congr 1
    simp
  rw [hex]
  exact this
end Go.La
/- Layer X, part 10: iterators, made slices; and every instruction that makes or writes. -/
namespace Go.La
open Go Go.RowKit

variable {P : Program} {ty : TT} {la : LT} {call : Caller} {e : EV} {h : XH} {K : KV} {N : Nat}

/-- A new object that is no block of cells. -/
theorem post_obj {m : Mp} {h : AH} {w : World} (s : Sim m h w) {o : AObj} {ob : Obj} (hn : ∀ ro fz el c, o ≠ .cells ro fz el c) (hr : ∀ m', m.le m' → ObjRel m' o ob) {K : AV → AH → Prop} (hk : K (.ptr (some ⟨h.next, 0⟩)) (h.new o)) :
    Post m h w K (.pointer (some ⟨w.heap.size, 0, none⟩)) (w.alloc ob) := by
  have hle : m.le (m.ins h.next ⟨w.heap.size, 0, 0⟩) := Mp.le_ins (s.top h.next (Nat.le_refl _)).2
  obtain ⟨a, b⟩ := s.make (o := o) (ob := ob) (t := ⟨w.heap.size, 0, 0⟩) rfl (fun ro fz el c e => (hn _ _ _ _ e).elim) (fun _ => ⟨rfl, hr _ hle⟩)
  exact ⟨_, _, _, a, b, .ptr ⟨h.next, 0⟩ ⟨w.heap.size, 0, 0⟩ (by simp [Mp.ins]), hk⟩

theorem rngS_gives {o : Oper} {t : TypeId} {x : Operand} (ho : o.op = .range t x) (hu : P.underlying t = some .string) {g : Operand → AV} {h : AH} {s : Str} (hx : g x = .str s) {K : AV → AH → Prop} (hk : K (.ptr (some ⟨h.next, 0⟩)) (h.new (.siter s 0))) : HGives P o g h K := by
  obtain ⟨dst, op, type, pos, after, guard⟩ := o
  simp only at ho; subst ho
  refine ⟨(fun c e => by cases e), fun m w ρ sm hr => ?_⟩
  have r1 := hr x (by simp [Op.operands])
  rw [hx] at r1
  have hrun : (execOp ρ ⟨dst, .range t x, type, pos, after, guard⟩).run P w = .ok (.value (.pointer (some ⟨w.heap.size, 0, none⟩))) (w.alloc (.stringIter ⟨s.toArray⟩ 0)) := by
    generalize hρ : ρ x = xv at *; cases r1
    simp [execOp, hρ, Instr.range, run_underlying hu]
  rw [hrun]
  exact post_obj sm (by simp) (fun m' _ => .siter s 0) hk
theorem rngM_gives {o : Oper} {t kt et : TypeId} {x : Operand} (ho : o.op = .range t x) (hu : P.underlying t = some (.map kt et)) {g : Operand → AV} {h : AH} {r : Option Nat} (hx : g x = .map r) {K : AV → AH → Prop}
    (hk : match r with | none => K (.ptr (some ⟨h.next, 0⟩)) (h.new (.iter none 0 [] 0)) | some b => ∃ es clk, h.get b = some (.map es clk) ∧ K (.ptr (some ⟨h.next, 0⟩)) (h.new (.iter (some b) clk [] clk))) : HGives P o g h K := by
  obtain ⟨dst, op, type, pos, after, guard⟩ := o
  simp only at ho; subst ho
  refine ⟨(fun c e => by cases e), fun m w ρ sm hr => ?_⟩
  have r1 := hr x (by simp [Op.operands])
  rw [hx] at r1
  generalize hρ : ρ x = xv at *
  cases r1 with
  | mnil =>
    have hrun : (execOp ρ ⟨dst, .range t x, type, pos, after, guard⟩).run P w = .ok (.value (.pointer (some ⟨w.heap.size, 0, none⟩))) (w.alloc (.mapIter none 0 #[] 0)) := by
      simp [execOp, hρ, Instr.range, run_underlying hu]
    rw [hrun]
    exact post_obj sm (by simp) (fun m' _ => .iter0 0 [] 0) hk
  | map b sl hm =>
    obtain ⟨es, clk, hb, hk⟩ := hk
    obtain ⟨-, ob, hw, hob⟩ := sm.objs b _ sl hb (by simp) hm
    cases hob with | map _ arr _ her =>
    have hobj : (getObj sl.cb).run P w = .ok (.map arr clk) w := by simp [getObj, Sem.run, hw]
    have hrun : (execOp ρ ⟨dst, .range t x, type, pos, after, guard⟩).run P w = .ok (.value (.pointer (some ⟨w.heap.size, 0, none⟩))) (w.alloc (.mapIter (some sl.cb) clk #[] clk)) := by
      simp [execOp, hρ, Instr.range, run_underlying hu, hobj]
    rw [hrun]
    exact post_obj sm (by simp) (fun m' hle => .iter b sl (hle _ _ hm) clk [] clk) hk
theorem nxtS_gives {o : Oper} {x : Operand} (ho : o.op = .next x true) {g : Operand → AV} {h : AH} {b : Nat} (hx : g x = .ptr (some ⟨b, 0⟩)) {s : Str} {pos : Nat} (hb : h.get b = some (.siter s pos)) {K : AV → AH → Prop}
    (hk : (s.length ≤ pos → K (.tuple [.bool false]) h) ∧ (pos < s.length → ∃ c, s[pos]? = some c ∧ c.toNat < 128 ∧ K (.tuple [.bool true, .int .i64 pos, .int .i32 c.toNat]) (h.set b (some (.siter s (pos + 1)))))) : HGives P o g h K := by
  obtain ⟨dst, op, type, opos, after, guard⟩ := o
  simp only at ho; subst ho
  refine ⟨(fun c e => by cases e), fun m w ρ sm hr => ?_⟩
  have r1 := hr x (by simp [Op.operands])
  rw [hx] at r1
  generalize hρ : ρ x = xv at *
  cases r1 with | ptr _ sl hm =>
  obtain ⟨hco, ob, hw, hob⟩ := sm.objs b _ sl hb (by simp) hm
  cases hob
  have haddr : sl.addr 0 = ⟨sl.cb, 0, none⟩ := by simp [Slot.addr, hco]
  simp only at hρ
  rw [haddr] at hρ
  have hobj : (getObj sl.cb).run P w = .ok (.stringIter ⟨s.toArray⟩ pos) w := by simp [getObj, Sem.run, hw]
  have hsz : (ByteArray.mk s.toArray).size = s.length := by simp [ByteArray.size]
  by_cases hp : pos < s.length
  · obtain ⟨c, hc, hc2, hk⟩ := hk.2 hp
    have hdec : Utf8.decode ⟨s.toArray⟩ pos = (c.toNat, 1) := by
      have hg : (ByteArray.mk s.toArray).get! (pos + 0) = c := by
        simp only [ByteArray.get!, Nat.add_zero]
        have : s.toArray[pos]! = c := by
          rw [getElem!_def]; simp [hc]
        exact this
      unfold Utf8.decode
      simp only [hg]
      rw [if_pos hc2]
    obtain ⟨a1, a2⟩ := sm.setObj (o' := .siter s (pos + 1)) (ob' := .stringIter ⟨s.toArray⟩ (pos + 1)) hb (by simp) hm hw (by simp) (.siter _ _)
    have hset : (Go.setObj sl.cb (.stringIter ⟨s.toArray⟩ (pos + 1))).run P w = .ok () { w with heap := w.heap.setIfInBounds sl.cb (.stringIter ⟨s.toArray⟩ (pos + 1)) } := by simp [Go.setObj, Sem.run, hw]
    have hrun : (execOp ρ ⟨dst, .next x true, type, opos, after, guard⟩).run P w = .ok (.value (.tuple #[.bool true, .int .i64 pos, .int .i32 c.toNat])) { w with heap := w.heap.setIfInBounds sl.cb (.stringIter ⟨s.toArray⟩ (pos + 1)) } := by
      simp [execOp, hρ, Instr.next, hobj, hsz, hp, hdec, hset, goInt]
    rw [hrun]
    exact ⟨m, _, _, a1, a2, .tuple _ _ (.cons _ _ _ _ (.bool _) (.cons _ _ _ _ (.int _ _) (.cons _ _ _ _ (.int _ _) .nil))), hk⟩
  · have hrun : (execOp ρ ⟨dst, .next x true, type, opos, after, guard⟩).run P w = .ok (.value (.tuple #[.bool false])) w := by
      simp [execOp, hρ, Instr.next, hobj, hsz, hp]
    rw [hrun]
    exact ⟨m, h, _, sm, Steps.refl _ _ _, .tuple _ _ (.cons _ _ _ _ (.bool _) .nil), hk.1 (by omega)⟩
theorem nxtM_gives {o : Oper} {x : Operand} (ho : o.op = .next x false) {g : Operand → AV} {h : AH} {b : Nat} (hx : g x = .ptr (some ⟨b, 0⟩)) {r : Option Nat} {since : Nat} {seen : List Nat} {last : Nat} (hb : h.get b = some (.iter r since seen last)) {K : AV → AH → Prop}
    (hk : (r = none ∨ ∃ q clk, r = some q ∧ h.get q = some (.map [] clk)) ∧ K (.tuple [.bool false]) h) : HGives P o g h K := by
  obtain ⟨dst, op, type, opos, after, guard⟩ := o
  simp only at ho; subst ho
  refine ⟨(fun c e => by cases e), fun m w ρ sm hr => ?_⟩
  have r1 := hr x (by simp [Op.operands])
  rw [hx] at r1
  generalize hρ : ρ x = xv at *
  cases r1 with | ptr _ sl hm =>
  obtain ⟨hco, ob, hw, hob⟩ := sm.objs b _ sl hb (by simp) hm
  have haddr : sl.addr 0 = ⟨sl.cb, 0, none⟩ := by simp [Slot.addr, hco]
  simp only at hρ
  rw [haddr] at hρ
  cases hob with
  | iter0 _ _ _ =>
    have hobj : (getObj sl.cb).run P w = .ok (.mapIter none since seen.toArray last) w := by simp [getObj, Sem.run, hw]
    have hrun : (execOp ρ ⟨dst, .next x false, type, opos, after, guard⟩).run P w = .ok (.value (.tuple #[.bool false])) w := by
      simp [execOp, hρ, Instr.next, hobj]
    rw [hrun]
    exact ⟨m, h, _, sm, Steps.refl _ _ _, .tuple _ _ (.cons _ _ _ _ (.bool _) .nil), hk.2⟩
  | iter q s2 hq _ _ _ =>
    rcases hk.1 with e | ⟨q', clk, e, hq2⟩
    · cases e
    · cases e
      obtain ⟨-, ob2, hw2, hob2⟩ := sm.objs q _ s2 hq2 (by simp) hq
      cases hob2 with | map _ arr _ her =>
      have harr : arr = #[] := by
        cases hal : arr.toList with
        | nil => exact Array.toList_eq_nil_iff.1 hal
        | cons a r => rw [hal] at her; exact her.elim
      subst harr
      have hobj : (getObj sl.cb).run P w = .ok (.mapIter (some s2.cb) since seen.toArray last) w := by simp [getObj, Sem.run, hw]
      have hobj2 : (getObj s2.cb).run P w = .ok (.map #[] clk) w := by simp [getObj, Sem.run, hw2]
      have hrun : ∃ w', (execOp ρ ⟨dst, .next x false, type, opos, after, guard⟩).run P w = .ok (.value (.tuple #[.bool false])) w' ∧ (w' = w ∨ w' = w.drew) := by
        simp [execOp, hρ, Instr.next, hobj, hobj2, Question.forced]
      obtain ⟨w', h1, h2⟩ := hrun
      rw [h1]
      rcases h2 with rfl | rfl
      · exact ⟨m, h, _, sm, Steps.refl _ _ _, .tuple _ _ (.cons _ _ _ _ (.bool _) .nil), hk.2⟩
      · exact ⟨m, h, _, sm.drew, Steps.drew, .tuple _ _ (.cons _ _ _ _ (.bool _) .nil), hk.2⟩
theorem mks_gives (T : TabOk P ty) {o : Oper} {t : TypeId} {x y : Operand} (ho : o.op = .makeSlice t x y) {agg agg2 : Bool} {ks0 ks : List K1} {esz el : Nat} {d : TD} (hf : ty.find t = some (.plain agg ks0 (.slice esz el))) (hel : ty.find el = some (.plain agg2 ks d)) (hks : ks.length = esz)
    {g : Operand → AV} {h : AH} {k k' : IntKind} {n : Nat} (hx : g x = .int k n) (hy : g y = .int k' n) (hn : n ≤ 65536) {K : AV → AH → Prop}
    (hk : K (.slice (some ⟨h.next, 0⟩) n esz) (h.new (.cells false 0 ⟨el, false, true⟩ ((List.replicate n (ks.map K1.zero)).flatten)))) : HGives P o g h K := by
  obtain ⟨dst, op, type, pos, after, guard⟩ := o
  simp only at ho; subst ho
  refine ⟨(fun c e => by cases e), fun m w ρ s hr => ?_⟩
  have r1 := hr x (by simp [Op.operands]); have r2 := hr y (by simp [Op.operands])
  rw [hx] at r1; rw [hy] at r2
  obtain ⟨hu, hse, ⟨ie, hie, hisz, hib, hib0⟩, -⟩ := (T.plain hf).slice
  obtain ⟨z, hz1, hz2⟩ := (T.plain hel).zeroRun
  have hzz : ie.zero = some z := by
    have := hz1 w
    cases h0 : ie.zero with
    | none => simp [zeroValue, typeInfo, hie, h0, unsupported] at this
    | some z0 => simp [zeroValue, typeInfo, hie, h0] at this; rw [this]
  have hb : (ie.bytes : Int) * (n : Int) ≤ 281474976710656 := by
    have : ie.bytes * n ≤ 4096 * 65536 := Nat.mul_le_mul hib hn
    have h2 : ((ie.bytes * n : Nat) : Int) ≤ ((4096 * 65536 : Nat) : Int) := Int.ofNat_le.2 this
    simp at h2; omega
  have hrun := run_make (P := P) w t el ie z hu hie hzz k k' (n : Int) (n : Int) (by omega) (Int.le_refl _) hb (by omega)
  have hzl : z.cells.size = esz := by have := (hz2 m).length; simp at this; omega
  have hzero : VsRel m ((List.replicate n (ks.map K1.zero)).flatten) (madeCells z.cells (n * esz)).toList := flatten_zeros m (hz2 m) n esz hks
  obtain ⟨m', a, b, c⟩ := newCells_post (more := []) s 0 ⟨el, false, true⟩ hzero (zerosOne ks n) (Nat.zero_le _) (fun e => by cases e)
  rw [List.append_nil, Array.toArray_toList] at a b
  have hex : (execOp ρ ⟨dst, .makeSlice t x y, type, pos, after, guard⟩).run P w = .ok (.value (.slice (some ⟨w.heap.size, 0, none⟩) n n)) (w.alloc (.cells (madeCells z.cells (n * esz)) el)) := by
    generalize hρx : ρ x = xv at *; generalize hρy : ρ y = yv at *
    cases r1; cases r2
    simp only [execOp, hρx, hρy]
    have := hrun
    simp only [Int.toNat_natCast, hisz] at this
    exact run_v this
  rw [hex]
  refine ⟨m', _, _, a, b, .slice ⟨h.next, 0⟩ n esz _ n _ c (Nat.le_refl _) ?_ (.inr rfl), hk⟩
  simp [size_madeCells]

theorem asSiter_ok {o : Option AObj} {K : Str → Nat → Rs} (h : asSiter o K = .ok) : ∃ s p, o = some (.siter s p) ∧ K s p = .ok := by
  cases o with
  | none => exact Rs.noConfusion h
  | some a => cases a <;> first | exact ⟨_, _, rfl, h⟩ | exact Rs.noConfusion h
theorem asIter_ok {o : Option AObj} {K : Option Nat → Rs} (h : asIter o K = .ok) : ∃ r since seen last, o = some (.iter r since seen last) ∧ K r = .ok := by
  cases o with
  | none => exact Rs.noConfusion h
  | some a => cases a <;> first | exact ⟨_, _, _, _, rfl, h⟩ | exact Rs.noConfusion h
theorem find_str (T : TabOk P ty) {t : TypeId} {d : TD} (hf : ty.find t = some (.plain false [.str] d)) : P.underlying t = some .string := by
  obtain ⟨u, hu, -, hk0, -⟩ := (T.plain hf).desc
  obtain ⟨k0, e0, hk0⟩ := hk0 rfl
  cases e0
  cases u <;> simp [kindOk] at hk0
  exact hu
theorem find_u8 (T : TabOk P ty) {t : TypeId} {d : TD} (hf : ty.find t = some (.plain false [.int .u8] d)) : P.underlying t = some (.int .u8) := by
  obtain ⟨u, hu, -, hk0, -⟩ := (T.plain hf).desc
  obtain ⟨k0, e0, hk0⟩ := hk0 rfl
  cases e0
  cases u <;> simp [kindOk] at hk0
  subst hk0; exact hu
theorem si_heavy (T : TabOk P ty) (hcall : CallOk P call) (o : Oper) (hl : isLight ty o.op = false) (hk : runI (si N ty o.op o.type) la call e h K = .ok) :
    HGives P o (ev (view N e)) h.ah (KX2 K) := by
  obtain ⟨dst, op, type, pos, after, guard⟩ := o
  simp only at hl hk
  cases op with
  | alloc t =>
    refine gives_heavy T ?_
    simp only [si] at hk
    split at hk
    · rename_i agg ks d hf
      simp only [heavyW, hf]
      exact newO_kx (F := fun b => .ptr (some ⟨b, 0⟩)) hk
    · exact Rs.noConfusion hk
  | box t x =>
    refine gives_heavy T ?_
    simp only [si] at hk
    split at hk
    · rename_i agg ks d hf
      simp only [heavyW, hf]
      rcases one1_cases (agg := agg) (ks := ks) (a := .box1 t (sv N x)) (b := fun n => .boxN t n (sv N x)) (z := .boxN t 0 (sv N x)) with ⟨rfl, e1⟩ | ⟨rfl, rfl, e1⟩ | ⟨rfl, e1⟩
      · rw [e1] at hk
        have hk := evX_ok (K := fun x => oneX x (newO (.cells false 0 ⟨t, true, true⟩ [x]) h fun b h => K (.ptr (some ⟨b, 0⟩)) h)) hk
        obtain ⟨h1, hk⟩ := oneX_ok hk
        exact cells1 (T.plain hf).one h1 (newO_kx (F := fun b => .ptr (some ⟨b, 0⟩)) hk)
      · rw [e1] at hk
        have hk := evX_ok (K := fun x => asAgg x fun l => lenX l 0 fun m => iteE m 0 (allOne l (newO (.cells false 0 ⟨t, true, true⟩ l) h fun b h => K (.ptr (some ⟨b, 0⟩)) h)) (.bad 29)) hk
        obtain ⟨l, e2, hk⟩ := asAgg_ok hk
        rw [lenX_eq, Nat.zero_add] at hk
        obtain ⟨e3, hk⟩ := iteE_bad hk
        obtain ⟨h1, hk⟩ := allOne_ok hk
        rw [e2]
        exact cellsN e3 h1 (newO_kx (F := fun b => .ptr (some ⟨b, 0⟩)) hk)
      · rw [e1] at hk
        have hk := evX_ok (K := fun x => asAgg x fun l => lenX l 0 fun m => iteE m ks.length (allOne l (newO (.cells false 0 ⟨t, true, true⟩ l) h fun b h => K (.ptr (some ⟨b, 0⟩)) h)) (.bad 29)) hk
        obtain ⟨l, e2, hk⟩ := asAgg_ok hk
        rw [lenX_eq, Nat.zero_add] at hk
        obtain ⟨e3, hk⟩ := iteE_bad hk
        obtain ⟨h1, hk⟩ := allOne_ok hk
        rw [e2]
        exact cellsN e3 h1 (newO_kx (F := fun b => .ptr (some ⟨b, 0⟩)) hk)
    · exact Rs.noConfusion hk
  | buildSlice t n ps =>
    refine gives_heavy T ?_
    simp only [si] at hk
    split at hk
    · rename_i agg ks0 esz el hf
      split at hk
      · rename_i agg2 ks d2 hel
        split at hk
        · rename_i hc
          split at hk
          · rename_i l hp
            have hk : repX n (zerosOf ks) [] (fun c => fillX l e c fun l => allOne l (newO (.cells false 0 ⟨el, false, true⟩ l) h fun b h => K (.slice (some ⟨b, 0⟩) n esz) h)) = .ok := hk
            rw [repX_eq, List.append_nil] at hk
            obtain ⟨r, h1, h2, hk⟩ := fillX_ok hp hk
            obtain ⟨h3, hk⟩ := allOne_ok hk
            simp only [heavyW, hf, hel, hc, h2, Bool.and_true, cond_true]
            unfold zerosOf at h1
            rw [h1]
            exact oneThen_of h3 (newO_kx (F := fun b => .slice (some ⟨b, 0⟩) n esz) hk)
          · exact Rs.noConfusion hk
        · exact Rs.noConfusion hk
      · exact Rs.noConfusion hk
    · exact Rs.noConfusion hk
  | store t p x =>
    refine gives_heavy T ?_
    simp only [si] at hk
    split at hk
    · rename_i agg ks d hf
      simp only [heavyW, hf]
      rcases one1_cases (agg := agg) (ks := ks) (a := .st1 (sv N p) (sv N x)) (b := fun n => .stN n (sv N p) (sv N x)) (z := .st0 (sv N p) (sv N x)) with ⟨rfl, e1⟩ | ⟨rfl, rfl, e1⟩ | ⟨rfl, e1⟩
      · rw [e1] at hk
        have hk := evX_ok (K := fun p => evX (sv N x) e fun x => asPtr p fun b o => oneX x (wr1 b o x h fun h => K .dead h)) hk
        have hk := evX_ok hk
        obtain ⟨a, e2, hk⟩ := asPtr_ok hk
        obtain ⟨h1, hk⟩ := oneX_ok hk
        obtain ⟨h', hw, hk⟩ := wr1_ok hk
        refine cells1 (T.plain hf).one h1 ?_
        rw [e2]
        simp only [needSome]
        exact ⟨_, hw, h', rfl, hk⟩
      · rw [e1] at hk
        have hk := evX_ok (K := fun p => evX (sv N x) e fun x => asAgg x fun l => lenX l 0 fun m => iteE m 0 (anyX p (K .dead h) fun b o => wrN b o l h fun h => K .dead h) (.bad 26)) hk
        have hk := evX_ok hk
        obtain ⟨l, e2, hk⟩ := asAgg_ok hk
        rw [lenX_eq, Nat.zero_add] at hk
        obtain ⟨e3, hk⟩ := iteE_bad hk
        have hl0 : l = [] := List.length_eq_zero_iff.1 e3
        subst hl0
        rw [e2]
        refine cellsN rfl (by simp) ?_
        rcases anyX_ok hk with ⟨e4, hk⟩ | ⟨a, e4, hk⟩
        · rw [e4]; exact ⟨h, rfl, hk⟩
        · obtain ⟨h', hw, hk⟩ := wrN_ok hk
          rw [e4]
          simp only [needSome]
          exact ⟨_, hw, h', rfl, hk⟩
      · rw [e1] at hk
        have hk := evX_ok (K := fun p => evX (sv N x) e fun x => asPtr p fun b o => asAgg x fun l => lenX l 0 fun m => iteE m ks.length (allOne l (wrN b o l h fun h => K .dead h)) (.bad 26)) hk
        have hk := evX_ok hk
        obtain ⟨a, e2, hk⟩ := asPtr_ok hk
        obtain ⟨l, e3, hk⟩ := asAgg_ok hk
        rw [lenX_eq, Nat.zero_add] at hk
        obtain ⟨e4, hk⟩ := iteE_bad hk
        obtain ⟨h1, hk⟩ := allOne_ok hk
        obtain ⟨h', hw, hk⟩ := wrN_ok hk
        rw [e3]
        refine cellsN e4 h1 ?_
        rw [e2]
        simp only [needSome]
        exact ⟨_, hw, h', rfl, hk⟩
    · exact Rs.noConfusion hk
  | mapUpdate t x k v => exact gives_heavy T (mapUpX_ok hk)
  | insert t x k v => exact gives_heavy T (mapUpX_ok hk)
  | mapEntry t x k =>
    refine gives_heavy T ?_
    simp only [si, keyI] at hk
    simp only [heavyW, mapEntryW]
    split at hk
    · rename_i agg ks kt et hf
      split at hk
      · rename_i kagg kks eagg eks ed h1 h2
        simp only [hf, h1, h2]
        have hk := evX_ok (K := fun m => evX (sv N k) e fun k => fitKX kagg kks k (withMap m h fun b es clk => allKX kagg kks es (
          findX k es (appM es [(k, mkv eagg (eks.map K1.zero), clk)] fun es => natK (Nat.succ clk) fun clk1 => setO b (some (.map es clk1)) h fun h => K (.tuple [mkv eagg (eks.map K1.zero), .int .i64 (.ofNat clk)]) h) fun v n => updM k v es fun es => setO b (some (.map es clk)) h fun h => K (.tuple [v, .int .i64 (.ofNat n)]) h))) hk
        have hk := evX_ok hk
        obtain ⟨hfk, hk⟩ := fitKX_ok hk
        obtain ⟨b, es, clk, e1, e2, hk⟩ := withMap_ok hk
        obtain ⟨hak, hk⟩ := allKX_ok hk
        simp only [hfk, cond_true, e1]
        refine ⟨es, clk, e2, hak, ?_⟩
        rcases findX_ok hfk 0 hak hk with ⟨g1, g2⟩ | ⟨j, v', n, g1, g3, g2⟩
        · rw [g1]
          rw [appM_eq] at g2
          exact setO_kx g2
        · rw [g1]
          have := updM_ok hfk hak g2
          simp only [g3]
          exact setO_kx this
      · exact Rs.noConfusion hk
    · exact Rs.noConfusion hk
  | entryStore t x s v =>
    refine gives_heavy T ?_
    have hk := evX_ok (K := fun m => evX (sv N s) e fun s => evX (sv N v) e fun x => withMap m h fun b es clk => asInt s fun _ s => natI s fun s => stoM s x es fun es => setO b (some (.map es clk)) h fun h => K .dead h) hk
    have hk := evX_ok hk
    have hk := evX_ok hk
    obtain ⟨b, es, clk, e1, e2, hk⟩ := withMap_ok hk
    obtain ⟨k, n, e3, hk⟩ := asInt_ok hk
    obtain ⟨h0, hk⟩ := natI_ok hk
    obtain ⟨q, h1, hk⟩ := stoM_ok hk
    simp only [heavyW, entryStoreW, e1, e3]
    exact ⟨h0, es, clk, q, e2, h1, setO_kx hk⟩
  | makeMap t r =>
    refine gives_heavy T ?_
    cases r with
    | none => exact newO_kx (F := fun b => .map (some b)) hk
    | some r => exact Rs.noConfusion hk
  | convert s d x =>
    refine gives_heavy T ?_
    have hk : runI (sconv N ty s d x) la call e h K = .ok := hk
    unfold sconv at hk
    split at hk
    · rename_i h1 h2; simp [isLight, h2] at hl
    · rename_i h1 h2; simp [isLight, h2] at hl
    · rename_i h1 h2; simp [isLight, h2] at hl
    · rename_i d1 ks2 el hs hd
      split at hk
      · rename_i d3 hel
        have hk := evX_ok (K := fun x => asStr x fun s => ofStr s fun l => lenX l 0 fun n => newO (.cells false 0 ⟨el, false, false⟩ l) h fun b h => K (.slice (some ⟨b, 0⟩) n 1) h) hk
        obtain ⟨sb, e1, hk⟩ := asStr_ok hk
        rw [ofStr_eq, lenX_eq, Nat.zero_add, List.length_map] at hk
        simp only [heavyW, hs, hd, e1, find_u8 T hel]
        exact newO_kx (F := fun b => .slice (some ⟨b, 0⟩) sb.length 1) hk
      · exact Rs.noConfusion hk
    · rename_i h1 h2; simp [isLight, h2] at hl
    · rename_i h1 h2; simp [isLight, h2] at hl
    · exact Rs.noConfusion hk
  | range t x =>
    simp only [si] at hk
    split at hk
    · rename_i d hf
      have hk := evX_ok (K := fun x => asStr x fun s => newO (.siter s 0) h fun b h => K (.ptr (some ⟨b, 0⟩)) h) hk
      obtain ⟨s, e1, hk⟩ := asStr_ok hk
      exact rngS_gives rfl (find_str T hf) e1 (newO_kx (F := fun b => .ptr (some ⟨b, 0⟩)) hk)
    · rename_i agg ks kt et _ hf
      have hk := evX_ok (K := fun x => asMap x fun m => Option.rec (motive := fun _ => XH → KV → Rs) (fun h K => newO (.iter none 0 [] 0) h fun b h => K (.ptr (some ⟨b, 0⟩)) h)
        (fun m h K => getO m h fun o => asMapO o fun _ clk => newO (.iter (some m) clk [] clk) h fun b h => K (.ptr (some ⟨b, 0⟩)) h) m h K) hk
      obtain ⟨r, e1, hk⟩ := asMap_ok hk
      refine rngM_gives rfl (T.mapTy hf) e1 ?_
      cases r with
      | none => exact newO_kx (F := fun b => .ptr (some ⟨b, 0⟩)) hk
      | some b =>
        obtain ⟨_, hk⟩ := getO_ok hk
        obtain ⟨es, clk, e2, hk⟩ := asMapO_ok hk
        exact ⟨es, clk, e2, newO_kx (F := fun b => .ptr (some ⟨b, 0⟩)) hk⟩
    · exact Rs.noConfusion hk
  | next x s =>
    cases s with
    | true =>
      have hk := evX_ok (K := fun x => asPtr x fun b o => iteE o 0 (getO b h fun o => asSiter o fun s pos => lenS s 0 fun n => iteN n pos (K (.tuple [.bool false]) h)
        (dropS pos s fun l => List.rec (motive := fun _ => Rs) (.bad 74) (fun c _ _ => natK (UInt8.toNat c) fun c => iteN c 127 (natK (Nat.succ pos) fun p => setO b (some (.siter s p)) h fun h => K (.tuple [.bool true, .int .i64 (.ofNat pos), .int .i32 (.ofNat c)]) h) (.bad 75)) l)) (.bad 76)) hk
      obtain ⟨a, e1, hk⟩ := asPtr_ok hk
      obtain ⟨e2, hk⟩ := iteE_bad hk
      obtain ⟨_, hk⟩ := getO_ok hk
      obtain ⟨s, p, e3, hk⟩ := asSiter_ok hk
      rw [lenS_eq, Nat.zero_add] at hk
      have ea : a = ⟨a.b, 0⟩ := by cases a; simp_all
      rw [ea] at e1
      refine nxtS_gives rfl e1 e3 ?_
      rcases iteN_ok hk with ⟨h1, hk⟩ | ⟨h1, hk⟩
      · exact ⟨fun _ => ⟨h, rfl, hk⟩, fun h2 => by omega⟩
      · refine ⟨fun h2 => by omega, fun _ => ?_⟩
        obtain ⟨_, hk⟩ := dropS_ok hk
        cases hd : s.drop p with
        | nil => rw [hd] at hk; exact Rs.noConfusion hk
        | cons c r =>
          rw [hd] at hk
          have hk : iteN c.toNat 127 (setO a.b (some (.siter s (p + 1))) h fun h => K (.tuple [.bool true, .int .i64 (.ofNat p), .int .i32 (.ofNat c.toNat)]) h) (.bad 75) = .ok := hk
          obtain ⟨h2, hk⟩ := iteN_bad hk
          have hc : s[p]? = some c := by
            have : (s.drop p)[0]? = some c := by rw [hd]; rfl
            simpa using this
          exact ⟨c, hc, by omega, setO_kx hk⟩
    | false =>
      have hk := evX_ok (K := fun x => asPtr x fun b o => iteE o 0 (getO b h fun o => asIter o fun r => Option.rec (motive := fun _ => XH → KV → Rs) (fun h K => K (.tuple [.bool false]) h)
        (fun m h K => getO m h fun o => asMapO o fun es _ => List.rec (motive := fun _ => XH → KV → Rs) (fun h K => K (.tuple [.bool false]) h) (fun _ _ _ _ _ => .bad 77) es h K) r h K) (.bad 76)) hk
      obtain ⟨a, e1, hk⟩ := asPtr_ok hk
      obtain ⟨e2, hk⟩ := iteE_bad hk
      obtain ⟨_, hk⟩ := getO_ok hk
      obtain ⟨r, since, seen, last, e3, hk⟩ := asIter_ok hk
      have ea : a = ⟨a.b, 0⟩ := by cases a; simp_all
      rw [ea] at e1
      refine nxtM_gives rfl e1 e3 ?_
      cases r with
      | none => exact ⟨.inl rfl, h, rfl, hk⟩
      | some m =>
        obtain ⟨_, hk⟩ := getO_ok hk
        obtain ⟨es, clk, e4, hk⟩ := asMapO_ok hk
        cases es with
        | nil => exact ⟨.inr ⟨m, clk, rfl, e4⟩, h, rfl, hk⟩
        | cons x r => exact Rs.noConfusion hk
  | makeSlice t x y =>
    simp only [si] at hk
    split at hk
    · rename_i agg ks0 esz el hf
      split at hk
      · rename_i agg2 ks d hel
        split at hk
        · rename_i hc
          have hks : ks.length = esz := Nat.eq_of_beq_eq_true hc
          have hk := evX_ok (K := fun n => evX (sv N y) e fun m => asInt n fun _ n => natI n fun n => asInt m fun _ m => natI m fun m => iteE n m (iteN n 65536 (repX n (zerosOf ks) [] fun c => newO (.cells false 0 ⟨el, false, true⟩ c) h fun b h => K (.slice (some ⟨b, 0⟩) n esz) h) (.bad 78)) (.bad 79)) hk
          have hk := evX_ok hk
          obtain ⟨k, n, e1, hk⟩ := asInt_ok hk
          obtain ⟨h0, hk⟩ := natI_ok hk
          obtain ⟨k', n', e2, hk⟩ := asInt_ok hk
          obtain ⟨h0', hk⟩ := natI_ok hk
          obtain ⟨e3, hk⟩ := iteE_bad hk
          obtain ⟨h1, hk⟩ := iteN_bad hk
          rw [repX_eq, List.append_nil] at hk
          have en : n = (n.toNat : Int) := (Int.toNat_of_nonneg h0).symm
          have en' : n' = (n.toNat : Int) := by rw [e3]; exact (Int.toNat_of_nonneg h0').symm
          rw [en] at e1
          rw [en'] at e2
          exact mks_gives T rfl hf hel hks e1 e2 h1 (newO_kx (F := fun b => .slice (some ⟨b, 0⟩) n.toNat esz) hk)
        · exact Rs.noConfusion hk
      · exact Rs.noConfusion hk
    · exact Rs.noConfusion hk
  | call c =>
    obtain ⟨callee, ⟨args⟩, ⟨argTypes⟩⟩ := c
    replace hk : runI (scall N ty ⟨callee, ⟨args⟩, ⟨argTypes⟩⟩) la call e h K = .ok := hk
    cases callee with
    | value f =>
      have hk := evX_ok (K := fun f => evsX (svs N ty args argTypes) e fun l => call 0 f l h K) hk
      have hk := evs_args hk
      exact call_gives hcall rfl hk
    | invoke r m => exact Rs.noConfusion hk
    | builtin b =>
      refine gives_heavy T ?_
      unfold scall at hk
      simp only at hk
      split at hk
      · simp [isLight] at hl
      · simp [isLight] at hl
      · simp [isLight] at hl
      · simp [isLight] at hl
      · rename_i x y t t2
        simp only [heavyW]
        split at hk
        · rename_i ks esz el hf
          split at hk
          · rename_i s2 d2 hf2
            simp only [noInt, hf2, cond_true, appendW, hf]
            have hk := evX_ok (K := fun x => evX (sv N y) e fun y => asSlice x fun p len sz => asSlice y fun q k sz' => iteE esz sz (iteE sz sz' (atPt q (iteE k 0 (appTX el p len sz k [] h K) (.bad 34)) fun b o => natK (Nat.mul k sz) fun ks => rdN b o ks h fun ys => appTX el p len sz k ys h K) (.bad 34)) (.bad 34)) hk
            have hk := evX_ok hk
            obtain ⟨p, len, sz, e1, hk⟩ := asSlice_ok hk
            obtain ⟨q, k, sz', e2, hk⟩ := asSlice_ok hk
            obtain ⟨e3, hk⟩ := iteE_bad hk
            obtain ⟨e4, hk⟩ := iteE_bad hk
            simp only [e1, e2, e3, ← e4, Nat.beq_refl, Bool.and_self, cond_true]
            rcases atPt_ok hk with ⟨eq, hk⟩ | ⟨a, eq, hk⟩
            · obtain ⟨ek, hk⟩ := iteE_bad hk
              rw [eq, ek]
              refine ⟨[], ⟨by simp, rfl⟩, ?_⟩
              have := appTX_ok hk
              rw [ek] at this; exact this
            · have hk : rdN a.b a.o (k * sz) h (fun ys => appTX el p len sz k ys h K) = .ok := hk
              obtain ⟨ys, hr, hk⟩ := rdN_ok hk
              rw [eq]
              exact ⟨ys, hr, appTX_ok hk⟩
          · rename_i d2 hf2
            simp only [noInt, hf2, cond_true, appendW, hf]
            split at hk
            · have hk := evX_ok (K := fun x => evX (sv N y) e fun y => asSlice x fun p len sz => asStr y fun s => iteE sz 1 (ofStr s fun ys => lenS s 0 fun k => appTX el p len sz k ys h K) (.bad 34)) hk
              have hk := evX_ok hk
              obtain ⟨p, len, sz, e1, hk⟩ := asSlice_ok hk
              obtain ⟨s, e2, hk⟩ := asStr_ok hk
              obtain ⟨e3, hk⟩ := iteE_bad hk
              rw [ofStr_eq, lenS_eq, Nat.zero_add] at hk
              simp only [e1, e2, e3, Nat.beq_refl, Bool.and_self, cond_true]
              rw [e3] at hk
              exact appTX_ok hk
            · exact Rs.noConfusion hk
          · rename_i k2 d2 hf2
            simp only [noInt, hf2, cond_false, appendZ, hf]
            split at hk
            · rename_i agg3 ks3 d3 hel
              split at hk
              · rename_i hc
                have hk := evX_ok (K := fun x => evX (sv N y) e fun y => asSlice x fun p _ _ => asInt y fun _ k => natI k fun k => nonePt p (iteN 1 k (iteN (Nat.succ k) 4294967296 (repX k (zerosOf ks3) [] fun ys => newO (.cells false 0 ⟨el, false, true⟩ ys) h fun b h => K (.slice (some ⟨b, 0⟩) k esz) h) (.bad 33)) (.bad 33))) hk
                have hk := evX_ok hk
                obtain ⟨p, len, sz, e1, hk⟩ := asSlice_ok hk
                obtain ⟨k, n, e2, hk⟩ := asInt_ok hk
                obtain ⟨h0, hk⟩ := natI_ok hk
                obtain ⟨e3, hk⟩ := nonePt_ok hk
                obtain ⟨h1, hk⟩ := iteN_bad hk
                obtain ⟨h2, hk⟩ := iteN_bad hk
                rw [repX_eq, List.append_nil] at hk
                simp only [e1, e2, e3, hel, hc, cond_true]
                exact ⟨by omega, by omega, newO_kx (F := fun b => .slice (some ⟨b, 0⟩) n.toNat esz) hk⟩
              · exact Rs.noConfusion hk
            · exact Rs.noConfusion hk
          · exact Rs.noConfusion hk
        · exact Rs.noConfusion hk
      · rename_i m k t t2
        simp only [heavyW, deleteW]
        unfold keyI at hk
        split at hk
        · rename_i agg ks kt et hf
          split at hk
          · rename_i kagg kks eagg eks ed h1 h2
            simp only [hf, h1]
            have hk := evX_ok (K := fun m => evX (sv N k) e fun k => fitKX kagg kks k (withMap m h fun b es clk => allKX kagg kks es (delM k es fun es => setO b (some (.map es clk)) h fun h => K (.tuple []) h))) hk
            have hk := evX_ok hk
            obtain ⟨hfk, hk⟩ := fitKX_ok hk
            obtain ⟨b, es, clk, e1, e2, hk⟩ := withMap_ok hk
            obtain ⟨hak, hk⟩ := allKX_ok hk
            simp only [hfk, cond_true, e1]
            exact ⟨es, clk, e2, hak, setO_kx (delM_ok hfk hak hk)⟩
          · exact Rs.noConfusion hk
        · exact Rs.noConfusion hk
      · rename_i x t
        simp only [heavyW, clearW]
        split at hk
        · rename_i ks esz el hf
          split at hk
          · rename_i agg2 ks2 d2 hel
            split at hk
            · rename_i hc
              have hk := evX_ok (K := fun x => asSlice x fun p n sz => atPt p (K (.tuple []) h) fun b o => iteE esz sz (iteE n 0 (K (.tuple []) h) (repX n (zerosOf ks2) [] fun ys => wrN b o ys h fun h => K (.tuple []) h)) (.bad 34)) hk
              obtain ⟨p, n, sz, e1, hk⟩ := asSlice_ok hk
              rcases atPt_ok hk with ⟨e2, hk⟩ | ⟨a, e2, hk⟩
              · simp only [hf, e1, e2]; exact ⟨h, rfl, hk⟩
              · obtain ⟨e3, hk⟩ := iteE_bad hk
                simp only [hf, e1, e2, hel, hc, e3, Nat.beq_refl, Bool.and_self, cond_true]
                rw [e3] at hc
                simp only [hc, cond_true]
                rcases iteE_ok hk with ⟨e4, hk⟩ | ⟨e4, hk⟩
                · exact ⟨fun _ => ⟨h, rfl, hk⟩, fun h5 => by omega⟩
                · rw [repX_eq, List.append_nil] at hk
                  obtain ⟨h', hw, hk⟩ := wrN_ok hk
                  exact ⟨fun h5 => (e4 h5).elim, fun _ => ⟨_, hw, h', rfl, hk⟩⟩
            · exact Rs.noConfusion hk
          · exact Rs.noConfusion hk
        · exact Rs.noConfusion hk
      · simp [isLight] at hl
      · rename_i p n t t2
        simp only [heavyW, ustW]
        split at hk
        · rename_i u hf
          split at hk
          · rename_i d hu
            have hk := evX_ok (K := fun p => evX (sv N n) e fun n => asInt n fun _ n => natI n fun n => iteN n 9223372036854775807 (iteE n 0 (asPtrO p fun _ => K (.str []) h) (asPtr p fun b o => getO b h fun x => asCells x fun ro fz el c => iteB ro (.bad 146) (iteB el.cl (iteE el.t u (dropX o c fun l => takeX n l fun l => toStr l fun s => natK (Nat.add o n) fun m => natK (Bool.rec (motive := fun _ => Nat) m fz (Nat.ble m fz)) fun fz => setO b (some (.cells false fz el c)) h fun h => K (.str s) h) (.bad 146)) (.bad 146)))) (.bad 146)) hk
            have hk := evX_ok hk
            obtain ⟨k, nn, e1, hk⟩ := asInt_ok hk
            obtain ⟨h0, hk⟩ := natI_ok hk
            obtain ⟨h1, hk⟩ := iteN_bad hk
            simp only [hf, e1, hu]
            refine ⟨h0, by omega, fun hz => ?_, fun hz => ?_⟩
            · rcases iteE_ok hk with ⟨_, hk⟩ | ⟨e2, _⟩
              · obtain ⟨q, e3, hk⟩ := asPtrO_ok hk
                exact ⟨⟨q, e3⟩, h, rfl, hk⟩
              · exact (e2 (by rw [hz]; rfl)).elim
            · rcases iteE_ok hk with ⟨e2, _⟩ | ⟨_, hk⟩
              · omega
              · obtain ⟨a, e3, hk⟩ := asPtr_ok hk
                obtain ⟨_, hk⟩ := getO_ok hk
                obtain ⟨ro, fz, el, c, e4, hk⟩ := asCells_ok hk
                have hk := iteB_ok hk
                cases ro with
                | true => exact Rs.noConfusion hk
                | false =>
                  have hk := iteB_ok (b := el.cl) hk
                  cases hcl : el.cl with
                  | false => rw [hcl] at hk; exact Rs.noConfusion hk
                  | true =>
                    rw [hcl] at hk
                    obtain ⟨e5, hk⟩ := iteE_bad hk
                    obtain ⟨h2, hk⟩ := dropX_ok hk
                    obtain ⟨h3, hk⟩ := takeX_ok hk
                    obtain ⟨s, e6, hk⟩ := toStr_ok hk
                    simp only [List.length_drop] at h3
                    rw [e3]
                    refine ⟨fz, el, c, s, e4, hcl, e5, by omega, e6, ?_⟩
                    have hm : Bool.rec (motive := fun _ => Nat) (a.o + nn.toNat) fz (Nat.ble (a.o + nn.toNat) fz) = max fz (a.o + nn.toNat) := by
                      cases hb : Nat.ble (a.o + nn.toNat) fz with
                      | true => have := Nat.le_of_ble_eq_true hb; simp only; omega
                      | false =>
                        have : ¬ a.o + nn.toNat ≤ fz := fun hle => by rw [Nat.ble_eq_true_of_le hle] at hb; cases hb
                        simp only; omega
                    have hk : setO a.b (some (.cells false (Bool.rec (motive := fun _ => Nat) (a.o + nn.toNat) fz (Nat.ble (a.o + nn.toNat) fz)) el c)) h (fun h => K (.str s) h) = .ok := hk
                    rw [hm] at hk
                    exact setO_kx hk
          · exact Rs.noConfusion hk
        · exact Rs.noConfusion hk
      · exact Rs.noConfusion hk
  | unOp op t x => simp [isLight] at hl
  | slice t x lo hi mx => simp [isLight] at hl
  | _ => first | exact Rs.noConfusion hk | (simp [isLight] at hl)
end Go.La
/- Layer X, part 11: regions are sound. -/
namespace Go.La
open Go Go.RowKit

variable {P : Program} {ty : TT} {la : LT} {call : Caller} {N : Nat}

theorem eqPt_ok {p q : Option Pt} {R : Rs} (h : eqPt p q R = .ok) : p = q ∧ R = .ok := by
  cases p with
  | none => cases q with
    | none => exact ⟨rfl, h⟩
    | some b => exact Rs.noConfusion h
  | some a => cases q with
    | none => exact Rs.noConfusion h
    | some b =>
      obtain ⟨e1, h⟩ := iteE_bad (show iteE a.b b.b (iteE a.o b.o R (.bad 150)) (.bad 150) = .ok from h)
      obtain ⟨e2, h⟩ := iteE_bad h
      exact ⟨by cases a; cases b; simp_all, h⟩
theorem eqON_ok {p q : Option Nat} {R : Rs} (h : eqON p q R = .ok) : p = q ∧ R = .ok := by
  cases p with
  | none => cases q with
    | none => exact ⟨rfl, h⟩
    | some b => exact Rs.noConfusion h
  | some a => cases q with
    | none => exact Rs.noConfusion h
    | some b =>
      obtain ⟨e1, h⟩ := iteE_bad (show iteE a b R (.bad 150) = .ok from h)
      exact ⟨by rw [e1], h⟩
mutual
theorem eqAV_ok : ∀ (v w : AV) (R : Rs), eqAV v w R = .ok → v = w ∧ R = .ok
  | .bool b, w, R, h => by
    obtain ⟨c, rfl, h⟩ := asBool_ok (k0 := Bool.rec (motive := fun _ => Rs) (.bad 151) R b) (k1 := Bool.rec (motive := fun _ => Rs) R (.bad 151) b) h
    cases b <;> cases c <;> first | exact ⟨rfl, h⟩ | exact Rs.noConfusion h
  | .int k n, w, R, h => by
    obtain ⟨k', n', e1, h⟩ := asInt_ok (k0 := fun k' n' => iteE (kindN k) (kindN k') (iteB (eqI n n') R (.bad 151)) (.bad 151)) h
    obtain ⟨e2, h⟩ := iteE_bad h
    have h := iteB_ok h
    rw [eqI_eq] at h
    cases hq : n == n' with
    | false => rw [hq] at h; exact Rs.noConfusion h
    | true => rw [hq] at h; exact ⟨by rw [e1, kindN_inj e2, eq_of_beq hq], h⟩
  | .str s, w, R, h => by
    obtain ⟨t, e1, h⟩ := asStr_ok (k0 := fun t => iteB (eqS s t) R (.bad 151)) h
    have h := iteB_ok h
    rw [eqS_eq] at h
    cases hq : s == t with
    | false => rw [hq] at h; exact Rs.noConfusion h
    | true => rw [hq] at h; exact ⟨by rw [e1, eq_of_beq hq], h⟩
  | .ptr p, w, R, h => by
    obtain ⟨q, e1, h⟩ := asPtrO_ok (k0 := fun q => eqPt p q R) h
    obtain ⟨e2, h⟩ := eqPt_ok h
    exact ⟨by rw [e1, e2], h⟩
  | .slice p n sz, w, R, h => by
    obtain ⟨q, n', sz', e1, h⟩ := asSlice_ok (k0 := fun p' n' sz' => iteE n n' (iteE sz sz' (eqPt p p' R) (.bad 151)) (.bad 151)) h
    obtain ⟨e2, h⟩ := iteE_bad h
    obtain ⟨e3, h⟩ := iteE_bad h
    obtain ⟨e4, h⟩ := eqPt_ok h
    exact ⟨by rw [e1, e2, e3, e4], h⟩
  | .map r, w, R, h => by
    obtain ⟨q, e1, h⟩ := asMap_ok (k0 := fun q => eqON r q R) h
    obtain ⟨e2, h⟩ := eqON_ok h
    exact ⟨by rw [e1, e2], h⟩
  | .agg l, w, R, h => by
    obtain ⟨m, e1, h⟩ := asAgg_ok (k0 := fun m => eqAV (.agg l) (.agg m) R) h
    obtain ⟨e2, h⟩ := eqAVs_ok l m R h
    exact ⟨by rw [e1, e2], h⟩
  | .tuple l, w, R, h => by
    obtain ⟨m, e1, h⟩ := asTup_ok (k0 := fun m => eqAV (.agg l) (.agg m) R) h
    obtain ⟨e2, h⟩ := eqAVs_ok l m R h
    exact ⟨by rw [e1, e2], h⟩
  | .anyptr, _, _, h => Rs.noConfusion h
  | .func _ _ _, _, _, h => Rs.noConfusion h
  | .nilFunc, _, _, h => Rs.noConfusion h
  | .iface _ _, _, _, h => Rs.noConfusion h
  | .nilIface, _, _, h => Rs.noConfusion h
  | .dead, _, _, h => Rs.noConfusion h
theorem eqAVs_ok : ∀ (l m : List AV) (R : Rs), eqAV (.agg l) (.agg m) R = .ok → l = m ∧ R = .ok
  | [], [], _, h => ⟨rfl, h⟩
  | [], _ :: _, _, h => Rs.noConfusion h
  | _ :: _, [], _, h => Rs.noConfusion h
  | a :: l, b :: m, R, h => by
    obtain ⟨e1, h⟩ := eqAV_ok a b _ (show eqAV a b (eqAV (.agg l) (.agg m) R) = .ok from h)
    obtain ⟨e2, h⟩ := eqAVs_ok l m R h
    exact ⟨by rw [e1, e2], h⟩
end

/-! ### One operation, with its guard -/
theorem view_get' {e : EV} {d : Nat} (hd : d < N) : (view N e)[d]? = some (eget e d) := view_get hd
theorem guard_ok {all : List Oper} {o : Oper} {e : EV} {j : Nat} {want : Bool} (hg : o.guard = some (j, want)) {d : Tmp} (hd : (all[j]?).bind (·.dst) = some d) {y n : Rs} (hk : evX (sv N (.tmp d)) e (fun b => guardX b want y n) = .ok)
    {yes no : List AV → Prop} (hy : y = .ok → yes (view N e)) (hn : n = .ok → no (view N e)) : guardW all o (view N e) yes no := by
  unfold guardW
  have hs : guardSlot all j = some d := hd
  rw [hg]
  simp only [hs]
  rw [sv_tmp] at hk
  by_cases hdN : d < N
  · rw [if_pos hdN] at hk
    obtain ⟨_, _, hk⟩ := evX_tmp hk
    have hv : (view N e)[d]? = some (eget e d) := view_get hdN
    have hk : guardX (eget e d) want y n = .ok := hk
    rcases guardX_ok hk with ⟨b, e1, hk⟩ | ⟨e1, hk⟩
    · rw [hv, e1]
      have hset : ∀ c, c = b → (view N e).set d (.bool c) = view N e := fun c hc => set_same (by rw [hv, e1, hc])
      cases b <;> cases want <;> simp only [cond_true, cond_false] <;> rw [hset _ rfl] <;> first | exact hy hk | exact hn hk
    · rw [hv, e1]; exact hn hk
  · rw [if_neg hdN] at hk
    exact ((evX_tmp hk).1 rfl).elim

/-- What the slots say, and that they hold the activation's marks. -/
def After (N : Nat) (e0 : EV) (K : KE) (t : List AV) (h' : AH) : Prop := ∃ e' hx, t = view N e' ∧ h' = XH.ah hx ∧ eget e' 255 = eget e0 255 ∧ K e' hx = .ok

inductive Facts (P : Program) (ty : TT) (N : Nat) (ops : List Oper) : List XFact → List (Nat × (AH → Prop)) → Prop
  | nil : Facts P ty N ops [] []
  | cons {fs reads} (j : Nat) (o : Oper) (e : EV) (v : AV) (ho : ops[j]? = some o) (hl : isLight ty o.op = true) (h : Facts P ty N ops fs reads) :
      Facts P ty N ops (.mk (2 ^ j) (si N ty o.op o.type) e v :: fs) ((j, fun h' => LOk P o (ev (view N e)) h' v) :: reads)
theorem land_pow (mask j : Nat) : (Nat.land mask (2 ^ j) = 0) ↔ mask.testBit j = false := by
  constructor
  · intro h
    cases hb : mask.testBit j with
    | false => rfl
    | true =>
      have : (Nat.land mask (2 ^ j)).testBit j = true := by
        show (mask &&& 2 ^ j).testBit j = true
        rw [Nat.testBit_and, hb, Nat.testBit_two_pow_self]; rfl
      rw [h] at this; simp at this
  · intro h
    apply Nat.eq_of_testBit_eq
    intro i
    show (mask &&& 2 ^ j).testBit i = (0 : Nat).testBit i
    rw [Nat.testBit_and, Nat.zero_testBit, Nat.testBit_two_pow]
    by_cases hij : j = i
    · subst hij; rw [h]; rfl
    · simp [hij]
theorem chkF_ok (T : TabOk P ty) (hla : ∀ a n o t, la a n o t = true → liesAt P P.depth a (n / P.cellsOf a) o t 1 = true) {ops : List Oper} {mask : Nat} {h : XH} {Kp : Prop} : ∀ {fs : List XFact} {reads : List (Nat × (AH → Prop))} {R : Rs}, Facts P ty N ops fs reads →
    chkF fs la call mask h R = .ok → (R = .ok → Kp) → reloads reads mask h.ah Kp
  | _, _, _, .nil, h, hr => hr h
  | _, _, R, .cons j o e v ho hl hfs, hk, hr => by
    rename_i fs reads
    have hk : iteE (Nat.land mask (2 ^ j)) 0 (runI (si N ty o.op o.type) la call e h fun w _ => eqAV v w (chkF fs la call mask h R)) (chkF fs la call mask h R) = .ok := hk
    simp only [reloads]
    rcases iteE_ok hk with ⟨e1, hk⟩ | ⟨e1, hk⟩
    · rw [(land_pow mask j).1 e1]
      obtain ⟨w, re, h1, h2, h3⟩ := si_light (P := P) (K := fun w _ => eqAV v w (chkF fs la call mask h R)) T hla o hl hk
      obtain ⟨hvw, h4⟩ := eqAV_ok _ _ _ h1
      exact ⟨by rw [hvw]; exact h3 _ h2, chkF_ok T hla hfs h4 hr⟩
    · have : mask.testBit j = true := by
        cases hb : mask.testBit j with
        | true => rfl
        | false => exact (e1 ((land_pow mask j).2 hb)).elim
      rw [this]
      exact chkF_ok T hla hfs hk hr

inductive PkRel : Option XPk → Option Pk → Prop
  | none : PkRel .none .none
  | some (x : Pk) : PkRel (.some (.mk (2 ^ x.p) x.b x.obj)) (.some x)
theorem matX_ok {pk : Option XPk} {pk' : Option Pk} (hp : PkRel pk pk') {mask : Nat} {h : XH} {K : Option XPk → XH → Rs} (hk : matX pk mask h K = .ok) :
    ∃ pk2 h2, K pk2 h2 = .ok ∧ PkRel pk2 (restP pk' mask) ∧ h2.ah = matP pk' mask h.ah := by
  cases hp with
  | none => exact ⟨_, _, hk, .none, rfl⟩
  | some x =>
    have hk : iteE (Nat.land mask (2 ^ x.p)) 0 (K (some (.mk (2 ^ x.p) x.b x.obj)) h) (setO x.b (some x.obj) h fun h => K none h) = .ok := hk
    rcases iteE_ok hk with ⟨e1, hk⟩ | ⟨e1, hk⟩
    · have := (land_pow mask x.p).1 e1
      exact ⟨_, _, hk, by simp only [restP, this, cond_false]; exact .some x, by simp only [matP, this, cond_false]⟩
    · have : mask.testBit x.p = true := by
        cases hb : mask.testBit x.p with
        | true => rfl
        | false => exact (e1 ((land_pow mask x.p).2 hb)).elim
      obtain ⟨h', hk, e2⟩ := setO_ok hk
      exact ⟨_, _, hk, by simp only [restP, this, cond_true]; exact .none, by simp only [matP, this, cond_true]; exact e2⟩

theorem so_none {all : List Oper} {o : Oper} (hg : o.guard = none) (hd : ∀ c, o.op ≠ .defer c) : so N ty all o = .u (sdo N o.dst) (si N ty o.op o.type) := by
  obtain ⟨dst, op, type, pos, after, guard⟩ := o
  simp only at hg hd
  subst hg
  cases op <;> first | rfl | exact (hd _ rfl).elim
theorem so_some {all : List Oper} {o : Oper} {j : Nat} {w : Bool} {d : Tmp} (hg : o.guard = some (j, w)) (hd : (all[j]?).bind (·.dst) = some d) : so N ty all o = .g (sv N (.tmp d)) w (sdo N o.dst) (si N ty o.op o.type) := by
  unfold so
  rw [hg]
  simp only [hd]
theorem so_bad {all : List Oper} {o : Oper} {j : Nat} {w : Bool} (hg : o.guard = some (j, w)) (hd : (all[j]?).bind (·.dst) = none) : so N ty all o = .u .none (.bad 52) := by
  unfold so
  rw [hg]
  simp only [hd]

theorem runD_ok (T : TabOk P ty) (hla : ∀ a n o t, la a n o t = true → liesAt P P.depth a (n / P.cellsOf a) o t 1 = true) (hcall : CallOk P call) (hN : N ≤ 240) {ops : List Oper} {K : KE} {e0 : EV} :
    ∀ (L : List Nat) (e : EV) (h : XH) (fs : List XFact) (reads : List (Nat × (AH → Prop))) (pk : Option XPk) (pk' : Option Pk), runD (sdos N ty ops (masksOf ops) L) la call e h fs pk K = .ok → Facts P ty N ops fs reads → PkRel pk pk' → eget e 255 = eget e0 255 →
      drawS P ty ops (masksOf ops) L (view N e) reads pk' (After N e0 K) h.ah
  | [], e, h, fs, reads, pk, pk', hk, hf, hp, h255 => by
    cases hp with
    | none => exact ⟨rfl, e, h, rfl, rfl, h255, hk⟩
    | some x => exact Rs.noConfusion hk
  | i :: L, e, h, fs, reads, pk, pk', hk, hf, hp, h255 => by
    simp only [drawS]
    simp only [sdos] at hk
    cases ho : ops[i]? with
    | none =>
      rw [ho] at hk
      exact Rs.noConfusion hk
    | some o =>
      rw [ho] at hk
      simp only at hk ⊢
      cases hl : isLight ty o.op with
      | true =>
        rw [hl] at hk
        simp only [cond_true]
        have hnd := notDefer_of_light hl
        have hk : lightD (so N ty ops o) (2 ^ i) (runD (sdos N ty ops (masksOf ops) L)) la call e h fs pk K = .ok := hk
        have yes : runI (si N ty o.op o.type) la call e h (fun v h => putX (sdo N o.dst) v e fun e' => runD (sdos N ty ops (masksOf ops) L) la call e' h (.mk (2 ^ i) (si N ty o.op o.type) e v :: fs) pk K) = .ok →
            LGives P o (ev (view N e)) h.ah fun v re => drawS P ty ops (masksOf ops) L (putA (view N e) o.dst v) (addRead i re reads) pk' (After N e0 K) h.ah := by
          intro hk
          obtain ⟨v, re, h1, h2, h3⟩ := si_light (P := P) (K := fun v h => putX (sdo N o.dst) v e fun e' => runD (sdos N ty ops (masksOf ops) L) la call e' h (.mk (2 ^ i) (si N ty o.op o.type) e v :: fs) pk K) T hla o hl hk
          obtain ⟨e', g1, g2, g3⟩ := putX_ok hN h1
          refine ⟨v, some fun h' => LOk P o (ev (view N e)) h' v, ?_, h3 _ h2, fun h' hh => hh⟩
          show drawS P ty ops (masksOf ops) L (putA (view N e) o.dst v) _ pk' _ h.ah
          rw [← g2]
          exact runD_ok T hla hcall hN L e' h _ _ pk pk' g1 (.cons i o e v ho hl hf) hp (g3.trans h255)
        cases hg : o.guard with
        | none =>
          rw [so_none hg hnd] at hk
          unfold guardW; rw [hg]
          exact yes hk
        | some g =>
          obtain ⟨j, w⟩ := g
          cases hd : (ops[j]?).bind (·.dst) with
          | none => rw [so_bad hg hd] at hk; exact Rs.noConfusion hk
          | some d =>
            rw [so_some hg hd] at hk
            refine guard_ok hg hd hk yes fun hn => ?_
            obtain ⟨e', g1, g2, g3⟩ := putX_ok hN hn
            rw [← g2]
            exact runD_ok T hla hcall hN L e' h _ _ pk pk' g1 hf hp (g3.trans h255)
      | false =>
        rw [hl] at hk
        simp only [cond_false]
        have hk : heavyD (so N ty ops o) ((masksOf ops).getD i 0) (runD (sdos N ty ops (masksOf ops) L)) la call e h fs pk K = .ok := hk
        have yes : matX pk ((masksOf ops).getD i 0) h (fun pk h => runI (si N ty o.op o.type) la call e h fun v h => chkF fs la call ((masksOf ops).getD i 0) h (putX (sdo N o.dst) v e fun e => runD (sdos N ty ops (masksOf ops) L) la call e h fs pk K)) = .ok →
            HGives P o (ev (view N e)) (matP pk' ((masksOf ops).getD i 0) h.ah) fun v h' => reloads reads ((masksOf ops).getD i 0) h' (drawS P ty ops (masksOf ops) L (putA (view N e) o.dst v) reads (restP pk' ((masksOf ops).getD i 0)) (After N e0 K) h') := by
          intro hk
          obtain ⟨pk2, h2, hk, hp2, e2⟩ := matX_ok hp hk
          rw [← e2]
          refine (si_heavy (P := P) (K := fun v h => chkF fs la call ((masksOf ops).getD i 0) h (putX (sdo N o.dst) v e fun e => runD (sdos N ty ops (masksOf ops) L) la call e h fs pk2 K)) T hcall o hl hk).mono ?_
          rintro v h' ⟨hx, rfl, hk⟩
          refine chkF_ok T hla hf hk fun hk => ?_
          obtain ⟨e', g1, g2, g3⟩ := putX_ok hN hk
          rw [← g2]
          exact runD_ok T hla hcall hN L e' hx _ _ pk2 _ g1 hf hp2 (g3.trans h255)
        cases hg : o.guard with
        | none =>
          by_cases hdf : ∃ c, o.op = .defer c
          · obtain ⟨c, hc⟩ := hdf
            unfold so at hk
            rw [hg] at hk
            simp only [hc] at hk
            split at hk
            · exact Rs.noConfusion hk
            · have hk : matX pk ((masksOf ops).getD i 0) h (fun pk h => .bad 82) = .ok := hk
              obtain ⟨_, _, hk, _⟩ := matX_ok hp hk
              exact Rs.noConfusion hk
          · rw [so_none hg (fun c hc => hdf ⟨c, hc⟩)] at hk
            unfold guardW; rw [hg]
            exact yes hk
        | some g =>
          obtain ⟨j, w⟩ := g
          cases hd : (ops[j]?).bind (·.dst) with
          | none =>
            rw [so_bad hg hd] at hk
            have hk : matX pk ((masksOf ops).getD i 0) h (fun pk h => .bad 52) = .ok := hk
            obtain ⟨_, _, hk, _⟩ := matX_ok hp hk
            exact Rs.noConfusion hk
          | some d =>
            rw [so_some hg hd] at hk
            refine guard_ok hg hd hk yes fun hn => ?_
            obtain ⟨e', g1, g2, g3⟩ := putX_ok hN hn
            rw [← g2]
            exact runD_ok T hla hcall hN L e' h _ _ pk pk' g1 hf hp (g3.trans h255)
end Go.La
/- Layer X, part 12: code is sound. -/
namespace Go.La
open Go Go.RowKit

variable {P : Program} {ty : TT} {la : LT} {call : Caller} {N : Nat}

/-- What the value that stands for an activation's marks and deferred calls says. -/
inductive DVal (m : Mp) : AV → Deferred → Prop
  | mark (d : Nat) (s : Slot) (h : m d = some s) : DVal m (.map (some d)) { target := .collected s.cb, args := #[] }
  | fn (f : FuncId) (l1 l2 : List AV) (a1 a2 : Array Value) (h1 : VsRel m l1 a1.toList) (h2 : VsRel m l2 a2.toList) : DVal m (.func (.func f) l1 l2) { target := .fn (.func f) a2, args := a1 }
inductive DVals (m : Mp) : List AV → List Deferred → Prop
  | nil : DVals m [] []
  | cons {v d l ds} (h1 : DVal m v d) (h2 : DVals m l ds) : DVals m (v :: l) (d :: ds)
theorem DVal.mono {m m' : Mp} (hm : m.le m') {v : AV} {d : Deferred} (h : DVal m v d) : DVal m' v d := by
  cases h with
  | mark d s h => exact .mark d s (hm _ _ h)
  | fn f l1 l2 a1 a2 h1 h2 => exact .fn f l1 l2 a1 a2 (h1.mono hm) (h2.mono hm)
theorem DVals.mono {m m' : Mp} (hm : m.le m') : ∀ {l : List AV} {ds : List Deferred}, DVals m l ds → DVals m' l ds
  | _, _, .nil => .nil
  | _, _, .cons h1 h2 => .cons (h1.mono hm) (h2.mono hm)
def DRelX (ro : Option Nat) (m : Mp) (v : AV) (ds : List Deferred) : Prop :=
  match ro with
  | none => (v = .dead ∧ ds = []) ∨ ∃ l, v = .tuple l ∧ DVals m l ds
  | some lb => ∃ b s, v = .map (some b) ∧ m b = some s ∧ s.cb = lb
theorem DRelX.mono {ro : Option Nat} {m m' : Mp} (hm : m.le m') {v : AV} {ds : List Deferred} (h : DRelX ro m v ds) : DRelX ro m' v ds := by
  cases ro with
  | none =>
    rcases h with h | ⟨l, e, h⟩
    · exact .inl h
    · exact .inr ⟨l, e, h.mono hm⟩
  | some lb => obtain ⟨b, s, e, h1, h2⟩ := h; exact ⟨b, s, e, hm _ _ h1, h2⟩
theorem DRelX.dfr {ro : Option Nat} {m : Mp} {v : AV} {ds ds' : List Deferred} (h : DRelX ro m v ds) (hd : ro = none → ds' = ds) : DRelX ro m v ds' := by
  cases ro with
  | none => rw [hd rfl]; exact h
  | some lb => exact h

theorem op_gives (T : TabOk P ty) (hla : ∀ a n o t, la a n o t = true → liesAt P P.depth a (n / P.cellsOf a) o t 1 = true) (hcall : CallOk P call) (o : Oper) {e : EV} {h : XH} {K : KV} (hk : runI (si N ty o.op o.type) la call e h K = .ok) :
    HGives P o (ev (view N e)) h.ah (KX2 K) := by
  cases hl : isLight ty o.op with
  | true => exact light_heavy (notDefer_of_light hl) ((si_light T hla o hl hk).mono fun v re hk => ⟨h, rfl, hk⟩)
  | false => exact si_heavy T hcall o hl hk

theorem dfrX_ok {v : AV} {k0 : Rs} {k1 : List AV → Rs} {k2 : Nat → Rs} (h : dfrX v k0 k1 k2 = .ok) : (v = .dead ∧ k0 = .ok) ∨ (∃ l, v = .tuple l ∧ k1 l = .ok) ∨ ∃ l, v = .map (some l) ∧ k2 l = .ok := by
  cases v <;> first | exact Rs.noConfusion h | exact .inl ⟨rfl, h⟩ | exact .inr (.inl ⟨_, rfl, h⟩) | skip
  rename_i r; cases r
  · exact Rs.noConfusion h
  · exact .inr (.inr ⟨_, rfl, h⟩)
theorem sel255 {e : EV} {K : AV → Rs} (h : selE .d15 e (fun r => selA .d15 r K) = .ok) : K (eget e 255) = .ok := by
  obtain ⟨_, h⟩ := selE_ok h
  obtain ⟨_, h⟩ := selA_ok h
  exact h
theorem asCall_ok {v : AV} {k0 : FuncId → List AV → List AV → Rs} {k1 : Nat → List AV → List AV → Rs} (h : asCall v k0 k1 = .ok) : (∃ f l1 l2, v = .func (.func f) l1 l2 ∧ k0 f l1 l2 = .ok) ∨ ∃ l l1 l2, v = .func (.yield l) l1 l2 ∧ k1 l l1 l2 = .ok := by
  cases v <;> first | exact Rs.noConfusion h | skip
  rename_i fn l1 l2
  cases fn <;> first | exact Rs.noConfusion h | exact .inl ⟨_, _, _, rfl, h⟩ | exact .inr ⟨_, _, _, rfl, h⟩
theorem put255 {e : EV} {v : AV} (hN : N ≤ 240) : view N (e.set .d15 ((e.get .d15).set .d15 v)) = view N e ∧ eget (e.set .d15 ((e.get .d15).set .d15 v)) 255 = v := by
  have key : ∀ {j : Nat}, j < 256 → eget (e.set .d15 ((e.get .d15).set .d15 v)) j = if 255 = j then v else eget e j := fun hj => eget_upd (i := 255) (by decide) hj
  refine ⟨?_, by rw [key (by decide)]; rfl⟩
  apply List.ext_getElem?
  intro j
  by_cases hj : j < N
  · rw [view_get hj, view_get hj, key (by omega), if_neg (by omega)]
  · rw [List.getElem?_eq_none (by rw [view_length]; omega), List.getElem?_eq_none (by rw [view_length]; omega)]
/-- A mark, or a deferred call, is put ahead of the others. -/
theorem pushD_ok (hN : N ≤ 240) {v : AV} {e : EV} {K : EV → Rs} (h : pushD v e K = .ok) : ∃ e', K e' = .ok ∧ view N e' = view N e ∧ ((eget e 255 = .dead ∧ eget e' 255 = .tuple [v]) ∨ ∃ l, eget e 255 = .tuple l ∧ eget e' 255 = .tuple (v :: l)) := by
  obtain ⟨_, h⟩ := selE_ok (show selE .d15 e (fun r => selA .d15 r fun u => dfrX u (updA .d15 r (.tuple [v]) fun r => updE .d15 e r K) (fun l => updA .d15 r (.tuple (v :: l)) fun r => updE .d15 e r K) (fun _ => .bad 84)) = .ok from h)
  obtain ⟨_, h⟩ := selA_ok h
  rcases dfrX_ok h with ⟨e1, h⟩ | ⟨l, e1, h⟩ | ⟨l, e1, h⟩
  · obtain ⟨_, h⟩ := updA_ok h
    obtain ⟨_, h⟩ := updE_ok h
    exact ⟨_, h, (put255 hN).1, .inl ⟨e1, (put255 hN).2⟩⟩
  · obtain ⟨_, h⟩ := updA_ok h
    obtain ⟨_, h⟩ := updE_ok h
    exact ⟨_, h, (put255 hN).1, .inr ⟨l, e1, (put255 hN).2⟩⟩
  · exact Rs.noConfusion h
theorem DRelX.push {m : Mp} {e e' : EV} {ds : List Deferred} {v : AV} {d : Deferred} (h : DRelX none m (eget e 255) ds) (hv : DVal m v d) (hp : (eget e 255 = .dead ∧ eget e' 255 = .tuple [v]) ∨ ∃ l, eget e 255 = .tuple l ∧ eget e' 255 = .tuple (v :: l)) :
    DRelX none m (eget e' 255) (d :: ds) := by
  rcases hp with ⟨e1, e2⟩ | ⟨l, e1, e2⟩
  · rcases h with ⟨_, h2⟩ | ⟨l, h1, _⟩
    · exact .inr ⟨_, e2, by rw [h2]; exact .cons hv .nil⟩
    · rw [e1] at h1; cases h1
  · rcases h with ⟨h1, _⟩ | ⟨l', h1, h2⟩
    · rw [e1] at h1; cases h1
    · rw [e1] at h1; cases h1
      exact .inr ⟨_, e2, .cons hv h2⟩

section
variable {F : Fence} {n : Nat} {Q : Exit → Act → World → Prop}

theorem runOs_ok (T : TabOk P ty) (hla : ∀ a n o t, la a n o t = true → liesAt P P.depth a (n / P.cellsOf a) o t 1 = true) (hcall : CallOk P call) (hN : N ≤ 240) (hF : F = Fence.wide ∨ ∃ l, F = Fence.wide.inRound l) {ops : Array Oper} (K : KE) :
    ∀ (r : List Oper) (i : Nat), ops.toList.drop i = r → ∀ (m : Mp) (h : XH) (w : World) (e : EV) (a : Act), Sim m h.ah w → VsRel m (view N e) a.tmps.toList → DRelX F.round m (eget e 255) a.defers → runOs la (sos N ty ops.toList r) call e h K = .ok →
      (∀ m' hx w' e' (a' : Act), Sim m' (XH.ah hx) w' → Steps m h.ah w m' (XH.ah hx) w' → VsRel m' (view N e') a'.tmps.toList → DRelX F.round m' (eget e' 255) a'.defers → K e' hx = .ok → Q .normal a' w') →
      wpOpsIn F n P ops Q ((List.range ops.size).drop i) a w
  | [], i, hi, m, h, w, e, a, s, ht, hd, hk, hQ => by
    have : ops.size ≤ i := by simpa using hi
    rw [List.drop_eq_nil_of_le (by simpa using this)]
    exact hQ m h w e a s (Steps.refl _ _ _) ht hd hk
  | o :: r, i, hi, m, h, w, e, a, s, ht, hd, hk, hQ => by
    have hlt : i < ops.size := by
      apply Nat.lt_of_not_le; intro hle
      rw [List.drop_eq_nil_of_le (by simpa using hle)] at hi; cases hi
    have ho : ops[i]? = some o := by
      have := congrArg (·[0]?) hi
      simpa using this
    have hr : ops.toList.drop (i + 1) = r := by rw [← List.drop_drop, hi]; rfl
    have hrange : (List.range ops.size).drop i = i :: (List.range ops.size).drop (i + 1) := by
      rw [List.drop_eq_getElem_cons (by simpa using hlt)]; simp
    rw [hrange]
    simp only [wpOpsIn, ho]
    have hall : ops.toList.toArray = ops := by simp
    have hk : runO la (so N ty ops.toList o) call e h (fun e h => runOs la (sos N ty ops.toList r) call e h K) = .ok := hk
    have yes : runI (si N ty o.op o.type) la call e h (fun v h => putX (sdo N o.dst) v e fun e => runOs la (sos N ty ops.toList r) call e h K) = .ok →
        o.wpIn F n P a w (fun a1 w1 => wpOpsIn F n P ops Q ((List.range ops.size).drop (i + 1)) a1 w1) Q := by
      intro hk
      have hg := op_gives (P := P) T hla hcall o hk
      refine op_run hF hg.1 (hg.2 m w a.eval s (fun x _ => ev_rel ht x)) ?_
      rintro v' w' ⟨m', h', v, s', st, hv, hx, rfl, hk'⟩
      obtain ⟨e', g1, g2, g3⟩ := putX_ok hN hk'
      refine runOs_ok T hla hcall hN hF K r (i + 1) hr m' hx w' e' _ s' (by rw [g2]; exact putA_rel (VsRel.mono st.map ht) o.dst hv) (by rw [put_defers, g3]; exact hd.mono st.map) g1 ?_
      exact fun m2 h2 w2 e2 a2 s2 st2 ht2 hd2 hk2 => hQ m2 h2 w2 e2 a2 s2 (st.trans st2) ht2 hd2 hk2
    have no : putX (sdo N o.dst) (.tuple []) e (fun e => runOs la (sos N ty ops.toList r) call e h K) = .ok → wpOpsIn F n P ops Q ((List.range ops.size).drop (i + 1)) (a.put o.dst undef) w := by
      intro hk
      obtain ⟨e', g1, g2, g3⟩ := putX_ok hN hk
      exact runOs_ok T hla hcall hN hF K r (i + 1) hr m h w e' _ s (by rw [g2]; exact putA_rel ht o.dst (.tuple [] #[] .nil)) (by rw [put_defers, g3]; exact hd) g1 hQ
    cases hg : o.guard with
    | none =>
      have hw : Region.wanted o (yielded ops a.tmps) = true := by simp [Region.wanted, hg]
      rw [if_pos hw]
      by_cases hdf : ∃ c, o.op = .defer c
      · obtain ⟨c, hc⟩ := hdf
        unfold so at hk
        rw [hg] at hk
        simp only [hc] at hk
        split at hk
        · rename_i f hdst hcl hargs
          have hk : evX (sv N f) e (fun v => asCall v (fun f l1 l2 => pushD (.func (.func f) l1 l2) e fun e => runOs la (sos N ty ops.toList r) call e h K) (fun _ _ _ => .bad 94)) = .ok := hk
          have hk := evX_ok hk
          rcases asCall_ok hk with ⟨fid, l1, l2, ev1, hk⟩ | ⟨l, l1, l2, _, hk⟩
          rotate_left
          · exact Rs.noConfusion hk
          obtain ⟨e', g1, g2, g3⟩ := pushD_ok hN hk
          have hro : F.round = none := by
            cases hr2 : F.round with
            | none => rfl
            | some lb =>
              rw [hr2] at hd
              obtain ⟨b, s1, e1, _⟩ := hd
              rcases g3 with ⟨e2, _⟩ | ⟨l, e2, _⟩ <;> rw [e1] at e2 <;> cases e2
          rw [hro] at hd
          have r1 := ev_rel ht f
          rw [ev1] at r1
          obtain ⟨callee, args, argTypes⟩ := c
          simp only at hcl hargs
          have ea : args = #[] := by cases args; simp at hargs; subst hargs; rfl
          subst hcl; subst ea
          generalize hρ : a.eval f = fv at r1
          cases r1 with | func _ fn' _ _ a1 a2 hfn q1 q2 =>
          cases hfn with | func =>
          refine ⟨fun f _ => by rcases hF with rfl | ⟨l, rfl⟩ <;> trivial, ?_⟩
          rw [hro, Oper.semAt_none]
          have hrun : (execOp a.eval o).run P w = .ok (.defer { target := .fn (.func fid) a2, args := a1 }) w := by
            obtain ⟨dst, op, type, pos, after, guard⟩ := o
            simp only at hc
            subst hc
            simp [execOp, resolve, hρ, Deferred.ofValue]
          rw [hrun, Oper.uponIn_defer, hdst]
          exact runOs_ok T hla hcall hN hF K r (i + 1) hr m h w e' _ s (by rw [g2]; exact ht) (by rw [hro]; exact hd.push (.fn fid l1 l2 a1 a2 q1 q2) g3) g1 hQ
        · exact Rs.noConfusion hk
      · have hnd : ∀ c, o.op ≠ .defer c := fun c hc => hdf ⟨c, hc⟩
        rw [so_none hg hnd] at hk
        exact yes hk
    | some g =>
      obtain ⟨j, want⟩ := g
      cases hdd : (ops.toList[j]?).bind (·.dst) with
      | none => rw [so_bad hg hdd] at hk; exact Rs.noConfusion hk
      | some d =>
        rw [so_some hg hdd] at hk
        have hgw := guard_ok (N := N) (e := e) (y := runI (si N ty o.op o.type) la call e h (fun v h => putX (sdo N o.dst) v e fun e => runOs la (sos N ty ops.toList r) call e h K)) (n := putX (sdo N o.dst) (.tuple []) e (fun e => runOs la (sos N ty ops.toList r) call e h K)) hg hdd hk
          (yes := fun _ => o.wpIn F n P a w (fun a1 w1 => wpOpsIn F n P ops Q ((List.range ops.size).drop (i + 1)) a1 w1) Q) (no := fun _ => wpOpsIn F n P ops Q ((List.range ops.size).drop (i + 1)) (a.put o.dst undef) w) yes no
        rcases guardW_iff hgw with ⟨hg1, hk1⟩ | ⟨hg1, hk1⟩
        · have hw := hg1.wanted ht
          rw [hall] at hw
          rw [if_pos hw]; exact hk1
        · have hw := hg1.wanted ht
          rw [hall] at hw
          rw [if_neg (by simp [hw])]
          exact ⟨fun f _ => by rcases hF with rfl | ⟨l, rfl⟩ <;> trivial, hk1⟩
end
end Go.La
/- Layer X, part 13: loops over functions; code. -/
namespace Go.La
open Go Go.RowKit

variable {P : Program} {ty : TT} {la : LT} {call : Caller} {N : Nat}

/-- What is said of an exit. -/
def XPost (F : Fence) (m : Mp) (h : AH) (w : World) (N : Nat) (Kn : KE) (X : KX) (R : KE) : Exit → Act → World → Prop := fun ex a' w' =>
  ∃ m' hx e', Sim m' (XH.ah hx) w' ∧ Steps m h w m' (XH.ah hx) w' ∧ VsRel m' (view N e') a'.tmps.toList ∧ DRelX F.round m' (eget e' 255) a'.defers ∧
    match ex with
    | .normal => Kn e' hx = .ok
    | .exit i => X i e' hx = .ok
    | .ret => R e' hx = .ok
    | _ => False
theorem XPost.shift {F : Fence} {m m1 : Mp} {h h1 : AH} {w w1 : World} {Kn : KE} {X : KX} {R : KE} {ex : Exit} {a' : Act} {w' : World} (hp : XPost F m1 h1 w1 N Kn X R ex a' w') (st : Steps m h w m1 h1 w1) : XPost F m h w N Kn X R ex a' w' :=
  let ⟨m', hx, e', a, b, c, d, e⟩ := hp; ⟨m', hx, e', a, st.trans b, c, d, e⟩

theorem slotsX_ok : ∀ {n : Nat} {e : EV} {l : List AV} {K : List AV → Rs}, slotsX n e l K = .ok → K (view n e ++ l) = .ok
  | 0, _, _, _, h => h
  | n + 1, e, l, K, h => by
    have h : selE (dig (n / 16)) e (fun r => selA (dig (n % 16)) r fun v => slotsX n e (v :: l) K) = .ok := h
    obtain ⟨_, h⟩ := selE_ok h
    obtain ⟨_, h⟩ := selA_ok h
    have := slotsX_ok h
    have e1 : view (n + 1) e ++ l = view n e ++ (eget e n :: l) := by simp [view, List.range_succ]
    rw [e1]; exact this
theorem asLoop_ok {o : Option AObj} {K : LoopState → Option Code → List AV → Array Tmp → Code → Code → Nat → Rs} (h : asLoop o K = .ok) : ∃ st pend tm ps asg body d, o = some (.loop st pend tm ps asg body d) ∧ K st pend tm ps asg body d = .ok := by
  cases o with
  | none => exact Rs.noConfusion h
  | some a => cases a <;> first | exact ⟨_, _, _, _, _, _, _, rfl, h⟩ | exact Rs.noConfusion h
theorem notBusy_ok {st : LoopState} {n : Nat} {R : Rs} (h : LoopState.rec (motive := fun _ => Rs → Rs) (fun R => R) (fun _ => .bad n) (fun R => R) (fun R => R) st R = .ok) : st ≠ .busy ∧ R = .ok := by
  cases st <;> first | exact ⟨by simp, h⟩ | exact Rs.noConfusion h

/-- The function that is ranged over, called. -/
theorem iter_call (hcall : CallOk P call) {g : AV} {l : Nat} {h : XH} {K : KV} (hk : call 1 g [.func (.yield l) [] []] h K = .ok) {m : Mp} {w : World} (s : Sim m h.ah w) {sl : Slot} (hm : m l = some sl) {x : Operand} {a : Act} (hx : VRel m g (a.eval x)) :
    ∃ d f args, (resolve a.eval (rangeCall x sl.cb) 0).run P w = .ok d w ∧ (invoke d.target d.args).run P w = .ok (.enter f args) w ∧ CallsIn Fence.wide 0 P f args w fun e w' => ∃ v, e = .returned v ∧ Post m h.ah w (KX2 K) v w' := by
  obtain ⟨fid, l1, l2, fn, e1, hf, hb, hn⟩ := hcall.body _ _ _ _ hk
  have hc := hcall.plain _ _ _ _ _ (by decide) hk
  subst e1
  have hy : VsRel m [.func (.yield l) [] []] [Value.func (.yield sl.cb) #[] #[]] := .cons _ _ _ _ (.func _ _ [] [] #[] #[] (.yield l sl hm) .nil .nil) .nil
  have := hc m w (a.eval x) _ s hx hy
  generalize hρ : a.eval x = fv at *
  cases hx with | func _ fn' _ _ a1 a2 hfn q1 q2 =>
  cases hfn with | func =>
  have hn' : ¬ fn.name = "runtime.NumGoroutine" := by simpa using hn
  have hb' : ¬ fn.body = none := fun e => by rw [e] at hb; cases hb
  have hinv : (invoke (.fn (.func fid) a2) (a1 ++ #[Value.func (.yield sl.cb) #[] #[]])).run P w = .ok (.enter fid (a1 ++ #[Value.func (.yield sl.cb) #[] #[]] ++ a2)) w := by
    simp [invoke, callFunc, hf, hn', hb']
  refine ⟨{ target := .fn (.func fid) a2, args := a1 ++ #[Value.func (.yield sl.cb) #[] #[]] }, fid, _, ?_, hinv, ?_⟩
  · show (Deferred.ofValue (a.eval x) (#[Operand.const (.func (.yield sl.cb) #[] #[])].map a.eval)).run P w = _
    rw [hρ]
    simp [Deferred.ofValue, Act.eval]
  · have hr : (do let d ← Deferred.ofValue (.func (.func fid) a1 a2) [Value.func (.yield sl.cb) #[] #[]].toArray; invoke d.target d.args : Sem Next).run P w = .ok (.enter fid (a1 ++ #[Value.func (.yield sl.cb) #[] #[]] ++ a2)) w := by
      simp [Deferred.ofValue, invoke, callFunc, hf, hn', hb']
    rw [hr] at this
    exact this

/-- What comes when the function that was ranged over has ended. -/
noncomputable def rfEnd (l : Nat) (e : EV) (Kn : KE) (X : KX) (R : KE) : KV := fun _ h => getO l h fun o => asLoop o fun st pend tm ps asg body d =>
      LoopState.rec (motive := fun _ => Rs → Rs) (fun R => R) (fun _ => .bad 87) (fun R => R) (fun R => R) st
        (setO l (some (.loop .exhausted pend tm ps asg body d)) h fun h =>
          Option.rec (motive := fun _ => EV → XH → KE → KX → KE → Rs) (fun e h Kn _ _ => Kn e h)
            (fun c e h _ X R => Code.rec (motive := fun _ => EV → XH → KX → KE → Rs) (fun _ _ _ _ => .bad 88) (fun _ _ _ _ _ _ _ => .bad 88) (fun _ _ _ _ _ _ _ _ => .bad 88) (fun _ _ _ _ _ _ _ _ _ => .bad 88) (fun _ _ _ _ _ _ _ => .bad 88) (fun _ _ _ _ _ _ => .bad 88)
              (fun _ _ _ _ _ _ _ _ _ _ => .bad 88) (fun id e h X _ => X id e h) (fun _ _ _ _ _ _ => .bad 88) (fun _ _ _ _ _ => .bad 88) (fun _ _ _ _ _ => .bad 88) (fun e h _ R => R e h) (fun _ _ _ _ _ => .bad 88) c e h X R) pend e h Kn X R)

section
variable {F : Fence} {n : Nat}
theorem rfEnd_ok {l : Nat} {e : EV} {Kn : KE} {X : KX} {R : KE} {m2 : Mp} {h2 : AH} {w2 : World} {sl : Slot} (hm : m2 l = some sl) {v : Value} {w3 : World} (hp : Post m2 h2 w2 (KX2 (rfEnd l e Kn X R)) v w3)
    {m : Mp} {h : AH} {w : World} (st0 : Steps m h w m2 h2 w2) {a' : Act} (ht : VsRel m2 (view N e) a'.tmps.toList) (hd : DRelX F.round m2 (eget e 255) a'.defers) :
    rangePost F n P sl.cb (XPost F m h w N Kn X R) a' (.returned v) w3 := by
  obtain ⟨m3, h3', u, s3, st3, hv, hx, rfl, hk⟩ := hp
  obtain ⟨_, hk⟩ := getO_ok (show getO l hx _ = .ok from hk)
  obtain ⟨st, pend, tm, ps, asg, body, d, e1, hk⟩ := asLoop_ok hk
  obtain ⟨hnb, hk⟩ := notBusy_ok hk
  obtain ⟨h4, hk, e4⟩ := setO_ok hk
  have hm3 : m3 l = some sl := st3.map _ _ hm
  obtain ⟨_, ob, hw, hob⟩ := s3.objs l _ sl e1 (by simp) hm3
  cases hob with | loop _ _ fn _ _ _ _ _ ct cd q1 q2 =>
  obtain ⟨s4, st4⟩ := s3.setObj (o' := .loop .exhausted pend tm ps asg body d) e1 (by simp) hm3 hw (by simp) (.loop .exhausted pend fn tm ps asg body d ct cd q1 q2)
  have hend := run_endLoop (P := P) hw hnb
  have hle := st3.map
  have sh : Steps m h w m3 h4.ah (w3.putObj sl.cb (.loop { state := .exhausted, pending := pend, fn, tmps := ct.toArray, params := ps, assign := asg, body, defers := cd.cb })) := by
    rw [e4]; exact st0.trans (st3.trans st4)
  have sm : Sim m3 h4.ah (w3.putObj sl.cb (.loop { state := .exhausted, pending := pend, fn, tmps := ct.toArray, params := ps, assign := asg, body, defers := cd.cb })) := by
    rw [e4]; exact s4
  refine ⟨_, _, hend, ?_⟩
  cases pend with
  | none => exact ⟨m3, h4, e, sm, sh, VsRel.mono hle ht, hd.mono hle, hk⟩
  | some c =>
    cases c <;> first | exact Rs.noConfusion hk | skip
    · exact wpIn_exit ⟨m3, h4, e, sm, sh, VsRel.mono hle ht, hd.mono hle, hk⟩
    · exact wpIn_ret ⟨m3, h4, e, sm, sh, VsRel.mono hle ht, hd.mono hle, hk⟩

theorem enterX_ok (hN : N ≤ 240) {e : EV} {h : XH} {K : Nat → EV → XH → Rs} (hk : enterX e h K = .ok) :
    (∃ h1 e1, XH.ah h1 = h.ah.new (.dfr true) ∧ view N e1 = view N e ∧ ((eget e 255 = .dead ∧ eget e1 255 = .tuple [.map (some h.next)]) ∨ ∃ l, eget e 255 = .tuple l ∧ eget e1 255 = .tuple (.map (some h.next) :: l)) ∧ K h.next e1 h1 = .ok) ∨
    ∃ l st pend tm ps asg body d, eget e 255 = .map (some l) ∧ h.ah.get l = some (.loop st pend tm ps asg body d) ∧ K d e h = .ok := by
  have hk := sel255 (show selE .d15 e (fun r => selA .d15 r fun u => dfrX u (newO (.dfr true) h fun d h => pushD (.map (some d)) e fun e => K d e h) (fun _ => newO (.dfr true) h fun d h => pushD (.map (some d)) e fun e => K d e h)
    (fun l => getO l h fun o => asLoop o fun _ _ _ _ _ _ d => K d e h)) = .ok from hk)
  have out : newO (.dfr true) h (fun d h => pushD (.map (some d)) e fun e => K d e h) = .ok → ∃ h1 e1, XH.ah h1 = h.ah.new (.dfr true) ∧ view N e1 = view N e ∧ ((eget e 255 = .dead ∧ eget e1 255 = .tuple [.map (some h.next)]) ∨ ∃ l, eget e 255 = .tuple l ∧ eget e1 255 = .tuple (.map (some h.next) :: l)) ∧ K h.next e1 h1 = .ok := by
    intro hk
    obtain ⟨h1, hk, e1⟩ := newO_ok hk
    obtain ⟨e', hk, g2, g3⟩ := pushD_ok (N := N) hN hk
    exact ⟨h1, e', e1, g2, g3, hk⟩
  rcases dfrX_ok hk with ⟨_, hk⟩ | ⟨l, _, hk⟩ | ⟨l, e1, hk⟩
  · exact .inl (out hk)
  · exact .inl (out hk)
  · obtain ⟨_, hk⟩ := getO_ok hk
    obtain ⟨st, pend, tm, ps, asg, body, d, e2, hk⟩ := asLoop_ok hk
    exact .inr ⟨l, st, pend, tm, ps, asg, body, d, e1, e2, hk⟩
theorem rf_ok (hcall : CallOk P call) (hN : N ≤ 240) (hF : F = Fence.wide ∨ ∃ l, F = Fence.wide.inRound l) {g : Operand} {ps : Array Tmp} {asg body : Code} {m : Mp} {h : XH} {w : World} {e : EV} {a : Act} {Kn : KE} {X : KX} {R : KE}
    (s : Sim m h.ah w) (ht : VsRel m (view N e) a.tmps.toList) (hd : DRelX F.round m (eget e 255) a.defers) (hk : runRF N (sv N g) ps asg body call e h Kn X R = .ok) :
    (Code.rangeFunc g ps asg body).wpIn F n P (XPost F m h.ah w N Kn X R) a w := by
  have hk : evX (sv N g) e (fun g => slotsX N e [] fun tm => enterX e h fun d e h => newO (.loop .ready none tm ps asg body d) h fun l h => call 1 g [.func (.yield l) [] []] h (rfEnd l e Kn X R)) = .ok := hk
  have hk := evX_ok hk
  have hk := slotsX_ok hk
  rw [List.append_nil] at hk
  have hvg : VRel m (ev (view N e) g) (a.eval g) := ev_rel ht g
  have hdep : F.depth.isSome = true → 1 ≤ n := by rcases hF with rfl | ⟨l, rfl⟩ <;> intro hc <;> cases hc
  have hfn : ∀ f, F.fn f := fun f => by rcases hF with rfl | ⟨l, rfl⟩ <;> trivial
  have hhave : ∀ (ro : F.round = none ∨ ∃ lb, F.round = some lb) , (F.round = none ∧ F = Fence.wide) ∨ ∃ lb, F.round = some lb ∧ F = Fence.wide.inRound lb := fun _ => by
    rcases hF with rfl | ⟨l, rfl⟩
    · exact .inl ⟨rfl, rfl⟩
    · exact .inr ⟨l, rfl, rfl⟩
  rcases hhave (by cases F.round; exact .inl rfl; exact .inr ⟨_, rfl⟩) with ⟨hro, hFw⟩ | ⟨lb, hro, hFw⟩
  · -- outermost
    rcases enterX_ok (N := N) hN hk with ⟨h1, e1, g1, g2, g3, hk⟩ | ⟨l0, st, pend, tm, ps0, asg0, body0, d, g1, g2, hk⟩
    rotate_left
    · rw [hro] at hd
      rcases hd with ⟨q, _⟩ | ⟨_, q, _⟩ <;> rw [g1] at q <;> cases q
    obtain ⟨h2, hk, g4⟩ := newO_ok hk
    have n1 := s.top h.ah.next (Nat.le_refl _)
    obtain ⟨sa, sta⟩ := s.make (o := .dfr true) (ob := .deferred (some [])) (t := ⟨w.heap.size, 0, 0⟩) rfl (fun _ _ _ _ e => by cases e) (fun _ => ⟨rfl, .dfr true⟩)
    have ma : (m.ins h.ah.next ⟨w.heap.size, 0, 0⟩) h.ah.next = some ⟨w.heap.size, 0, 0⟩ := by simp [Mp.ins]
    rw [← g1] at sa sta
    have hnx : h1.next = h.next + 1 := congrArg AH.next g1
    have wz : (w.alloc (.deferred (some []))).heap.size = w.heap.size + 1 := by show (w.heap.push _).size = _; simp
    generalize hma : m.ins h.ah.next ⟨w.heap.size, 0, 0⟩ = m1 at *
    refine wpIn_rangeFunc fun fn _ => ?_
    obtain ⟨sb, stb⟩ := sa.make (o := .loop .ready none (view N e) ps asg body h.next) (ob := .loop { state := .ready, pending := none, fn, tmps := a.tmps, params := ps, assign := asg, body, defers := w.heap.size }) (t := ⟨w.heap.size + 1, 0, 0⟩) (by rw [wz]) (fun _ _ _ _ e => by cases e)
      (fun _ => ⟨rfl, by
        have := ObjRel.loop (m := m1.ins h1.ah.next ⟨w.heap.size + 1, 0, 0⟩) .ready none fn (view N e) ps asg body h.next a.tmps.toList ⟨w.heap.size, 0, 0⟩ (VsRel.mono (sta.map.trans (Mp.le_ins (sa.top h1.ah.next (Nat.le_refl _)).2)) ht) (Mp.le_ins (sa.top h1.ah.next (Nat.le_refl _)).2 _ _ ma)
        simpa using this⟩)
    have mb : (m1.ins h1.ah.next ⟨w.heap.size + 1, 0, 0⟩) h1.next = some ⟨w.heap.size + 1, 0, 0⟩ := by show (m1.ins h1.ah.next _) h1.ah.next = _; simp [Mp.ins]
    rw [← g4] at sb stb
    generalize hmb : m1.ins h1.ah.next ⟨w.heap.size + 1, 0, 0⟩ = m2 at *
    have hle : m.le m2 := sta.map.trans stb.map
    obtain ⟨d, f, args, r1, r2, r3⟩ := iter_call (P := P) hcall hk sb mb (x := g) (a := a) (hvg.mono hle)
    refine ⟨w.heap.size + 1, [{ target := .collected w.heap.size, args := #[] }], _, d, _, f, args, _, by rw [hro]; exact run_enterLoop_outer fn a.tmps ps asg body, r1, fun f' _ => hfn f', r2, hdep, ?_⟩
    have hmd : m2 h.next = some ⟨w.heap.size, 0, 0⟩ := stb.map _ _ ma
    refine (callsIn_of hF r3).mono fun ed w' ⟨v, ev1, hp⟩ => ?_
    subst ev1
    refine rfEnd_ok (sl := ⟨w.heap.size + 1, 0, 0⟩) mb hp (sta.trans stb) (by rw [g2]; exact VsRel.mono hle ht) ?_
    rw [hro] at hd ⊢
    exact (hd.mono hle).push (.mark h.next ⟨w.heap.size, 0, 0⟩ hmd) g3
  · -- within a round
    rcases enterX_ok (N := N) hN hk with ⟨h1, e1, g1, g2, g3, hk⟩ | ⟨l0, st, pend, tm, ps0, asg0, body0, d, g1, g2, hk⟩
    · rw [hro] at hd
      obtain ⟨b, s1, q, _⟩ := hd
      rcases g3 with ⟨q2, _⟩ | ⟨_, q2, _⟩ <;> rw [q] at q2 <;> cases q2
    obtain ⟨h2, hk, g4⟩ := newO_ok hk
    have hd0 := hd
    rw [hro] at hd0
    obtain ⟨b, sl0, q1, q2, q3⟩ := hd0
    rw [g1] at q1; cases q1
    obtain ⟨_, ob, hw, hob⟩ := s.objs l0 _ sl0 g2 (by simp) q2
    cases hob with | loop _ _ fn0 _ _ _ _ _ ct cd p1 p2 =>
    rw [q3] at hw
    refine wpIn_rangeFunc fun fn _ => ?_
    obtain ⟨sb, stb⟩ := s.make (o := .loop .ready none (view N e) ps asg body d) (ob := .loop { state := .ready, pending := none, fn, tmps := a.tmps, params := ps, assign := asg, body, defers := cd.cb }) (t := ⟨w.heap.size, 0, 0⟩) rfl (fun _ _ _ _ e => by cases e)
      (fun _ => ⟨rfl, by
        have := ObjRel.loop (m := m.ins h.ah.next ⟨w.heap.size, 0, 0⟩) .ready none fn (view N e) ps asg body d a.tmps.toList cd (VsRel.mono (Mp.le_ins (s.top h.ah.next (Nat.le_refl _)).2) ht) (Mp.le_ins (s.top h.ah.next (Nat.le_refl _)).2 _ _ p2)
        simpa using this⟩)
    have mb : (m.ins h.ah.next ⟨w.heap.size, 0, 0⟩) h.next = some ⟨w.heap.size, 0, 0⟩ := by show (m.ins h.ah.next _) h.ah.next = _; simp [Mp.ins]
    rw [← g4] at sb stb
    generalize hmb : m.ins h.ah.next ⟨w.heap.size, 0, 0⟩ = m2 at *
    obtain ⟨d', f, args, r1, r2, r3⟩ := iter_call (P := P) hcall hk sb mb (x := g) (a := a) (hvg.mono stb.map)
    refine ⟨w.heap.size, [], _, d', _, f, args, _, by rw [hro]; exact run_enterLoop_inner hw fn a.tmps ps asg body, r1, fun f' _ => hfn f', r2, hdep, ?_⟩
    refine (callsIn_of hF r3).mono fun ed w' ⟨v, ev1, hp⟩ => ?_
    subst ev1
    exact rfEnd_ok (sl := ⟨w.heap.size, 0, 0⟩) mb hp stb (VsRel.mono stb.map ht) (hd.mono stb.map)
end
end Go.La
/- Layer X, part 14: code is sound. -/
namespace Go.La
open Go Go.RowKit

variable {P : Program} {ty : TT} {la : LT} {call : Caller} {N : Nat} {F : Fence} {n : Nat}

theorem drawChkS_parts {ops : List Oper} {masks : List Nat} {pk : Option Nat} {L : List Nat} (h : drawChkS ty ops masks pk L = true) : edgesBack ops 0 = true ∧ (∀ i, i < ops.length → i ∈ L) ∧ (∀ i ∈ L, i < ops.length) ∧ pairsS ty ops masks pk L = true := by
  simp only [drawChkS, Bool.and_eq_true] at h
  obtain ⟨h1, h2, h3, h4⟩ := h
  refine ⟨h1, fun i hi => ?_, fun i hi => ?_, h4⟩
  · have := List.all_eq_true.1 h2 i (List.mem_range.2 hi)
    simpa using this
  · have := List.all_eq_true.1 h3 i hi
    simpa using this

theorem after_post {m : Mp} {h : AH} {w : World} {e : EV} {Kn : KE} {X : KX} {R : KE} {da : List Deferred} (hd : DRelX F.round m (eget e 255) da) :
    ∀ m' h' w' t' (a' : Act), Sim m' h' w' → Steps m h w m' h' w' → VsRel m' t' a'.tmps.toList → a'.defers = da → After N e Kn t' h' → XPost F m h w N Kn X R .normal a' w' := by
  rintro m' h' w' t' a' s st ht hda ⟨e', hx, rfl, rfl, h255, hk⟩
  exact ⟨m', hx, e', s, st, ht, by rw [h255, hda]; exact hd.mono st.map, hk⟩

theorem sdraw_ok (T : TabOk P ty) (hla : ∀ a n o t, la a n o t = true → liesAt P P.depth a (n / P.cellsOf a) o t 1 = true) (hcall : CallOk P call) (hm : P.follows .mixedOrders = true) (hN : N ≤ 240) (hF : F = Fence.wide ∨ ∃ l, F = Fence.wide.inRound l) {id : Nat} {ops : Array Oper}
    {m : Mp} {h : XH} {w : World} {e : EV} {a : Act} {Kn : KE} {X : KX} {R : KE} (s : Sim m h.ah w) (ht : VsRel m (view N e) a.tmps.toList) (hd : DRelX F.round m (eget e 255) a.defers)
    (hk : runC la N (sdraw N ty ops.toList (masksOf ops.toList)) call e h Kn X R = .ok) : (Code.region id ops true).wpIn F n P (XPost F m h.ah w N Kn X R) a w := by
  have hsz : ops.toList.length = ops.size := by simp
  have run : ∀ L, drawChkS ty ops.toList (masksOf ops.toList) none L = true → runD (sdos N ty ops.toList (masksOf ops.toList) L) la call e h [] none Kn = .ok → (Code.region id ops true).wpIn F n P (XPost F m h.ah w N Kn X R) a w := by
    intro L hc hk
    obtain ⟨h1, h2, h3, h4⟩ := drawChkS_parts hc
    exact drawS_ok T hF hm h1 (by rw [← hsz]; exact h2) (by rw [← hsz]; exact h3) h4 s ht (runD_ok (P := P) T hla hcall hN L e h [] [] none none hk .nil .none rfl) (after_post hd)
  unfold sdraw at hk
  split at hk
  · rename_i hc; exact run _ hc hk
  · split at hk
    · rename_i hc; exact run _ hc hk
    · split at hk
      · rename_i p hp
        unfold spocket at hk
        split at hk
        · rename_i o ho
          split at hk
          · rename_i pt hg hop
            split at hk
            · rename_i agg ks dd hf
              split at hk
              · rename_i hc
                obtain ⟨h1, h2, h3, h4⟩ := drawChkS_parts hc
                obtain ⟨hn, ht2⟩ := h
                have hk : putX (sdo N o.dst) (.ptr (some ⟨hn, 0⟩)) e (fun e => runD (sdos N ty ops.toList (masksOf ops.toList) (ordG ty ops.toList (masksOf ops.toList) ops.toList.length (2 ^ p))) la call e ⟨hn + 1, ht2⟩ [] (some (.mk (2 ^ p) hn (.cells false 0 ⟨pt, true, true⟩ (ks.map K1.zero)))) Kn) = .ok := hk
                obtain ⟨e', g1, g2, g3⟩ := putX_ok hN hk
                have hdraw := runD_ok (P := P) (e0 := e) T hla hcall hN _ e' ⟨hn + 1, ht2⟩ [] [] _ (some ⟨p, hn, pt, ks⟩) g1 .nil (.some ⟨p, hn, pt, ks⟩) g3
                rw [g2] at hdraw
                exact drawP_ok T hF hm h1 (by rw [← hsz]; exact h2) (by rw [← hsz]; exact h3) h4 ho hg hop hf s ht hdraw (after_post hd)
              · exact Rs.noConfusion hk
            · exact Rs.noConfusion hk
          · exact Rs.noConfusion hk
        · exact Rs.noConfusion hk
      · exact Rs.noConfusion hk

theorem runC_ok (T : TabOk P ty) (hla : ∀ a n o t, la a n o t = true → liesAt P P.depth a (n / P.cellsOf a) o t 1 = true) (hcall : CallOk P call) (hm : P.follows .mixedOrders = true) (hN : N ≤ 240) (hF : F = Fence.wide ∨ ∃ l, F = Fence.wide.inRound l) :
    ∀ (c : Code) (m : Mp) (h : XH) (w : World) (e : EV) (a : Act) (Kn : KE) (X : KX) (R : KE), Sim m h.ah w → VsRel m (view N e) a.tmps.toList → DRelX F.round m (eget e 255) a.defers → runC la N (sc N ty c) call e h Kn X R = .ok → c.wpIn F n P (XPost F m h.ah w N Kn X R) a w := by
  intro c
  induction c with
  | skip => intro m h w e a Kn X R s ht hd hk; exact wpIn_skip ⟨m, h, e, s, Steps.refl _ _ _, ht, hd, hk⟩
  | label l => intro m h w e a Kn X R s ht hd hk; exact wpIn_label ⟨m, h, e, s, Steps.refl _ _ _, ht, hd, hk⟩
  | exit id => intro m h w e a Kn X R s ht hd hk; exact wpIn_exit ⟨m, h, e, s, Steps.refl _ _ _, ht, hd, hk⟩
  | ret => intro m h w e a Kn X R s ht hd hk; exact wpIn_ret ⟨m, h, e, s, Steps.refl _ _ _, ht, hd, hk⟩
  | region id ops draw =>
    intro m h w e a Kn X R s ht hd hk
    cases draw with
    | false =>
      refine wpIn_region (runOs_ok T hla hcall hN hF Kn ops.toList 0 rfl m h w e a s ht hd hk ?_)
      exact fun m' hx w' e' a' s' st' ht' hd' hk' => ⟨m', hx, e', s', st', ht', hd', hk'⟩
    | true => exact sdraw_ok T hla hcall hm hN hF s ht hd hk
  | seq x y ihx ihy =>
    intro m h w e a Kn X R s ht hd hk
    have hk : runC la N (sc N ty x) call e h (fun e h => runC la N (sc N ty y) call e h Kn X R) X R = .ok := hk
    refine wpIn_seq (wpIn_mono (ihx m h w e a _ X R s ht hd hk) fun ex a1 w1 hp => ?_)
    obtain ⟨m1, h1, e1, s1, st1, ht1, hd1, hk1⟩ := hp
    cases ex with
    | normal => exact wpIn_mono (ihy m1 h1 w1 e1 a1 Kn X R s1 ht1 hd1 hk1) fun ex a2 w2 hp => hp.shift st1
    | _ => exact ⟨m1, h1, e1, s1, st1, ht1, hd1, hk1⟩
  | cond c x y ihx ihy =>
    intro m h w e a Kn X R s ht hd hk
    have hk : evX (sv N c) e (fun v => asBool v (runC la N (sc N ty x) call e h Kn X R) (runC la N (sc N ty y) call e h Kn X R)) = .ok := hk
    have hk := evX_ok hk
    obtain ⟨b, hb, hk⟩ := asBool_ok hk
    have hr := ev_rel ht c
    rw [hb] at hr
    have hv : a.eval c = .bool b := by generalize a.eval c = v at hr; cases hr; rfl
    refine wpIn_cond hv ?_
    cases b with
    | true => exact ihx m h w e a Kn X R s ht hd hk
    | false => exact ihy m h w e a Kn X R s ht hd hk
  | block id x ih =>
    intro m h w e a Kn X R s ht hd hk
    have hk : runC la N (sc N ty x) call e h Kn (fun i e h => iteE i id (Kn e h) (X i e h)) R = .ok := hk
    refine wpIn_block (wpIn_mono (ih m h w e a Kn _ R s ht hd hk) fun ex a1 w1 hp => ?_)
    obtain ⟨m1, h1, e1, s1, st1, ht1, hd1, hk1⟩ := hp
    cases ex with
    | exit i =>
      simp only [Exit.inBlock]
      rcases iteE_ok hk1 with ⟨ei, hk2⟩ | ⟨ei, hk2⟩
      · rw [if_pos ei]; exact ⟨m1, h1, e1, s1, st1, ht1, hd1, hk2⟩
      · rw [if_neg ei]; exact ⟨m1, h1, e1, s1, st1, ht1, hd1, hk2⟩
    | _ => exact ⟨m1, h1, e1, s1, st1, ht1, hd1, hk1⟩
  | loop x ih =>
    intro m h w e a Kn X R s ht hd hk
    let bd : CT := fun call e h Kn X R => runC la N (sc N ty x) call e h Kn X R
    have hk : loopX bd call 5000 e h X R = .ok := hk
    generalize 5000 = k0 at hk
    let Inv : Nat → Act → World → Prop := fun k act w' => ∃ m' hx e', loopX bd call k e' hx X R = .ok ∧ Sim m' (XH.ah hx) w' ∧ Steps m h.ah w m' (XH.ah hx) w' ∧ VsRel m' (view N e') act.tmps.toList ∧ DRelX F.round m' (eget e' 255) act.defers
    refine wpIn_loop (fun act w' => ∃ k, Inv k act w') (fun act w' => leastOf fun k => Inv k act w') ⟨k0, m, h, e, hk, s, Steps.refl _ _ _, ht, hd⟩ ?_
    intro act w1 hi
    obtain ⟨m1, h1, e1, hk1, s1, st1, ht1, hd1⟩ := (leastOf_spec hi).1
    cases hlo : leastOf (fun k => Inv k act w1) with
    | zero => rw [hlo] at hk1; exact Rs.noConfusion hk1
    | succ k =>
      rw [hlo] at hk1
      have hk1 : runC la N (sc N ty x) call e1 h1 (fun e h => loopX bd call k e h X R) X R = .ok := hk1
      refine wpIn_mono (ih m1 h1 w1 e1 act _ X R s1 ht1 hd1 hk1) fun ex a2 w2 hp => ?_
      obtain ⟨m2, h2, e2, s2, st2, ht2, hd2, hk2⟩ := hp
      cases ex with
      | normal =>
        have inv2 : Inv k a2 w2 := ⟨m2, h2, e2, hk2, s2, st1.trans st2, ht2, hd2⟩
        refine ⟨⟨k, inv2⟩, ?_⟩
        have := (leastOf_spec (p := fun k => Inv k a2 w2) ⟨k, inv2⟩).2 k inv2
        omega
      | _ => exact ⟨m2, h2, e2, s2, st1.trans st2, ht2, hd2, hk2⟩
  | scope x ih =>
    intro m h w e a Kn X R s ht hd hk
    refine wpIn_scope (wpIn_mono (ih m h w e a Kn X R s ht hd hk) fun ex a2 w2 hp => ?_)
    obtain ⟨m1, h1, e1, s1, st1, ht1, hd1, hk1⟩ := hp
    cases ex with
    | goto l => exact hk1.elim
    | _ => exact ⟨m1, h1, e1, s1, st1, ht1, hd1, hk1⟩
  | rangeFunc g ps asg body _ _ => intro m h w e a Kn X R s ht hd hk; exact rf_ok hcall hN hF s ht hd hk
  | _ => intro m h w e a Kn X R s ht hd hk; exact Rs.noConfusion hk
end Go.La
/- Layer X, part 15: activations, rounds, calls: a run that ends well is a run of the machine's. -/
namespace Go.La
open Go Go.RowKit

variable {P : Program} {ty : TT} {la : LT} {call : Caller} {N : Nat}

theorem argsX_ok (hN : N ≤ 240) : ∀ {l : List AV} {k : Nat} {e : EV} {K : EV → Rs}, argsX N l k e K = .ok → ∃ e', K e' = .ok ∧ k + l.length ≤ max N k ∧ eget e' 255 = eget e 255 ∧ ∀ i, i < N → eget e' i = if k ≤ i ∧ i < k + l.length then l.getD (i - k) .dead else eget e i
  | [], k, e, K, h => ⟨e, h, Nat.le_max_right _ _, rfl, fun i _ => by rw [if_neg (by simp only [List.length_nil]; omega)]⟩
  | v :: r, k, e, K, h => by
    have h : putX (sdo N (some k)) v e (fun e => argsX N r (k + 1) e K) = .ok := h
    have h' := h
    simp only [sdo, sd_eq] at h'
    by_cases hk : k < N
    · rw [if_pos hk] at h'
      obtain ⟨_, _, h'⟩ := put_some h'
      obtain ⟨e', g1, g2, g3, g4⟩ := argsX_ok hN h'
      refine ⟨e', g1, by simp; omega, by rw [g3, eget_upd (by omega) (by decide), if_neg (by omega)], fun i hi => ?_⟩
      rw [g4 i hi, eget_upd (by omega) (by omega)]
      by_cases h1 : k + 1 ≤ i ∧ i < k + 1 + r.length
      · rw [if_pos h1, if_pos (by simp; omega)]
        rw [show i - k = (i - (k + 1)) + 1 by omega]; simp
      · rw [if_neg h1]
        by_cases h2 : k = i
        · subst h2; rw [if_pos rfl, if_pos (by simp)]; simp
        · rw [if_neg h2, if_neg (by simp; omega)]
    · rw [if_neg hk] at h'
      exact ((put_some h').1 rfl).elim
theorem eget_z2 (i : Nat) : eget z2 i = .dead := by
  unfold eget z2 z1
  rw [N16.get_all, N16.get_all]
theorem view_args (hN : N ≤ 240) {l : List AV} {K : EV → Rs} (h : argsX N l 0 z2 K = .ok) : ∃ e', K e' = .ok ∧ view N e' = l ++ List.replicate (N - l.length) .dead ∧ eget e' 255 = .dead := by
  obtain ⟨e', g1, g2, g3, g4⟩ := argsX_ok hN h
  refine ⟨e', g1, ?_, by rw [g3, eget_z2]⟩
  have hl : l.length ≤ N := by
    have : max N 0 = N := by omega
    omega
  apply List.ext_getElem?
  intro i
  by_cases hi : i < N
  · rw [view_get hi, g4 i hi, eget_z2]
    by_cases h1 : i < l.length
    · rw [if_pos (by omega), List.getElem?_append_left h1]
      simp [List.getD_eq_getElem?_getD, h1]
    · rw [if_neg (by omega), List.getElem?_append_right (by omega), List.getElem?_replicate, if_pos (by omega)]
  · rw [List.getElem?_eq_none (by rw [view_length]; omega), List.getElem?_eq_none (by simp; omega)]

/-! ### Results -/
theorem resX_ok (T : TabOk P ty) {m : Mp} {h : XH} {w : World} (s : Sim m h.ah w) {e : EV} {a : Array Value} (ht : VsRel m (view N e) a.toList) : ∀ (rs : List ResultVar) (K : List AV → Rs), resX (sr N ty rs) e h K = .ok →
    ∃ vs l, (rs.mapM (resVar a)).run P w = .ok vs w ∧ VsRel m l vs ∧ K l = .ok
  | [], K, hk => ⟨[], [], rfl, .nil, hk⟩
  | .tmp i :: r, K, hk => by
    have hk : evX (sv N (.tmp i)) e (fun v => resX (sr N ty r) e h fun r => K (v :: r)) = .ok := hk
    have hk := evX_ok hk
    obtain ⟨vs, l, h1, h2, h3⟩ := resX_ok T s ht r _ hk
    refine ⟨_, _, ?_, .cons _ _ _ _ (getD_rel ht i) h2, h3⟩
    simp [List.mapM_cons, resVar, h1]
  | .cell c tt :: r, K, hk => by
    have fin : ∀ {agg : Bool} {ks : List K1} {d : TD} (hf : ty.find tt = some (.plain agg ks d)) {p : Pt} (hp : (view N e).getD c .dead = .ptr (some p)) {cs : List AV} (hr : h.ah.rd p ks.length = some cs),
        resX (sr N ty r) e h (fun r => K (mkv agg cs :: r)) = .ok → ∃ vs l, ((ResultVar.cell c tt :: r).mapM (resVar a)).run P w = .ok vs w ∧ VsRel m l vs ∧ K l = .ok := by
      intro agg ks d hf p hp cs hr hk
      obtain ⟨vs, l, h1, h2, h3⟩ := resX_ok T s ht r _ hk
      have r1 := getD_rel ht c
      rw [hp] at r1
      generalize hρ : a.getD c undef = pv at *
      cases r1 with | ptr _ sl hm =>
      obtain ⟨v', g1, g2⟩ := load_run s (T.plain hf) hr hm
      refine ⟨_, _, ?_, .cons _ _ _ _ g2 h2, h3⟩
      simp only [Instr.loadAt, Instr.sureAddr] at g1
      have g1' : (loadVar tt (sl.addr p.o)).run P w = .ok v' w := by simpa using g1
      have hv : (resVar a (.cell c tt)).run P w = .ok v' w := by simp [resVar, hρ, asAddr, g1']
      simp [List.mapM_cons, hv, h1]
    simp only [sr] at hk
    split at hk
    · rename_i ks d hf
      have hk : evX (sv N (.tmp c)) e (fun v => asPtr v fun b o => rd1 b o h fun v => resX (sr N ty r) e h fun r => K (v :: r)) = .ok := hk
      have hk := evX_ok hk
      obtain ⟨p, e1, hk⟩ := asPtr_ok hk
      obtain ⟨v, hr, hk⟩ := rd1_ok hk
      exact fin hf e1 (cs := [v]) (by rw [(T.plain hf).one]; exact hr) hk
    · rename_i ks d hf
      have hk : evX (sv N (.tmp c)) e (fun v => asPtr v fun b o => rdN b o ks.length h fun l => resX (sr N ty r) e h fun r => K (.agg l :: r)) = .ok := hk
      have hk := evX_ok hk
      obtain ⟨p, e1, hk⟩ := asPtr_ok hk
      obtain ⟨cs, hr, hk⟩ := rdN_ok hk
      exact fin hf e1 hr hk
    · exact Rs.noConfusion hk
theorem oneOfX_ok {l : List AV} {K : AV → Rs} (h : oneOfX l K = .ok) : K (oneOf l) = .ok := by
  cases l with
  | nil => exact h
  | cons a r => cases r <;> exact h
theorem results_ok (T : TabOk P ty) {m : Mp} {h : XH} {w : World} (s : Sim m h.ah w) {e : EV} {a : Array Value} (ht : VsRel m (view N e) a.toList) {fn : Func} {K : KV} (hk : resX (sr N ty fn.results.toList) e h (fun l => oneOfX l fun v => K v h) = .ok) :
    ∃ v v', (results fn a).run P w = .ok v' w ∧ VRel m v v' ∧ K v h = .ok := by
  obtain ⟨vs, l, h1, h2, h3⟩ := resX_ok T s ht _ _ hk
  have h3 := oneOfX_ok h3
  have hr : results fn a = (do let vs ← fn.results.mapM (resVar a); pure (if h : vs.size = 1 then vs[0] else .tuple vs)) := by
    unfold results
    congr 1
  have hm : (fn.results.mapM (resVar a)).run P w = .ok vs.toArray w := by
    rw [← Array.toArray_toList (xs := fn.results), List.mapM_toArray]
    simp [h1]
  refine ⟨oneOf l, if h : vs.toArray.size = 1 then vs.toArray[0] else .tuple vs.toArray, by rw [hr]; simp [hm], ?_, h3⟩
  cases h2 with
  | nil => exact .tuple [] _ .nil
  | cons x y xs ys hx hxs =>
    cases hxs with
    | nil => simpa [oneOf] using hx
    | cons x2 y2 xs2 ys2 hx2 hxs2 =>
      have : ¬ ((y :: y2 :: ys2).toArray.size = 1) := by simp
      rw [dif_neg this]
      exact .tuple _ _ (.cons _ _ _ _ hx (.cons _ _ _ _ hx2 hxs2))

/-! ### The end of an activation -/
theorem isDfr_ok {o : Option AObj} {R : Rs} (h : isDfr o R = .ok) : o = some (.dfr true) ∧ R = .ok := by
  cases o with
  | none => exact Rs.noConfusion h
  | some a =>
    cases a <;> first | exact Rs.noConfusion h | skip
    rename_i b; cases b
    · exact Rs.noConfusion h
    · exact ⟨rfl, h⟩
theorem leaves_ok (T : TabOk P ty) (hcall : CallOk P call) {fn : Func} {a : Array Value} : ∀ {l : List AV} {ds : List Deferred} {m0 : Mp} {h0 : AH} {w0 : World} {m : Mp} {h : XH} {w : World} {e : EV} {K : KV}, Steps m0 h0 w0 m h.ah w → Sim m h.ah w → VsRel m (view N e) a.toList → DVals m l ds →
    dfrsX l call h (fun h => resX (sr N ty fn.results.toList) e h fun l => oneOfX l fun v => K v h) = .ok → LeavesInM Fence.wide 0 P fn a (fun ed w' => ∃ v, ed = .returned v ∧ Post m0 h0 w0 (KX2 K) v w') ds .returning w
  | [], _, m0, h0, w0, m, h, w, e, K, st, s, ht, .nil, hk => by
    obtain ⟨v, v', h1, h2, h3⟩ := results_ok T s ht hk
    exact ⟨v', h1, v', rfl, m, _, v, s, st, h2, h, rfl, h3⟩
  | _ :: l, _, m0, h0, w0, m, h, w, e, K, st, s, ht, .cons (d := d) hd hds, hk => by
    cases hd with
    | mark dn sl hm =>
      have hk : getO dn h (fun o => isDfr o (setO dn (some (.dfr false)) h fun h => dfrsX l call h fun h => resX (sr N ty fn.results.toList) e h fun l => oneOfX l fun v => K v h)) = .ok := hk
      obtain ⟨_, hk⟩ := getO_ok hk
      obtain ⟨e1, hk⟩ := isDfr_ok hk
      obtain ⟨h2, hk, e2⟩ := setO_ok hk
      obtain ⟨_, ob, hw, hob⟩ := s.objs dn _ sl e1 (by simp) hm
      cases hob
      have hw : w.heap[sl.cb]? = some (.deferred (some [])) := by simpa using hw
      obtain ⟨s2, st2⟩ := s.setObj (o' := .dfr false) (ob' := .deferred none) e1 (by simp) hm hw (by simp) (.dfr false)
      refine ⟨by simp, .inl ⟨sl.cb, _, rfl, run_takeDeferred hw, ?_⟩⟩
      rw [← e2] at s2 st2
      exact leaves_ok T hcall (st.trans st2) s2 ht hds hk
    | fn f l1 l2 a1 a2 q1 q2 =>
      have hk : call 2 (.func (.func f) l1 l2) [] h (fun _ h => dfrsX l call h fun h => resX (sr N ty fn.results.toList) e h fun l => oneOfX l fun v => K v h) = .ok := hk
      obtain ⟨fid, l1', l2', fn', e1, hf, hb, hn, hc⟩ := hcall.dfr _ _ _ _ hk
      cases e1
      have hn' : ¬ fn'.name = "runtime.NumGoroutine" := by simpa using hn
      have hb' : ¬ fn'.body = none := fun e => by rw [e] at hb; cases hb
      have hinv : (invoke (.fn (.func f) a2) a1).run P w = .ok (.enter f (a1 ++ a2)) w := by
        simp [invoke, callFunc, hf, hn', hb']
      refine ⟨by simp, .inr ⟨(fun e => by cases e), .func f, a2, f, a1 ++ a2, rfl, hinv, fun _ _ => trivial, ?_⟩⟩
      refine (hc m w (a1 ++ a2) .returning s (by simp only [List.append_nil, Array.toList_append]; exact q1.append q2)).mono ?_
      rintro ed u' w' ⟨rfl, v, rfl, m2, h2', u, s2, st2, hv, hx, rfl, hk⟩
      exact leaves_ok T hcall (st.trans st2) s2 (VsRel.mono st2.map ht) (hds.mono st2.map) hk
end Go.La
/- Layer X, part 16: calls: a run that ends well is a run of the machine's. -/
namespace Go.La
open Go Go.RowKit

variable {P : Program} {ty : TT} {la : LT} {call : Caller} {N : Nat}

/-! ### Functions -/
theorem body_wp (T : TabOk P ty) (hla : ∀ a n o t, la a n o t = true → liesAt P P.depth a (n / P.cellsOf a) o t 1 = true) (hcall : CallOk P call) (hm : P.follows .mixedOrders = true) {c : Code} {args : List AV} {h : XH} {Kn : KE} {X : KX} {R : KE} (hN : N ≤ 240)
    (hk : argsX N args 0 z2 (fun e => runC la N (sc N ty c) call e h Kn X R) = .ok) {m : Mp} {w : World} {args' : Array Value} (s : Sim m h.ah w) (ha : VsRel m args args'.toList) :
    c.wpIn Fence.wide 0 P (XPost Fence.wide m h.ah w N Kn X R) { tmps := args' ++ Array.replicate (N - args'.size) undef, defers := [] } w := by
  obtain ⟨e, hk, g1, g2⟩ := view_args hN hk
  refine runC_ok T hla hcall hm hN (.inl rfl) c m h w e _ Kn X R s ?_ (.inl ⟨g2, rfl⟩) hk
  rw [g1]
  have hl := ha.length
  simp only [Array.toList_append, Array.toList_replicate]
  rw [show args'.size = args.length by simpa using hl.symm]
  exact ha.append (replicate_rel m _)
theorem leaveX_ok (T : TabOk P ty) (hcall : CallOk P call) {fn : Func} {a : Array Value} {ds : List Deferred} {m0 : Mp} {h0 : AH} {w0 : World} {m : Mp} {h : XH} {w : World} {e : EV} {K : KV} (st : Steps m0 h0 w0 m h.ah w) (s : Sim m h.ah w) (ht : VsRel m (view N e) a.toList) (hd : DRelX none m (eget e 255) ds)
    (hk : leaveX (sr N ty fn.results.toList) call e h K = .ok) : LeavesInM Fence.wide 0 P fn a (fun ed w' => ∃ v, ed = .returned v ∧ Post m0 h0 w0 (KX2 K) v w') ds .returning w := by
  have hk := sel255 (show selE .d15 e (fun r => selA .d15 r fun u => dfrX u (resX (sr N ty fn.results.toList) e h fun l => oneOfX l fun v => K v h) (fun l => dfrsX l call h fun h => resX (sr N ty fn.results.toList) e h fun l => oneOfX l fun v => K v h) (fun _ => .bad 90)) = .ok from hk)
  rcases dfrX_ok hk with ⟨e1, hk⟩ | ⟨l, e1, hk⟩ | ⟨l, e1, hk⟩
  · rcases hd with ⟨_, rfl⟩ | ⟨l, e2, _⟩
    · exact leaves_ok T hcall (l := []) st s ht .nil hk
    · rw [e1] at e2; cases e2
  · rcases hd with ⟨e2, _⟩ | ⟨l', e2, hds⟩
    · rw [e1] at e2; cases e2
    · rw [e1] at e2; cases e2
      exact leaves_ok T hcall st s ht hds hk
  · exact Rs.noConfusion hk
theorem leave0_ok (T : TabOk P ty) {fn : Func} {a : Array Value} {ds : List Deferred} {m0 : Mp} {h0 : AH} {w0 : World} {m : Mp} {h : XH} {w : World} {e : EV} {K : KV} (st : Steps m0 h0 w0 m h.ah w) (s : Sim m h.ah w) (ht : VsRel m (view N e) a.toList) (hd : DRelX none m (eget e 255) ds)
    (hk : leave0 (sr N ty fn.results.toList) e h K = .ok) : ds = [] ∧ ∃ v, (results fn a).run P w = .ok v w ∧ Post m0 h0 w0 (KX2 K) v w := by
  have hk := sel255 (show selE .d15 e (fun r => selA .d15 r fun u => dfrX u (resX (sr N ty fn.results.toList) e h fun l => oneOfX l fun v => K v h) (fun _ => .bad 90) (fun _ => .bad 90)) = .ok from hk)
  rcases dfrX_ok hk with ⟨e1, hk⟩ | ⟨l, e1, hk⟩ | ⟨l, e1, hk⟩
  · rcases hd with ⟨_, rfl⟩ | ⟨l, e2, _⟩
    · obtain ⟨v, v', h1, h2, h3⟩ := results_ok T s ht hk
      exact ⟨rfl, v', h1, m, _, v, s, st, h2, h, rfl, h3⟩
    · rw [e1] at e2; cases e2
  · exact Rs.noConfusion hk
  · exact Rs.noConfusion hk

/-- What is asked of the table of functions. -/
def FtOk (P : Program) (ft : FT) : Prop := ∀ f fn, ft.find f = some fn → P.funcs[f]? = some fn ∧ (fn.name == "runtime.NumGoroutine") = false
def ExOk (P : Program) (ex : List (Nat × Nat)) : Prop := ∀ f fn, P.funcs[f]? = some fn → fn.body.isNone = true → (extOf ex f = 1 → (Extern.findNext fn).isNone = true ∧ Extern.find fn = some Extern.AbiNoEscape.same) ∧ (extOf ex f = 5 → (Extern.findNext fn).isNone = true ∧ Extern.find fn = some Extern.BytealgCompare.compare)

theorem fn_calls (T : TabOk P ty) (hla : ∀ a n o t, la a n o t = true → liesAt P P.depth a (n / P.cellsOf a) o t 1 = true) (hcall : CallOk P call) (hm : P.follows .mixedOrders = true) {f : FuncId} {fn : Func} {c : Code} (hf : P.funcs[f]? = some fn) (hb : fn.body = some c) {md : Nat} (hmd : md ≠ 2) {args : List AV} {h : XH} {K : KV}
    (hk : callF la (.code fn.ntmps (sc fn.ntmps ty c) (sr fn.ntmps ty fn.results.toList)) md call args h K = .ok) {m : Mp} {w : World} {args' : Array Value} (s : Sim m h.ah w) (ha : VsRel m args args'.toList) :
    CallsIn Fence.wide 0 P f args' w fun e w' => ∃ v, e = .returned v ∧ Post m h.ah w (KX2 K) v w' := by
  obtain ⟨hN, hk⟩ := iteN_bad (show iteN fn.ntmps 240 (argsX fn.ntmps args 0 z2 fun e => runC la fn.ntmps (sc fn.ntmps ty c) call e h (fun e h => leaveM md (sr fn.ntmps ty fn.results.toList) call e h K) (fun _ _ _ => .bad 57) (fun e h => leaveM md (sr fn.ntmps ty fn.results.toList) call e h K)) (.bad 61) = .ok from hk)
  have fin : ∀ {e : EV} {hx : XH}, leaveM md (sr fn.ntmps ty fn.results.toList) call e hx K = .ok → leaveX (sr fn.ntmps ty fn.results.toList) call e hx K = .ok := by
    intro e hx hq
    rcases iteE_ok hq with ⟨e1, _⟩ | ⟨_, hq⟩
    · exact (hmd e1).elim
    · exact hq
  refine callsIn_of_wp_marks hf hb trivial (wpIn_mono (body_wp T hla hcall hm hN hk s ha) fun ex a' w' hp => ?_)
  obtain ⟨m', hx, e', s', st, ht, hd, hk'⟩ := hp
  cases ex with
  | normal => exact leaveX_ok T hcall st s' ht hd (fin hk')
  | ret => exact leaveX_ok T hcall st s' ht hd (fin hk')
  | exit i => exact Rs.noConfusion hk'
  | _ => exact hk'.elim
theorem fn_dfr (T : TabOk P ty) (hla : ∀ a n o t, la a n o t = true → liesAt P P.depth a (n / P.cellsOf a) o t 1 = true) (hcall : CallOk P call) (hm : P.follows .mixedOrders = true) {f : FuncId} {fn : Func} {c : Code} (hf : P.funcs[f]? = some fn) (hb : fn.body = some c) {args : List AV} {h : XH} {K : KV}
    (hk : callF la (.code fn.ntmps (sc fn.ntmps ty c) (sr fn.ntmps ty fn.results.toList)) 2 call args h K = .ok) {m : Mp} {w : World} {args' : Array Value} {u : FrameMode} (s : Sim m h.ah w) (ha : VsRel m args args'.toList) :
    CallsDIn Fence.wide 0 P f args' u w fun e u' w' => u' = u ∧ ∃ v, e = .returned v ∧ Post m h.ah w (KX2 K) v w' := by
  obtain ⟨hN, hk⟩ := iteN_bad (show iteN fn.ntmps 240 (argsX fn.ntmps args 0 z2 fun e => runC la fn.ntmps (sc fn.ntmps ty c) call e h (fun e h => leaveM 2 (sr fn.ntmps ty fn.results.toList) call e h K) (fun _ _ _ => .bad 57) (fun e h => leaveM 2 (sr fn.ntmps ty fn.results.toList) call e h K)) (.bad 61) = .ok from hk)
  refine callsDIn_of_wp (R := fun e w' => ∃ v, e = .returned v ∧ Post m h.ah w (KX2 K) v w') hf hb trivial (wpIn_mono (body_wp T hla hcall hm hN hk s ha) fun ex a' w' hp => ?_)
  obtain ⟨m', hx, e', s', st, ht, hd, hk'⟩ := hp
  have fin : leave0 (sr fn.ntmps ty fn.results.toList) e' hx K = .ok → a'.defers = [] ∧ ∃ v, (results fn a'.tmps).run P w' = .ok v w' ∧ ∃ u, Ending.returned v = .returned u ∧ Post m h.ah w (KX2 K) u w' := by
    intro hq
    obtain ⟨h1, v, h2, h3⟩ := leave0_ok T st s' ht hd hq
    exact ⟨h1, v, h2, v, rfl, h3⟩
  cases ex with
  | normal => exact fin hk'
  | ret => exact fin hk'
  | exit i => exact Rs.noConfusion hk'
  | _ => exact hk'.elim

/-! ### Rounds -/
theorem loopBegin_ok {l : Nat} {h : XH} {K : XH → Rs} (hk : loopBegin l h K = .ok) {m : Mp} {w : World} (s : Sim m h.ah w) {sl : Slot} (hm : m l = some sl) : ∃ h2 w2, (Instr.beginRound sl.cb).run P w = .ok () w2 ∧ K h2 = .ok ∧ Sim m (XH.ah h2) w2 ∧ Steps m h.ah w m (XH.ah h2) w2 := by
  obtain ⟨_, hk⟩ := getO_ok (show getO l h _ = .ok from hk)
  obtain ⟨st, pend, tm, ps, asg, body, d, e1, hk⟩ := asLoop_ok hk
  have hst : st = .ready := by cases st <;> first | rfl | exact Rs.noConfusion hk
  subst hst
  have hk : setO l (some (.loop .busy pend tm ps asg body d)) h K = .ok := hk
  obtain ⟨h2, hk, e2⟩ := setO_ok hk
  obtain ⟨_, ob, hw, hob⟩ := s.objs l _ sl e1 (by simp) hm
  cases hob with | loop _ _ fn _ _ _ _ _ ct cd q1 q2 =>
  obtain ⟨s2, st2⟩ := s.setObj (o' := .loop .busy pend tm ps asg body d) e1 (by simp) hm hw (by simp) (.loop .busy pend fn tm ps asg body d ct cd q1 q2)
  rw [← e2] at s2 st2
  exact ⟨h2, _, run_beginRound hw rfl, hk, s2, st2⟩
theorem loopEnd_ok {l : Nat} {st : LoopState} {pend : Option Code} {b : Bool} {K : KV} {e : EV} {h : XH} (hk : loopEnd l st pend b K e h = .ok) (hb : b = pend.isNone) (hst : st = if pend.isNone then .ready else .done) {m : Mp} {w : World} (s : Sim m h.ah w) {sl : Slot} (hm : m l = some sl)
    {m0 : Mp} {h0 : AH} {w0 : World} (st0 : Steps m0 h0 w0 m h.ah w) : ∃ v w2, (Instr.endRound sl.cb pend).run P w = .ok v w2 ∧ Post m0 h0 w0 (KX2 K) v w2 := by
  obtain ⟨_, hk⟩ := getO_ok (show getO l h _ = .ok from hk)
  obtain ⟨st1, pend1, tm, ps, asg, body, d, e1, hk⟩ := asLoop_ok hk
  obtain ⟨h2, hk9, e2⟩ := setO_ok hk
  obtain ⟨_, ob, hw, hob⟩ := s.objs l _ sl e1 (by simp) hm
  cases hob with | loop _ _ fn _ _ _ _ _ ct cd q1 q2 =>
  obtain ⟨s2, st2⟩ := s.setObj (o' := .loop st pend tm ps asg body d) e1 (by simp) hm hw (by simp) (.loop st pend fn tm ps asg body d ct cd q1 q2)
  rw [← e2] at s2 st2
  subst hst
  exact ⟨_, _, run_endRound pend hw, m, _, .bool b, s2, st0.trans st2, by rw [hb]; exact .bool _, h2, rfl, hk9⟩
theorem parsX_ok (hN : N ≤ 240) {m : Mp} : ∀ {ps : List Tmp} {vs : List AV} {e : EV} {K : EV → Rs} {vs' : List Value} {tm : Array Value}, parsX N ps vs e K = .ok → VsRel m vs vs' → VsRel m (view N e) tm.toList →
    ∃ e', K e' = .ok ∧ ps.length = vs.length ∧ VsRel m (view N e') ((ps.zip vs').foldl (fun (tmps : Array Value) (x : Tmp × Value) => tmps.setIfInBounds x.1 x.2) tm).toList ∧ eget e' 255 = eget e 255
  | [], [], e, K, _, tm, h, .nil, ht => ⟨e, h, rfl, ht, rfl⟩
  | [], _ :: _, _, _, _, _, h, _, _ => Rs.noConfusion h
  | _ :: _, [], _, _, _, _, h, _, _ => Rs.noConfusion h
  | p :: ps, v :: vs, e, K, _, tm, h, .cons _ v' _ vs' hv hvs, ht => by
    obtain ⟨e1, h, g1, g2⟩ := putX_ok hN (d := some p) (show putX (sdo N (some p)) v e (fun e => parsX N ps vs e K) = .ok from h)
    have h1 : VsRel m (view N e1) (tm.setIfInBounds p v').toList := by
      rw [g1]
      have := putA_rel (a := { tmps := tm, defers := [] }) ht (some p) hv
      exact this
    obtain ⟨e', q1, q2, q3, q4⟩ := parsX_ok hN h hvs h1
    exact ⟨e', q1, by simp [q2], q3, q4.trans g2⟩
theorem yield_ok (T : TabOk P ty) (hla : ∀ a n o t, la a n o t = true → liesAt P P.depth a (n / P.cellsOf a) o t 1 = true) (hcall : CallOk P call) (hm : P.follows .mixedOrders = true) {l : Nat} {args : List AV} {h : XH} {K : KV} (hk : yieldX la ty call l args h K = .ok) :
    ACall P (.func (.yield l) [] []) args h.ah (KX2 K) := by
  intro m w F' args' s hF ha
  cases hF with | func _ fn' _ _ a1 a2 hfn q1 q2 =>
  cases hfn with | yield _ sl hsl =>
  have e1 : a1 = #[] := by cases a1; cases q1; rfl
  have e2 : a2 = #[] := by cases a2; cases q2; rfl
  subst e1; subst e2
  obtain ⟨_, hk⟩ := getO_ok (show getO l h _ = .ok from hk)
  obtain ⟨st, pend, tm, ps, asg, body, d, g1, hk⟩ := asLoop_ok hk
  have hst : st = .ready := by cases st <;> first | rfl | exact Rs.noConfusion hk
  subst hst
  have hk : lenX tm 0 (fun N => iteN N 240 (argsX N tm 0 z2 fun e => updA .d15 z1 (.map (some l)) fun r => updE .d15 e r fun e => parsX N ps.toList args e fun e =>
      runC la N (sc N ty asg) call e h (fun e h => loopBegin l h fun h => runC la N (sc N ty body) call e h (loopEnd l .ready none true K) (fun i => loopEnd l .done (some (.exit i)) false K) (loopEnd l .done (some .ret) false K)) (fun _ _ _ => .bad 93) (fun _ _ => .bad 93)) (.bad 61)) = .ok := hk
  rw [lenX_eq, Nat.zero_add] at hk
  obtain ⟨hN, hk⟩ := iteN_bad hk
  generalize hNl : tm.length = N at *
  obtain ⟨e, hk, g2, g3⟩ := view_args hN hk
  obtain ⟨_, hk⟩ := updA_ok hk
  obtain ⟨_, hk⟩ := updE_ok hk
  have hview : view N (e.set .d15 (z1.set .d15 (.map (some l)))) = tm := by
    have : view N e = tm := by rw [g2, hNl]; simp
    rw [← this]
    apply List.ext_getElem?
    intro i
    by_cases hi : i < N
    · rw [view_get hi, view_get hi]
      congr 1
      unfold eget
      rw [N16.get_set _ _ _ _ (by simp) (dig_ne (by omega)), if_neg]
      intro h15
      have h16 : digN (dig (i / 16)) = digN .d15 := by rw [← h15]
      rw [digN_dig (by omega)] at h16
      simp [digN] at h16; omega
    · rw [List.getElem?_eq_none (by rw [view_length]; omega), List.getElem?_eq_none (by rw [view_length]; omega)]
  have h255 : eget (e.set .d15 (z1.set .d15 (.map (some l)))) 255 = .map (some l) := rfl
  obtain ⟨_, ob, hw, hob⟩ := s.objs l _ sl g1 (by simp) hsl
  cases hob with | loop _ _ fn _ _ _ _ _ ct cd p1 p2 =>
  obtain ⟨e', hk, g4, g5, g6⟩ := parsX_ok (tm := ct.toArray) hN hk ha (by rw [hview]; simpa using p1)
  have hargs : (args'.toArray).size = ps.size := by
    have := ha.length
    simp at g4 ⊢; omega
  have hrun : (do let d ← Deferred.ofValue (.func (.yield sl.cb) #[] #[]) args'.toArray; invoke d.target d.args : Sem Next).run P w =
      .ok (.round sl.cb fn ((ps.zip args'.toArray).foldl (fun tmps (x : Tmp × Value) => tmps.setIfInBounds x.1 x.2) ct.toArray) asg body) w := by
    have := run_yield (P := P) (args := args'.toArray) hw hargs
    have h2 : (do let d ← Deferred.ofValue (.func (.yield sl.cb) #[] #[]) args'.toArray; invoke d.target d.args : Sem Next).run P w = (Instr.yield sl.cb args'.toArray).run P w := by
      simp [Deferred.ofValue, invoke]
    rw [h2]; exact this
  rw [hrun]
  have hzip : ((ps.zip args'.toArray).foldl (fun (tmps : Array Value) (x : Tmp × Value) => tmps.setIfInBounds x.1 x.2) ct.toArray) = ((ps.toList.zip args').foldl (fun (tmps : Array Value) (x : Tmp × Value) => tmps.setIfInBounds x.1 x.2) ct.toArray) := by
    rw [← Array.foldl_toList]; simp
  rw [hzip]
  show RoundIn Fence.wide 0 P sl.cb fn _ asg body w _
  refine roundIn_of_wpIn trivial (wpIn_mono (runC_ok T hla hcall hm hN (.inr ⟨sl.cb, rfl⟩) asg m h w e' { tmps := _, defers := [] } _ _ _ s g5 ⟨l, sl, by rw [g6, h255], hsl, rfl⟩ hk) fun ex a1 w1 hp => ?_)
  obtain ⟨m1, h1, e1, s1, st1, ht1, hd1, hk1⟩ := hp
  cases ex with
  | normal =>
    have hm1 := st1.map _ _ hsl
    obtain ⟨h2, w2, r1, hk2, s2, st2⟩ := loopBegin_ok (P := P) hk1 s1 hm1
    refine ⟨w2, r1, wpIn_mono (runC_ok T hla hcall hm hN (.inr ⟨sl.cb, rfl⟩) body m1 h2 w2 e1 a1 _ _ _ s2 ht1 hd1 hk2) fun ex a3 w3 hp => ?_⟩
    obtain ⟨m3, h3, e3, s3, st3, ht3, hd3, hk3⟩ := hp
    have sts := (st1.trans st2).trans st3
    have hm3 := st3.map _ _ hm1
    cases ex with
    | normal =>
      obtain ⟨v, w4, q1, q2⟩ := loopEnd_ok (P := P) hk3 rfl rfl s3 hm3 sts
      exact ⟨v, w4, q1, v, rfl, q2⟩
    | ret =>
      obtain ⟨v, w4, q1, q2⟩ := loopEnd_ok (P := P) hk3 rfl rfl s3 hm3 sts
      exact ⟨v, w4, q1, v, rfl, q2⟩
    | exit i =>
      obtain ⟨v, w4, q1, q2⟩ := loopEnd_ok (P := P) hk3 rfl rfl s3 hm3 sts
      exact ⟨v, w4, q1, v, rfl, q2⟩
    | _ => exact hk3.elim
  | exit i => exact Rs.noConfusion hk1
  | ret => exact Rs.noConfusion hk1
  | _ => exact hk1.elim

/-! ### All calls -/
theorem nilL_ok {l : List AV} {R : Rs} (h : nilL l R = .ok) : l = [] ∧ R = .ok := by
  cases l
  · exact ⟨rfl, h⟩
  · exact Rs.noConfusion h
theorem hd_ok {l : List AV} {K : AV → List AV → Rs} (h : hd l K = .ok) : ∃ a r, l = a :: r ∧ K a r = .ok := by
  cases l
  · exact Rs.noConfusion h
  · exact ⟨_, _, rfl, h⟩
theorem ext_ok {f : FuncId} {fn : Func} (hf : P.funcs[f]? = some fn) (hn : (fn.name == "runtime.NumGoroutine") = false) (hb : fn.body.isNone = true) (h1 : (Extern.findNext fn).isNone = true) {e : Array Value → Sem Value} (h2 : Extern.find fn = some e)
    {l1 args l2 : List AV} {h : AH} {R : AV → AH → Prop} (hrun : ∀ (m : Mp) (w : World) (args' : List Value), Sim m h w → VsRel m (l1 ++ args ++ l2) args' → ∃ v' w', (e args'.toArray).run P w = .ok v' w' ∧ Post m h w R v' w') : ACall P (.func (.func f) l1 l2) args h R := by
  intro m w F' args' s hF ha
  cases hF with | func _ fn' _ _ a1 a2 hfn q1 q2 =>
  cases hfn with | func =>
  obtain ⟨v', w', g1, g2⟩ := hrun m w (a1.toList ++ args' ++ a2.toList) s ((q1.append ha).append q2)
  have hn' : ¬ fn.name = "runtime.NumGoroutine" := by simpa using hn
  have h1' : Extern.findNext fn = none := by simpa using h1
  have hbn : fn.body = none := by simpa using hb
  have e1 : (a1.toList ++ args' ++ a2.toList).toArray = a1 ++ args'.toArray ++ a2 := by apply Array.ext'; simp
  rw [e1, Array.append_assoc] at g1
  have : (do let d ← Deferred.ofValue (.func (.func f) a1 a2) args'.toArray; invoke d.target d.args : Sem Next).run P w = .ok (.value v') w' := by
    simp [Deferred.ofValue, invoke, callFunc, hf, hn', hbn, h1', h2, g1]
  rw [this]
  exact g2
theorem ba_get (l : List UInt8) (i : Nat) : (⟨l.toArray⟩ : ByteArray)[i]! = l.getD i 0 := by
  have hsz : (⟨l.toArray⟩ : ByteArray).size = l.length := by simp [ByteArray.size]
  by_cases h : i < l.length
  · rw [getElem!_pos _ _ (by rw [hsz]; exact h)]
    show l.toArray[i] = _
    simp [List.getD_eq_getElem?_getD, h]
  · rw [getElem!_neg _ _ (by rw [hsz]; exact h)]
    rw [List.getD_eq_getElem?_getD, List.getElem?_eq_none (by omega)]
    rfl
def cmpL (a b : List UInt8) : Int :=
  match (List.range (min a.length b.length)).find? fun i => a.getD i 0 != b.getD i 0 with
  | some i => if a.getD i 0 < b.getD i 0 then -1 else 1
  | none => if a.length < b.length then -1 else if a.length > b.length then 1 else 0
theorem cmpL_eq : ∀ (a b : List UInt8), cmpL a b = if Op.bytesLess a b then -1 else if a == b then 0 else 1
  | [], [] => rfl
  | [], _ :: _ => by simp [cmpL, Op.bytesLess]
  | _ :: _, [] => by simp [cmpL, Op.bytesLess]
  | x :: a, y :: b => by
    have ih := cmpL_eq a b
    have hr : List.range (min (x :: a).length (y :: b).length) = 0 :: (List.range (min a.length b.length)).map Nat.succ := by
      simp only [List.length_cons, Nat.add_min_add_right]
      exact List.range_succ_eq_map
    unfold cmpL
    rw [hr, List.find?_cons]
    by_cases hxy : x = y
    · subst hxy
      have h0 : ((x :: a).getD 0 0 != (x :: b).getD 0 0) = false := by simp
      rw [h0, List.find?_map]
      have hc : ((fun i => (x :: a).getD i 0 != (x :: b).getD i 0) ∘ Nat.succ) = fun i => a.getD i 0 != b.getD i 0 := by
        funext i; simp
      rw [hc]
      have hl : Op.bytesLess (x :: a) (x :: b) = Op.bytesLess a b := by simp [Op.bytesLess]
      rw [hl, show ((x :: a) == (x :: b)) = (a == b) by simp, ← ih]
      unfold cmpL
      cases (List.range (min a.length b.length)).find? fun i => a.getD i 0 != b.getD i 0 with
      | none => simp
      | some i => simp
    · have h0 : ((x :: a).getD 0 0 != (y :: b).getD 0 0) = true := by simp [hxy]
      rw [h0]
      have hl : Op.bytesLess (x :: a) (y :: b) = decide (x < y) := by simp [Op.bytesLess, hxy]
      have he : ((x :: a) == (y :: b)) = false := by simp [hxy]
      rw [hl, he]
      simp
theorem cmpB_eq (a b : Str) : cmpB a b = if Op.bytesLess a b then -1 else if a == b then 0 else 1 := by
  rw [← cmpL_eq]
  unfold cmpB Extern.BytealgCompare.cmp cmpL
  simp only [ba_get]
  rfl
theorem xcall_ok (T : TabOk P ty) (hla : ∀ a n o t, la a n o t = true → liesAt P P.depth a (n / P.cellsOf a) o t 1 = true) (hm : P.follows .mixedOrders = true) {ft : FT} {ex : List (Nat × Nat)} (hft : FtOk P ft) (hex : ExOk P ex) : ∀ n, CallOk P (xcall la ty ft ex n)
  | 0 => ⟨fun _ _ _ _ _ _ hk => Rs.noConfusion hk, fun _ _ _ _ hk => Rs.noConfusion hk, fun _ _ _ _ hk => Rs.noConfusion hk⟩
  | n + 1 => by
    have ih := xcall_ok T hla hm hft hex n
    have body : ∀ {md : Nat} {f : FuncId} {args : List AV} {h : XH} {K : KV}, callF la (sf ty ft ex f) md (xcall la ty ft ex n) args h K = .ok →
        ∃ fn, P.funcs[f]? = some fn ∧ (fn.name == "runtime.NumGoroutine") = false ∧ ((∃ c, fn.body = some c ∧ callF la (.code fn.ntmps (sc fn.ntmps ty c) (sr fn.ntmps ty fn.results.toList)) md (xcall la ty ft ex n) args h K = .ok) ∨ (fn.body = none ∧ md = 0 ∧ extX (extOf ex f) args h K = .ok)) := by
      intro md f args h K hk
      unfold sf at hk
      split at hk
      · exact Rs.noConfusion hk
      · rename_i fn hfn
        obtain ⟨q1, q2⟩ := hft f fn hfn
        refine ⟨fn, q1, q2, ?_⟩
        split at hk
        · rename_i hb
          obtain ⟨e1, hk⟩ := iteE_bad (show iteE md 0 (extX (extOf ex f) args h K) (.bad 58) = .ok from hk)
          exact .inr ⟨hb, e1, hk⟩
        · rename_i c hb
          exact .inl ⟨c, hb, hk⟩
    have enter : ∀ {md : Nat} {f : AV} {args : List AV} {h : XH} {K : KV}, xcall la ty ft ex (n + 1) md f args h K = .ok →
        (∃ fid l1 l2, f = .func (.func fid) l1 l2 ∧ callF la (sf ty ft ex fid) md (xcall la ty ft ex n) (l1 ++ args ++ l2) h K = .ok) ∨ (md = 0 ∧ ∃ l, f = .func (.yield l) [] [] ∧ yieldX la ty (xcall la ty ft ex n) l args h K = .ok) := by
      intro md f args h K hk
      have hk : asCall f (fun f l1 l2 => appX args l2 fun a => appX l1 a fun a => callF la (sf ty ft ex f) md (xcall la ty ft ex n) a h K) (fun l l1 l2 => nilL l1 (nilL l2 (iteE md 0 (yieldX la ty (xcall la ty ft ex n) l args h K) (.bad 60)))) = .ok := hk
      rcases asCall_ok hk with ⟨fid, l1, l2, e1, hk⟩ | ⟨l, l1, l2, e1, hk⟩
      · rw [appX_eq, appX_eq] at hk
        exact .inl ⟨fid, l1, l2, e1, by rw [List.append_assoc]; exact hk⟩
      · obtain ⟨e2, hk⟩ := nilL_ok hk
        obtain ⟨e3, hk⟩ := nilL_ok hk
        obtain ⟨e4, hk⟩ := iteE_bad hk
        exact .inr ⟨e4, l, by rw [e1, e2, e3], hk⟩
    refine ⟨fun md f args h K hmd hk => ?_, fun f args h K hk => ?_, fun f args h K hk => ?_⟩
    · rcases enter hk with ⟨fid, l1, l2, rfl, hk2⟩ | ⟨_, l, rfl, hk2⟩
      · obtain ⟨fn, hf, hn, hk⟩ := body hk2
        have hn' : ¬ fn.name = "runtime.NumGoroutine" := by simpa using hn
        rcases hk with ⟨c, hb, hk⟩ | ⟨hb, _, hk⟩
        · intro m w F' args' s hF ha
          cases hF with | func _ fn' _ _ a1 a2 hfn h1 h2 =>
          cases hfn with | func =>
          have hb' : ¬ fn.body = none := fun e => by rw [hb] at e; cases e
          have hr : (do let d ← Deferred.ofValue (.func (.func fid) a1 a2) args'.toArray; invoke d.target d.args : Sem Next).run P w = .ok (.enter fid (a1 ++ args'.toArray ++ a2)) w := by
            simp [Deferred.ofValue, invoke, callFunc, hf, hn', hb']
          rw [hr]
          exact fn_calls T hla ih hm hf hb hmd hk s (by simp only [Array.toList_append]; exact (h1.append ha).append h2)
        · have hbn : fn.body.isNone = true := by rw [hb]; rfl
          obtain ⟨x1, x5⟩ := hex fid fn hf hbn
          rcases iteE_ok (show iteE (extOf ex fid) 1 _ _ = .ok from hk) with ⟨e1, hk⟩ | ⟨_, hk⟩
          · obtain ⟨v, r, e2, hk⟩ := hd_ok hk
            obtain ⟨y1, y2⟩ := x1 e1
            cases r with
            | cons => exact Rs.noConfusion hk
            | nil =>
              have hk : K v h = .ok := hk
              refine ext_ok hf hn hbn y1 y2 fun m w args' s ha => ?_
              rw [e2] at ha
              cases ha with | cons _ v' _ _ hv hnil =>
              cases hnil
              exact ⟨v', w, rfl, m, _, v, s, Steps.refl _ _ _, hv, h, rfl, hk⟩
          · rcases iteE_ok hk with ⟨e1, hk⟩ | ⟨_, hk⟩
            · obtain ⟨y1, y2⟩ := x5 e1
              obtain ⟨v1, r1, e2, hk⟩ := hd_ok hk
              obtain ⟨sa, e3, hk⟩ := asStr_ok hk
              obtain ⟨v2, r2, e4, hk⟩ := hd_ok hk
              obtain ⟨sb, e5, hk⟩ := asStr_ok hk
              obtain ⟨e6, hk⟩ := nilL_ok hk
              have hk : K (.int .i64 (cmpB sa sb)) h = .ok := by
                rw [cmpB_eq]
                have h1 := iteB_ok hk
                rw [ltS_eq] at h1
                cases hl : Op.bytesLess sa sb with
                | true => rw [hl] at h1; exact h1
                | false =>
                  rw [hl] at h1
                  have h2 := iteB_ok (b := eqS sa sb) h1
                  rw [eqS_eq] at h2
                  cases he : sa == sb with
                  | true => rw [he] at h2; exact h2
                  | false => rw [he] at h2; exact h2
              refine ext_ok hf hn hbn y1 y2 fun m w args' s ha => ?_
              rw [e2, e4, e3, e5, e6] at ha
              cases ha with | cons _ v1' _ _ hv1 hr =>
              cases hr with | cons _ v2' _ _ hv2 hnil =>
              cases hnil
              cases hv1; cases hv2
              exact ⟨_, w, rfl, m, _, _, s, Steps.refl _ _ _, .int _ _, h, rfl, hk⟩
            · exact Rs.noConfusion hk
      · exact yield_ok T hla ih hm hk2
    · rcases enter hk with ⟨fid, l1, l2, rfl, hk2⟩ | ⟨e, _⟩
      · obtain ⟨fn, hf, hn, hk⟩ := body hk2
        rcases hk with ⟨c, hb, hk⟩ | ⟨_, e, _⟩
        · exact ⟨fid, l1, l2, fn, rfl, hf, by rw [hb]; rfl, hn⟩
        · cases e
      · cases e
    · rcases enter hk with ⟨fid, l1, l2, rfl, hk2⟩ | ⟨e, _⟩
      · obtain ⟨fn, hf, hn, hk⟩ := body hk2
        rcases hk with ⟨c, hb, hk⟩ | ⟨_, e, _⟩
        · exact ⟨fid, l1, l2, fn, rfl, hf, by rw [hb]; rfl, hn, fun m w args' u s ha => fn_dfr T hla ih hm hf hb hk s ha⟩
        · cases e
      · cases e
end Go.La
/- Layer X, part 17: a run from nothing, taken into any heap. -/
namespace Go.La
open Go Go.RowKit

variable {P : Program} {ty : TT} {la : LT}

noncomputable def emptyX : XH := ⟨1, N16.all (N16.all (N16.all none))⟩
theorem emptyX_get (b : Nat) : emptyX.ah.get b = none := by
  show (if b < 4096 then emptyX.obj b else none) = none
  split
  · simp only [XH.obj, emptyX, N16.get_all]
  · rfl
/-- A call that needs nothing of the heap, and hands back what is no place in it, leaves any heap as it is. -/
theorem ACall.anywhere {F : AV} (hF : ∀ (m : Mp) (v : Value), VRel m F v → VRel (fun _ => none) F v) {v : AV} (hv : ∀ (m m' : Mp) (x : Value), VRel m v x → VRel m' v x) (hc : ACall P F [] emptyX.ah fun u _ => u = v) (h : AH) : ACall P F [] h fun u h' => u = v ∧ h' = h := by
  intro m w F' args' s hFr ha
  have h0 : ∀ b, emptyX.ah.get b = none := emptyX_get
  have s0 : Sim (fun _ => none) emptyX.ah w :=
    ⟨fun b _ => ⟨h0 b, rfl⟩, (fun b o hb => by rw [h0] at hb; cases hb), (fun b _ _ _ _ _ hb => by rw [h0] at hb; cases hb), (fun b _ _ _ _ _ _ _ _ _ _ hb => by rw [h0] at hb; cases hb), (fun b _ _ hb => by rw [h0] at hb; cases hb), fun b _ _ _ _ _ hb => by rw [h0] at hb; cases hb⟩
  cases ha
  refine (hc (fun _ => none) w F' [] s0 (hF m F' hFr) .nil).mono ?_
  rintro x w' ⟨m', h', u, s', st, hu, rfl⟩
  have keep : ∀ k, k < w.heap.size → w'.heap[k]? = w.heap[k]? := fun k hk => st.keep k hk (fun b o t hb => by rw [h0] at hb; cases hb)
  refine ⟨m, h, _, s.heap_of st.size (fun b o t hb ht => ?_), ⟨Nat.le_refl _, Mp.le.refl m, st.size, st.os, st.tape, st.out, fun k hk _ => keep k hk, fun b o t hb hf ht => .inr ⟨b, o, t, hb, hf, ht, rfl⟩, fun b o t hb ht => .inr ⟨b, o, t, hb, ht, rfl⟩, fun _ _ h => h, fun _ _ h => h⟩, hv _ _ _ hu, rfl, rfl⟩
  obtain ⟨t', ht', hl⟩ := s.lies b o hb
  rw [ht] at ht'; cases ht'
  exact keep _ hl
noncomputable def trueX : KV := fun v _ => asBool v .ok (.bad 200)
theorem run_true (T : TabOk P ty) (hla : ∀ a n o t, la a n o t = true → liesAt P P.depth a (n / P.cellsOf a) o t 1 = true) (hm : P.follows .mixedOrders = true) {ft : FT} {ex : List (Nat × Nat)} (hft : FtOk P ft) (hex : ExOk P ex) {n : Nat} {f : FuncId}
    (hk : xcall la ty ft ex n 0 (.func (.func f) [] []) [] emptyX trueX = .ok) (h : AH) : ACall P (.func (.func f) [] []) [] h fun v h' => v = .bool true ∧ h' = h := by
  refine ACall.anywhere (fun m v hv => ?_) (fun m m' x hx => ?_) (((xcall_ok T hla hm hft hex n).plain 0 _ _ _ _ (by decide) hk).mono fun v h' hx => ?_) h
  · cases hv with | func _ fn' _ _ a1 a2 hfn q1 q2 =>
    cases hfn
    have e1 : a1 = #[] := by cases a1; cases q1; rfl
    have e2 : a2 = #[] := by cases a2; cases q2; rfl
    subst e1; subst e2
    exact .func _ _ [] [] #[] #[] (.func f) .nil .nil
  · cases hx; exact .bool _
  · obtain ⟨hx, _, hk⟩ := hx
    obtain ⟨b, rfl, hk⟩ := asBool_ok hk
    cases b with
    | true => rfl
    | false => exact Rs.noConfusion hk
end Go.La
