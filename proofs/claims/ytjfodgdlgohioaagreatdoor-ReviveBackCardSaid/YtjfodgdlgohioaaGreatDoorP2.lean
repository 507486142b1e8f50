/- Part 2 of the proof: LaX1, LaX2, LaS, LaX3, LaX4, LaX5. By an AI agent. -/
import Derived.Test.YtjfodgdlgohioaaGreatDoorP1
set_option linter.all false
/- Layer X, part 1: nodes of sixteen, and what tells values apart, by raw recursors: made for the kernel. (Printed by gx.py.) -/
namespace Go.La
open Go
inductive Rs where
  | ok
  | bad (n : Nat)
inductive D16 where
  | d0 | d1 | d2 | d3 | d4 | d5 | d6 | d7 | d8 | d9 | d10 | d11 | d12 | d13 | d14 | d15 | no
  deriving DecidableEq
structure N16 (α : Type) where
  mk ::
  (c0 c1 c2 c3 c4 c5 c6 c7 c8 c9 c10 c11 c12 c13 c14 c15 : α)
def N16.all {α : Type} (a : α) : N16 α := ⟨a, a, a, a, a, a, a, a, a, a, a, a, a, a, a, a⟩
def N16.get {α : Type} (n : N16 α) : D16 → α
  | .d0 => n.c0
  | .d1 => n.c1
  | .d2 => n.c2
  | .d3 => n.c3
  | .d4 => n.c4
  | .d5 => n.c5
  | .d6 => n.c6
  | .d7 => n.c7
  | .d8 => n.c8
  | .d9 => n.c9
  | .d10 => n.c10
  | .d11 => n.c11
  | .d12 => n.c12
  | .d13 => n.c13
  | .d14 => n.c14
  | .d15 => n.c15
  | .no => n.c0
def N16.set {α : Type} (n : N16 α) : D16 → α → N16 α
  | .d0, v => { n with c0 := v }
  | .d1, v => { n with c1 := v }
  | .d2, v => { n with c2 := v }
  | .d3, v => { n with c3 := v }
  | .d4, v => { n with c4 := v }
  | .d5, v => { n with c5 := v }
  | .d6, v => { n with c6 := v }
  | .d7, v => { n with c7 := v }
  | .d8, v => { n with c8 := v }
  | .d9, v => { n with c9 := v }
  | .d10, v => { n with c10 := v }
  | .d11, v => { n with c11 := v }
  | .d12, v => { n with c12 := v }
  | .d13, v => { n with c13 := v }
  | .d14, v => { n with c14 := v }
  | .d15, v => { n with c15 := v }
  | .no, _ => n
theorem N16.get_set {α : Type} (n : N16 α) (d e : D16) (v : α) (hd : d ≠ .no) (he : e ≠ .no) : (n.set d v).get e = if d = e then v else n.get e := by
  cases d <;> cases e <;> first | rfl | exact (hd rfl).elim | exact (he rfl).elim
theorem N16.get_all {α : Type} (a : α) (d : D16) : (N16.all a).get d = a := by cases d <;> rfl
noncomputable def selA (d : D16) (t : N16 (AV)) (K : AV → Rs) : Rs :=
  D16.rec (motive := fun _ => N16 (AV) → (AV → Rs) → Rs)
    (fun t K => N16.rec (motive := fun _ => Rs) (fun c0 _ _ _ _ _ _ _ _ _ _ _ _ _ _ _ => K c0) t)
    (fun t K => N16.rec (motive := fun _ => Rs) (fun _ c1 _ _ _ _ _ _ _ _ _ _ _ _ _ _ => K c1) t)
    (fun t K => N16.rec (motive := fun _ => Rs) (fun _ _ c2 _ _ _ _ _ _ _ _ _ _ _ _ _ => K c2) t)
    (fun t K => N16.rec (motive := fun _ => Rs) (fun _ _ _ c3 _ _ _ _ _ _ _ _ _ _ _ _ => K c3) t)
    (fun t K => N16.rec (motive := fun _ => Rs) (fun _ _ _ _ c4 _ _ _ _ _ _ _ _ _ _ _ => K c4) t)
    (fun t K => N16.rec (motive := fun _ => Rs) (fun _ _ _ _ _ c5 _ _ _ _ _ _ _ _ _ _ => K c5) t)
    (fun t K => N16.rec (motive := fun _ => Rs) (fun _ _ _ _ _ _ c6 _ _ _ _ _ _ _ _ _ => K c6) t)
    (fun t K => N16.rec (motive := fun _ => Rs) (fun _ _ _ _ _ _ _ c7 _ _ _ _ _ _ _ _ => K c7) t)
    (fun t K => N16.rec (motive := fun _ => Rs) (fun _ _ _ _ _ _ _ _ c8 _ _ _ _ _ _ _ => K c8) t)
    (fun t K => N16.rec (motive := fun _ => Rs) (fun _ _ _ _ _ _ _ _ _ c9 _ _ _ _ _ _ => K c9) t)
    (fun t K => N16.rec (motive := fun _ => Rs) (fun _ _ _ _ _ _ _ _ _ _ c10 _ _ _ _ _ => K c10) t)
    (fun t K => N16.rec (motive := fun _ => Rs) (fun _ _ _ _ _ _ _ _ _ _ _ c11 _ _ _ _ => K c11) t)
    (fun t K => N16.rec (motive := fun _ => Rs) (fun _ _ _ _ _ _ _ _ _ _ _ _ c12 _ _ _ => K c12) t)
    (fun t K => N16.rec (motive := fun _ => Rs) (fun _ _ _ _ _ _ _ _ _ _ _ _ _ c13 _ _ => K c13) t)
    (fun t K => N16.rec (motive := fun _ => Rs) (fun _ _ _ _ _ _ _ _ _ _ _ _ _ _ c14 _ => K c14) t)
    (fun t K => N16.rec (motive := fun _ => Rs) (fun _ _ _ _ _ _ _ _ _ _ _ _ _ _ _ c15 => K c15) t)
    (fun _ _ => .bad 9000)
    d t K
theorem selA_ok {d : D16} {t : N16 (AV)} {K : AV → Rs} (h : selA d t K = .ok) : d ≠ .no ∧ K (t.get d) = .ok := by
  cases t; cases d <;> first | exact ⟨(by intro e; cases e), h⟩ | exact Rs.noConfusion h
noncomputable def updA (d : D16) (t : N16 (AV)) (v : AV) (K : N16 (AV) → Rs) : Rs :=
  D16.rec (motive := fun _ => N16 (AV) → AV → (N16 (AV) → Rs) → Rs)
    (fun t v K => N16.rec (motive := fun _ => Rs) (fun _ c1 c2 c3 c4 c5 c6 c7 c8 c9 c10 c11 c12 c13 c14 c15 => K (N16.mk v c1 c2 c3 c4 c5 c6 c7 c8 c9 c10 c11 c12 c13 c14 c15)) t)
    (fun t v K => N16.rec (motive := fun _ => Rs) (fun c0 _ c2 c3 c4 c5 c6 c7 c8 c9 c10 c11 c12 c13 c14 c15 => K (N16.mk c0 v c2 c3 c4 c5 c6 c7 c8 c9 c10 c11 c12 c13 c14 c15)) t)
    (fun t v K => N16.rec (motive := fun _ => Rs) (fun c0 c1 _ c3 c4 c5 c6 c7 c8 c9 c10 c11 c12 c13 c14 c15 => K (N16.mk c0 c1 v c3 c4 c5 c6 c7 c8 c9 c10 c11 c12 c13 c14 c15)) t)
    (fun t v K => N16.rec (motive := fun _ => Rs) (fun c0 c1 c2 _ c4 c5 c6 c7 c8 c9 c10 c11 c12 c13 c14 c15 => K (N16.mk c0 c1 c2 v c4 c5 c6 c7 c8 c9 c10 c11 c12 c13 c14 c15)) t)
    (fun t v K => N16.rec (motive := fun _ => Rs) (fun c0 c1 c2 c3 _ c5 c6 c7 c8 c9 c10 c11 c12 c13 c14 c15 => K (N16.mk c0 c1 c2 c3 v c5 c6 c7 c8 c9 c10 c11 c12 c13 c14 c15)) t)
    (fun t v K => N16.rec (motive := fun _ => Rs) (fun c0 c1 c2 c3 c4 _ c6 c7 c8 c9 c10 c11 c12 c13 c14 c15 => K (N16.mk c0 c1 c2 c3 c4 v c6 c7 c8 c9 c10 c11 c12 c13 c14 c15)) t)
    (fun t v K => N16.rec (motive := fun _ => Rs) (fun c0 c1 c2 c3 c4 c5 _ c7 c8 c9 c10 c11 c12 c13 c14 c15 => K (N16.mk c0 c1 c2 c3 c4 c5 v c7 c8 c9 c10 c11 c12 c13 c14 c15)) t)
    (fun t v K => N16.rec (motive := fun _ => Rs) (fun c0 c1 c2 c3 c4 c5 c6 _ c8 c9 c10 c11 c12 c13 c14 c15 => K (N16.mk c0 c1 c2 c3 c4 c5 c6 v c8 c9 c10 c11 c12 c13 c14 c15)) t)
    (fun t v K => N16.rec (motive := fun _ => Rs) (fun c0 c1 c2 c3 c4 c5 c6 c7 _ c9 c10 c11 c12 c13 c14 c15 => K (N16.mk c0 c1 c2 c3 c4 c5 c6 c7 v c9 c10 c11 c12 c13 c14 c15)) t)
    (fun t v K => N16.rec (motive := fun _ => Rs) (fun c0 c1 c2 c3 c4 c5 c6 c7 c8 _ c10 c11 c12 c13 c14 c15 => K (N16.mk c0 c1 c2 c3 c4 c5 c6 c7 c8 v c10 c11 c12 c13 c14 c15)) t)
    (fun t v K => N16.rec (motive := fun _ => Rs) (fun c0 c1 c2 c3 c4 c5 c6 c7 c8 c9 _ c11 c12 c13 c14 c15 => K (N16.mk c0 c1 c2 c3 c4 c5 c6 c7 c8 c9 v c11 c12 c13 c14 c15)) t)
    (fun t v K => N16.rec (motive := fun _ => Rs) (fun c0 c1 c2 c3 c4 c5 c6 c7 c8 c9 c10 _ c12 c13 c14 c15 => K (N16.mk c0 c1 c2 c3 c4 c5 c6 c7 c8 c9 c10 v c12 c13 c14 c15)) t)
    (fun t v K => N16.rec (motive := fun _ => Rs) (fun c0 c1 c2 c3 c4 c5 c6 c7 c8 c9 c10 c11 _ c13 c14 c15 => K (N16.mk c0 c1 c2 c3 c4 c5 c6 c7 c8 c9 c10 c11 v c13 c14 c15)) t)
    (fun t v K => N16.rec (motive := fun _ => Rs) (fun c0 c1 c2 c3 c4 c5 c6 c7 c8 c9 c10 c11 c12 _ c14 c15 => K (N16.mk c0 c1 c2 c3 c4 c5 c6 c7 c8 c9 c10 c11 c12 v c14 c15)) t)
    (fun t v K => N16.rec (motive := fun _ => Rs) (fun c0 c1 c2 c3 c4 c5 c6 c7 c8 c9 c10 c11 c12 c13 _ c15 => K (N16.mk c0 c1 c2 c3 c4 c5 c6 c7 c8 c9 c10 c11 c12 c13 v c15)) t)
    (fun t v K => N16.rec (motive := fun _ => Rs) (fun c0 c1 c2 c3 c4 c5 c6 c7 c8 c9 c10 c11 c12 c13 c14 _ => K (N16.mk c0 c1 c2 c3 c4 c5 c6 c7 c8 c9 c10 c11 c12 c13 c14 v)) t)
    (fun _ _ _ => .bad 9001)
    d t v K
theorem updA_ok {d : D16} {t : N16 (AV)} {v : AV} {K : N16 (AV) → Rs} (h : updA d t v K = .ok) : d ≠ .no ∧ K (t.set d v) = .ok := by
  cases t; cases d <;> first | exact ⟨(by intro e; cases e), h⟩ | exact Rs.noConfusion h
noncomputable def selE (d : D16) (t : N16 (N16 AV)) (K : N16 AV → Rs) : Rs :=
  D16.rec (motive := fun _ => N16 (N16 AV) → (N16 AV → Rs) → Rs)
    (fun t K => N16.rec (motive := fun _ => Rs) (fun c0 _ _ _ _ _ _ _ _ _ _ _ _ _ _ _ => K c0) t)
    (fun t K => N16.rec (motive := fun _ => Rs) (fun _ c1 _ _ _ _ _ _ _ _ _ _ _ _ _ _ => K c1) t)
    (fun t K => N16.rec (motive := fun _ => Rs) (fun _ _ c2 _ _ _ _ _ _ _ _ _ _ _ _ _ => K c2) t)
    (fun t K => N16.rec (motive := fun _ => Rs) (fun _ _ _ c3 _ _ _ _ _ _ _ _ _ _ _ _ => K c3) t)
    (fun t K => N16.rec (motive := fun _ => Rs) (fun _ _ _ _ c4 _ _ _ _ _ _ _ _ _ _ _ => K c4) t)
    (fun t K => N16.rec (motive := fun _ => Rs) (fun _ _ _ _ _ c5 _ _ _ _ _ _ _ _ _ _ => K c5) t)
    (fun t K => N16.rec (motive := fun _ => Rs) (fun _ _ _ _ _ _ c6 _ _ _ _ _ _ _ _ _ => K c6) t)
    (fun t K => N16.rec (motive := fun _ => Rs) (fun _ _ _ _ _ _ _ c7 _ _ _ _ _ _ _ _ => K c7) t)
    (fun t K => N16.rec (motive := fun _ => Rs) (fun _ _ _ _ _ _ _ _ c8 _ _ _ _ _ _ _ => K c8) t)
    (fun t K => N16.rec (motive := fun _ => Rs) (fun _ _ _ _ _ _ _ _ _ c9 _ _ _ _ _ _ => K c9) t)
    (fun t K => N16.rec (motive := fun _ => Rs) (fun _ _ _ _ _ _ _ _ _ _ c10 _ _ _ _ _ => K c10) t)
    (fun t K => N16.rec (motive := fun _ => Rs) (fun _ _ _ _ _ _ _ _ _ _ _ c11 _ _ _ _ => K c11) t)
    (fun t K => N16.rec (motive := fun _ => Rs) (fun _ _ _ _ _ _ _ _ _ _ _ _ c12 _ _ _ => K c12) t)
    (fun t K => N16.rec (motive := fun _ => Rs) (fun _ _ _ _ _ _ _ _ _ _ _ _ _ c13 _ _ => K c13) t)
    (fun t K => N16.rec (motive := fun _ => Rs) (fun _ _ _ _ _ _ _ _ _ _ _ _ _ _ c14 _ => K c14) t)
    (fun t K => N16.rec (motive := fun _ => Rs) (fun _ _ _ _ _ _ _ _ _ _ _ _ _ _ _ c15 => K c15) t)
    (fun _ _ => .bad 9000)
    d t K
theorem selE_ok {d : D16} {t : N16 (N16 AV)} {K : N16 AV → Rs} (h : selE d t K = .ok) : d ≠ .no ∧ K (t.get d) = .ok := by
  cases t; cases d <;> first | exact ⟨(by intro e; cases e), h⟩ | exact Rs.noConfusion h
noncomputable def updE (d : D16) (t : N16 (N16 AV)) (v : N16 AV) (K : N16 (N16 AV) → Rs) : Rs :=
  D16.rec (motive := fun _ => N16 (N16 AV) → N16 AV → (N16 (N16 AV) → Rs) → Rs)
    (fun t v K => N16.rec (motive := fun _ => Rs) (fun _ c1 c2 c3 c4 c5 c6 c7 c8 c9 c10 c11 c12 c13 c14 c15 => K (N16.mk v c1 c2 c3 c4 c5 c6 c7 c8 c9 c10 c11 c12 c13 c14 c15)) t)
    (fun t v K => N16.rec (motive := fun _ => Rs) (fun c0 _ c2 c3 c4 c5 c6 c7 c8 c9 c10 c11 c12 c13 c14 c15 => K (N16.mk c0 v c2 c3 c4 c5 c6 c7 c8 c9 c10 c11 c12 c13 c14 c15)) t)
    (fun t v K => N16.rec (motive := fun _ => Rs) (fun c0 c1 _ c3 c4 c5 c6 c7 c8 c9 c10 c11 c12 c13 c14 c15 => K (N16.mk c0 c1 v c3 c4 c5 c6 c7 c8 c9 c10 c11 c12 c13 c14 c15)) t)
    (fun t v K => N16.rec (motive := fun _ => Rs) (fun c0 c1 c2 _ c4 c5 c6 c7 c8 c9 c10 c11 c12 c13 c14 c15 => K (N16.mk c0 c1 c2 v c4 c5 c6 c7 c8 c9 c10 c11 c12 c13 c14 c15)) t)
    (fun t v K => N16.rec (motive := fun _ => Rs) (fun c0 c1 c2 c3 _ c5 c6 c7 c8 c9 c10 c11 c12 c13 c14 c15 => K (N16.mk c0 c1 c2 c3 v c5 c6 c7 c8 c9 c10 c11 c12 c13 c14 c15)) t)
    (fun t v K => N16.rec (motive := fun _ => Rs) (fun c0 c1 c2 c3 c4 _ c6 c7 c8 c9 c10 c11 c12 c13 c14 c15 => K (N16.mk c0 c1 c2 c3 c4 v c6 c7 c8 c9 c10 c11 c12 c13 c14 c15)) t)
    (fun t v K => N16.rec (motive := fun _ => Rs) (fun c0 c1 c2 c3 c4 c5 _ c7 c8 c9 c10 c11 c12 c13 c14 c15 => K (N16.mk c0 c1 c2 c3 c4 c5 v c7 c8 c9 c10 c11 c12 c13 c14 c15)) t)
    (fun t v K => N16.rec (motive := fun _ => Rs) (fun c0 c1 c2 c3 c4 c5 c6 _ c8 c9 c10 c11 c12 c13 c14 c15 => K (N16.mk c0 c1 c2 c3 c4 c5 c6 v c8 c9 c10 c11 c12 c13 c14 c15)) t)
    (fun t v K => N16.rec (motive := fun _ => Rs) (fun c0 c1 c2 c3 c4 c5 c6 c7 _ c9 c10 c11 c12 c13 c14 c15 => K (N16.mk c0 c1 c2 c3 c4 c5 c6 c7 v c9 c10 c11 c12 c13 c14 c15)) t)
    (fun t v K => N16.rec (motive := fun _ => Rs) (fun c0 c1 c2 c3 c4 c5 c6 c7 c8 _ c10 c11 c12 c13 c14 c15 => K (N16.mk c0 c1 c2 c3 c4 c5 c6 c7 c8 v c10 c11 c12 c13 c14 c15)) t)
    (fun t v K => N16.rec (motive := fun _ => Rs) (fun c0 c1 c2 c3 c4 c5 c6 c7 c8 c9 _ c11 c12 c13 c14 c15 => K (N16.mk c0 c1 c2 c3 c4 c5 c6 c7 c8 c9 v c11 c12 c13 c14 c15)) t)
    (fun t v K => N16.rec (motive := fun _ => Rs) (fun c0 c1 c2 c3 c4 c5 c6 c7 c8 c9 c10 _ c12 c13 c14 c15 => K (N16.mk c0 c1 c2 c3 c4 c5 c6 c7 c8 c9 c10 v c12 c13 c14 c15)) t)
    (fun t v K => N16.rec (motive := fun _ => Rs) (fun c0 c1 c2 c3 c4 c5 c6 c7 c8 c9 c10 c11 _ c13 c14 c15 => K (N16.mk c0 c1 c2 c3 c4 c5 c6 c7 c8 c9 c10 c11 v c13 c14 c15)) t)
    (fun t v K => N16.rec (motive := fun _ => Rs) (fun c0 c1 c2 c3 c4 c5 c6 c7 c8 c9 c10 c11 c12 _ c14 c15 => K (N16.mk c0 c1 c2 c3 c4 c5 c6 c7 c8 c9 c10 c11 c12 v c14 c15)) t)
    (fun t v K => N16.rec (motive := fun _ => Rs) (fun c0 c1 c2 c3 c4 c5 c6 c7 c8 c9 c10 c11 c12 c13 _ c15 => K (N16.mk c0 c1 c2 c3 c4 c5 c6 c7 c8 c9 c10 c11 c12 c13 v c15)) t)
    (fun t v K => N16.rec (motive := fun _ => Rs) (fun c0 c1 c2 c3 c4 c5 c6 c7 c8 c9 c10 c11 c12 c13 c14 _ => K (N16.mk c0 c1 c2 c3 c4 c5 c6 c7 c8 c9 c10 c11 c12 c13 c14 v)) t)
    (fun _ _ _ => .bad 9001)
    d t v K
theorem updE_ok {d : D16} {t : N16 (N16 AV)} {v : N16 AV} {K : N16 (N16 AV) → Rs} (h : updE d t v K = .ok) : d ≠ .no ∧ K (t.set d v) = .ok := by
  cases t; cases d <;> first | exact ⟨(by intro e; cases e), h⟩ | exact Rs.noConfusion h
noncomputable def selO (d : D16) (t : N16 ((Option AObj))) (K : (Option AObj) → Rs) : Rs :=
  D16.rec (motive := fun _ => N16 ((Option AObj)) → ((Option AObj) → Rs) → Rs)
    (fun t K => N16.rec (motive := fun _ => Rs) (fun c0 _ _ _ _ _ _ _ _ _ _ _ _ _ _ _ => K c0) t)
    (fun t K => N16.rec (motive := fun _ => Rs) (fun _ c1 _ _ _ _ _ _ _ _ _ _ _ _ _ _ => K c1) t)
    (fun t K => N16.rec (motive := fun _ => Rs) (fun _ _ c2 _ _ _ _ _ _ _ _ _ _ _ _ _ => K c2) t)
    (fun t K => N16.rec (motive := fun _ => Rs) (fun _ _ _ c3 _ _ _ _ _ _ _ _ _ _ _ _ => K c3) t)
    (fun t K => N16.rec (motive := fun _ => Rs) (fun _ _ _ _ c4 _ _ _ _ _ _ _ _ _ _ _ => K c4) t)
    (fun t K => N16.rec (motive := fun _ => Rs) (fun _ _ _ _ _ c5 _ _ _ _ _ _ _ _ _ _ => K c5) t)
    (fun t K => N16.rec (motive := fun _ => Rs) (fun _ _ _ _ _ _ c6 _ _ _ _ _ _ _ _ _ => K c6) t)
    (fun t K => N16.rec (motive := fun _ => Rs) (fun _ _ _ _ _ _ _ c7 _ _ _ _ _ _ _ _ => K c7) t)
    (fun t K => N16.rec (motive := fun _ => Rs) (fun _ _ _ _ _ _ _ _ c8 _ _ _ _ _ _ _ => K c8) t)
    (fun t K => N16.rec (motive := fun _ => Rs) (fun _ _ _ _ _ _ _ _ _ c9 _ _ _ _ _ _ => K c9) t)
    (fun t K => N16.rec (motive := fun _ => Rs) (fun _ _ _ _ _ _ _ _ _ _ c10 _ _ _ _ _ => K c10) t)
    (fun t K => N16.rec (motive := fun _ => Rs) (fun _ _ _ _ _ _ _ _ _ _ _ c11 _ _ _ _ => K c11) t)
    (fun t K => N16.rec (motive := fun _ => Rs) (fun _ _ _ _ _ _ _ _ _ _ _ _ c12 _ _ _ => K c12) t)
    (fun t K => N16.rec (motive := fun _ => Rs) (fun _ _ _ _ _ _ _ _ _ _ _ _ _ c13 _ _ => K c13) t)
    (fun t K => N16.rec (motive := fun _ => Rs) (fun _ _ _ _ _ _ _ _ _ _ _ _ _ _ c14 _ => K c14) t)
    (fun t K => N16.rec (motive := fun _ => Rs) (fun _ _ _ _ _ _ _ _ _ _ _ _ _ _ _ c15 => K c15) t)
    (fun _ _ => .bad 9000)
    d t K
theorem selO_ok {d : D16} {t : N16 ((Option AObj))} {K : (Option AObj) → Rs} (h : selO d t K = .ok) : d ≠ .no ∧ K (t.get d) = .ok := by
  cases t; cases d <;> first | exact ⟨(by intro e; cases e), h⟩ | exact Rs.noConfusion h
noncomputable def updO (d : D16) (t : N16 ((Option AObj))) (v : (Option AObj)) (K : N16 ((Option AObj)) → Rs) : Rs :=
  D16.rec (motive := fun _ => N16 ((Option AObj)) → (Option AObj) → (N16 ((Option AObj)) → Rs) → Rs)
    (fun t v K => N16.rec (motive := fun _ => Rs) (fun _ c1 c2 c3 c4 c5 c6 c7 c8 c9 c10 c11 c12 c13 c14 c15 => K (N16.mk v c1 c2 c3 c4 c5 c6 c7 c8 c9 c10 c11 c12 c13 c14 c15)) t)
    (fun t v K => N16.rec (motive := fun _ => Rs) (fun c0 _ c2 c3 c4 c5 c6 c7 c8 c9 c10 c11 c12 c13 c14 c15 => K (N16.mk c0 v c2 c3 c4 c5 c6 c7 c8 c9 c10 c11 c12 c13 c14 c15)) t)
    (fun t v K => N16.rec (motive := fun _ => Rs) (fun c0 c1 _ c3 c4 c5 c6 c7 c8 c9 c10 c11 c12 c13 c14 c15 => K (N16.mk c0 c1 v c3 c4 c5 c6 c7 c8 c9 c10 c11 c12 c13 c14 c15)) t)
    (fun t v K => N16.rec (motive := fun _ => Rs) (fun c0 c1 c2 _ c4 c5 c6 c7 c8 c9 c10 c11 c12 c13 c14 c15 => K (N16.mk c0 c1 c2 v c4 c5 c6 c7 c8 c9 c10 c11 c12 c13 c14 c15)) t)
    (fun t v K => N16.rec (motive := fun _ => Rs) (fun c0 c1 c2 c3 _ c5 c6 c7 c8 c9 c10 c11 c12 c13 c14 c15 => K (N16.mk c0 c1 c2 c3 v c5 c6 c7 c8 c9 c10 c11 c12 c13 c14 c15)) t)
    (fun t v K => N16.rec (motive := fun _ => Rs) (fun c0 c1 c2 c3 c4 _ c6 c7 c8 c9 c10 c11 c12 c13 c14 c15 => K (N16.mk c0 c1 c2 c3 c4 v c6 c7 c8 c9 c10 c11 c12 c13 c14 c15)) t)
    (fun t v K => N16.rec (motive := fun _ => Rs) (fun c0 c1 c2 c3 c4 c5 _ c7 c8 c9 c10 c11 c12 c13 c14 c15 => K (N16.mk c0 c1 c2 c3 c4 c5 v c7 c8 c9 c10 c11 c12 c13 c14 c15)) t)
    (fun t v K => N16.rec (motive := fun _ => Rs) (fun c0 c1 c2 c3 c4 c5 c6 _ c8 c9 c10 c11 c12 c13 c14 c15 => K (N16.mk c0 c1 c2 c3 c4 c5 c6 v c8 c9 c10 c11 c12 c13 c14 c15)) t)
    (fun t v K => N16.rec (motive := fun _ => Rs) (fun c0 c1 c2 c3 c4 c5 c6 c7 _ c9 c10 c11 c12 c13 c14 c15 => K (N16.mk c0 c1 c2 c3 c4 c5 c6 c7 v c9 c10 c11 c12 c13 c14 c15)) t)
    (fun t v K => N16.rec (motive := fun _ => Rs) (fun c0 c1 c2 c3 c4 c5 c6 c7 c8 _ c10 c11 c12 c13 c14 c15 => K (N16.mk c0 c1 c2 c3 c4 c5 c6 c7 c8 v c10 c11 c12 c13 c14 c15)) t)
    (fun t v K => N16.rec (motive := fun _ => Rs) (fun c0 c1 c2 c3 c4 c5 c6 c7 c8 c9 _ c11 c12 c13 c14 c15 => K (N16.mk c0 c1 c2 c3 c4 c5 c6 c7 c8 c9 v c11 c12 c13 c14 c15)) t)
    (fun t v K => N16.rec (motive := fun _ => Rs) (fun c0 c1 c2 c3 c4 c5 c6 c7 c8 c9 c10 _ c12 c13 c14 c15 => K (N16.mk c0 c1 c2 c3 c4 c5 c6 c7 c8 c9 c10 v c12 c13 c14 c15)) t)
    (fun t v K => N16.rec (motive := fun _ => Rs) (fun c0 c1 c2 c3 c4 c5 c6 c7 c8 c9 c10 c11 _ c13 c14 c15 => K (N16.mk c0 c1 c2 c3 c4 c5 c6 c7 c8 c9 c10 c11 v c13 c14 c15)) t)
    (fun t v K => N16.rec (motive := fun _ => Rs) (fun c0 c1 c2 c3 c4 c5 c6 c7 c8 c9 c10 c11 c12 _ c14 c15 => K (N16.mk c0 c1 c2 c3 c4 c5 c6 c7 c8 c9 c10 c11 c12 v c14 c15)) t)
    (fun t v K => N16.rec (motive := fun _ => Rs) (fun c0 c1 c2 c3 c4 c5 c6 c7 c8 c9 c10 c11 c12 c13 _ c15 => K (N16.mk c0 c1 c2 c3 c4 c5 c6 c7 c8 c9 c10 c11 c12 c13 v c15)) t)
    (fun t v K => N16.rec (motive := fun _ => Rs) (fun c0 c1 c2 c3 c4 c5 c6 c7 c8 c9 c10 c11 c12 c13 c14 _ => K (N16.mk c0 c1 c2 c3 c4 c5 c6 c7 c8 c9 c10 c11 c12 c13 c14 v)) t)
    (fun _ _ _ => .bad 9001)
    d t v K
theorem updO_ok {d : D16} {t : N16 ((Option AObj))} {v : (Option AObj)} {K : N16 ((Option AObj)) → Rs} (h : updO d t v K = .ok) : d ≠ .no ∧ K (t.set d v) = .ok := by
  cases t; cases d <;> first | exact ⟨(by intro e; cases e), h⟩ | exact Rs.noConfusion h
noncomputable def selP (d : D16) (t : N16 ((N16 (Option AObj)))) (K : (N16 (Option AObj)) → Rs) : Rs :=
  D16.rec (motive := fun _ => N16 ((N16 (Option AObj))) → ((N16 (Option AObj)) → Rs) → Rs)
    (fun t K => N16.rec (motive := fun _ => Rs) (fun c0 _ _ _ _ _ _ _ _ _ _ _ _ _ _ _ => K c0) t)
    (fun t K => N16.rec (motive := fun _ => Rs) (fun _ c1 _ _ _ _ _ _ _ _ _ _ _ _ _ _ => K c1) t)
    (fun t K => N16.rec (motive := fun _ => Rs) (fun _ _ c2 _ _ _ _ _ _ _ _ _ _ _ _ _ => K c2) t)
    (fun t K => N16.rec (motive := fun _ => Rs) (fun _ _ _ c3 _ _ _ _ _ _ _ _ _ _ _ _ => K c3) t)
    (fun t K => N16.rec (motive := fun _ => Rs) (fun _ _ _ _ c4 _ _ _ _ _ _ _ _ _ _ _ => K c4) t)
    (fun t K => N16.rec (motive := fun _ => Rs) (fun _ _ _ _ _ c5 _ _ _ _ _ _ _ _ _ _ => K c5) t)
    (fun t K => N16.rec (motive := fun _ => Rs) (fun _ _ _ _ _ _ c6 _ _ _ _ _ _ _ _ _ => K c6) t)
    (fun t K => N16.rec (motive := fun _ => Rs) (fun _ _ _ _ _ _ _ c7 _ _ _ _ _ _ _ _ => K c7) t)
    (fun t K => N16.rec (motive := fun _ => Rs) (fun _ _ _ _ _ _ _ _ c8 _ _ _ _ _ _ _ => K c8) t)
    (fun t K => N16.rec (motive := fun _ => Rs) (fun _ _ _ _ _ _ _ _ _ c9 _ _ _ _ _ _ => K c9) t)
    (fun t K => N16.rec (motive := fun _ => Rs) (fun _ _ _ _ _ _ _ _ _ _ c10 _ _ _ _ _ => K c10) t)
    (fun t K => N16.rec (motive := fun _ => Rs) (fun _ _ _ _ _ _ _ _ _ _ _ c11 _ _ _ _ => K c11) t)
    (fun t K => N16.rec (motive := fun _ => Rs) (fun _ _ _ _ _ _ _ _ _ _ _ _ c12 _ _ _ => K c12) t)
    (fun t K => N16.rec (motive := fun _ => Rs) (fun _ _ _ _ _ _ _ _ _ _ _ _ _ c13 _ _ => K c13) t)
    (fun t K => N16.rec (motive := fun _ => Rs) (fun _ _ _ _ _ _ _ _ _ _ _ _ _ _ c14 _ => K c14) t)
    (fun t K => N16.rec (motive := fun _ => Rs) (fun _ _ _ _ _ _ _ _ _ _ _ _ _ _ _ c15 => K c15) t)
    (fun _ _ => .bad 9000)
    d t K
theorem selP_ok {d : D16} {t : N16 ((N16 (Option AObj)))} {K : (N16 (Option AObj)) → Rs} (h : selP d t K = .ok) : d ≠ .no ∧ K (t.get d) = .ok := by
  cases t; cases d <;> first | exact ⟨(by intro e; cases e), h⟩ | exact Rs.noConfusion h
noncomputable def updP (d : D16) (t : N16 ((N16 (Option AObj)))) (v : (N16 (Option AObj))) (K : N16 ((N16 (Option AObj))) → Rs) : Rs :=
  D16.rec (motive := fun _ => N16 ((N16 (Option AObj))) → (N16 (Option AObj)) → (N16 ((N16 (Option AObj))) → Rs) → Rs)
    (fun t v K => N16.rec (motive := fun _ => Rs) (fun _ c1 c2 c3 c4 c5 c6 c7 c8 c9 c10 c11 c12 c13 c14 c15 => K (N16.mk v c1 c2 c3 c4 c5 c6 c7 c8 c9 c10 c11 c12 c13 c14 c15)) t)
    (fun t v K => N16.rec (motive := fun _ => Rs) (fun c0 _ c2 c3 c4 c5 c6 c7 c8 c9 c10 c11 c12 c13 c14 c15 => K (N16.mk c0 v c2 c3 c4 c5 c6 c7 c8 c9 c10 c11 c12 c13 c14 c15)) t)
    (fun t v K => N16.rec (motive := fun _ => Rs) (fun c0 c1 _ c3 c4 c5 c6 c7 c8 c9 c10 c11 c12 c13 c14 c15 => K (N16.mk c0 c1 v c3 c4 c5 c6 c7 c8 c9 c10 c11 c12 c13 c14 c15)) t)
    (fun t v K => N16.rec (motive := fun _ => Rs) (fun c0 c1 c2 _ c4 c5 c6 c7 c8 c9 c10 c11 c12 c13 c14 c15 => K (N16.mk c0 c1 c2 v c4 c5 c6 c7 c8 c9 c10 c11 c12 c13 c14 c15)) t)
    (fun t v K => N16.rec (motive := fun _ => Rs) (fun c0 c1 c2 c3 _ c5 c6 c7 c8 c9 c10 c11 c12 c13 c14 c15 => K (N16.mk c0 c1 c2 c3 v c5 c6 c7 c8 c9 c10 c11 c12 c13 c14 c15)) t)
    (fun t v K => N16.rec (motive := fun _ => Rs) (fun c0 c1 c2 c3 c4 _ c6 c7 c8 c9 c10 c11 c12 c13 c14 c15 => K (N16.mk c0 c1 c2 c3 c4 v c6 c7 c8 c9 c10 c11 c12 c13 c14 c15)) t)
    (fun t v K => N16.rec (motive := fun _ => Rs) (fun c0 c1 c2 c3 c4 c5 _ c7 c8 c9 c10 c11 c12 c13 c14 c15 => K (N16.mk c0 c1 c2 c3 c4 c5 v c7 c8 c9 c10 c11 c12 c13 c14 c15)) t)
    (fun t v K => N16.rec (motive := fun _ => Rs) (fun c0 c1 c2 c3 c4 c5 c6 _ c8 c9 c10 c11 c12 c13 c14 c15 => K (N16.mk c0 c1 c2 c3 c4 c5 c6 v c8 c9 c10 c11 c12 c13 c14 c15)) t)
    (fun t v K => N16.rec (motive := fun _ => Rs) (fun c0 c1 c2 c3 c4 c5 c6 c7 _ c9 c10 c11 c12 c13 c14 c15 => K (N16.mk c0 c1 c2 c3 c4 c5 c6 c7 v c9 c10 c11 c12 c13 c14 c15)) t)
    (fun t v K => N16.rec (motive := fun _ => Rs) (fun c0 c1 c2 c3 c4 c5 c6 c7 c8 _ c10 c11 c12 c13 c14 c15 => K (N16.mk c0 c1 c2 c3 c4 c5 c6 c7 c8 v c10 c11 c12 c13 c14 c15)) t)
    (fun t v K => N16.rec (motive := fun _ => Rs) (fun c0 c1 c2 c3 c4 c5 c6 c7 c8 c9 _ c11 c12 c13 c14 c15 => K (N16.mk c0 c1 c2 c3 c4 c5 c6 c7 c8 c9 v c11 c12 c13 c14 c15)) t)
    (fun t v K => N16.rec (motive := fun _ => Rs) (fun c0 c1 c2 c3 c4 c5 c6 c7 c8 c9 c10 _ c12 c13 c14 c15 => K (N16.mk c0 c1 c2 c3 c4 c5 c6 c7 c8 c9 c10 v c12 c13 c14 c15)) t)
    (fun t v K => N16.rec (motive := fun _ => Rs) (fun c0 c1 c2 c3 c4 c5 c6 c7 c8 c9 c10 c11 _ c13 c14 c15 => K (N16.mk c0 c1 c2 c3 c4 c5 c6 c7 c8 c9 c10 c11 v c13 c14 c15)) t)
    (fun t v K => N16.rec (motive := fun _ => Rs) (fun c0 c1 c2 c3 c4 c5 c6 c7 c8 c9 c10 c11 c12 _ c14 c15 => K (N16.mk c0 c1 c2 c3 c4 c5 c6 c7 c8 c9 c10 c11 c12 v c14 c15)) t)
    (fun t v K => N16.rec (motive := fun _ => Rs) (fun c0 c1 c2 c3 c4 c5 c6 c7 c8 c9 c10 c11 c12 c13 _ c15 => K (N16.mk c0 c1 c2 c3 c4 c5 c6 c7 c8 c9 c10 c11 c12 c13 v c15)) t)
    (fun t v K => N16.rec (motive := fun _ => Rs) (fun c0 c1 c2 c3 c4 c5 c6 c7 c8 c9 c10 c11 c12 c13 c14 _ => K (N16.mk c0 c1 c2 c3 c4 c5 c6 c7 c8 c9 c10 c11 c12 c13 c14 v)) t)
    (fun _ _ _ => .bad 9001)
    d t v K
theorem updP_ok {d : D16} {t : N16 ((N16 (Option AObj)))} {v : (N16 (Option AObj))} {K : N16 ((N16 (Option AObj))) → Rs} (h : updP d t v K = .ok) : d ≠ .no ∧ K (t.set d v) = .ok := by
  cases t; cases d <;> first | exact ⟨(by intro e; cases e), h⟩ | exact Rs.noConfusion h
noncomputable def selQ (d : D16) (t : N16 ((N16 (N16 (Option AObj))))) (K : (N16 (N16 (Option AObj))) → Rs) : Rs :=
  D16.rec (motive := fun _ => N16 ((N16 (N16 (Option AObj)))) → ((N16 (N16 (Option AObj))) → Rs) → Rs)
    (fun t K => N16.rec (motive := fun _ => Rs) (fun c0 _ _ _ _ _ _ _ _ _ _ _ _ _ _ _ => K c0) t)
    (fun t K => N16.rec (motive := fun _ => Rs) (fun _ c1 _ _ _ _ _ _ _ _ _ _ _ _ _ _ => K c1) t)
    (fun t K => N16.rec (motive := fun _ => Rs) (fun _ _ c2 _ _ _ _ _ _ _ _ _ _ _ _ _ => K c2) t)
    (fun t K => N16.rec (motive := fun _ => Rs) (fun _ _ _ c3 _ _ _ _ _ _ _ _ _ _ _ _ => K c3) t)
    (fun t K => N16.rec (motive := fun _ => Rs) (fun _ _ _ _ c4 _ _ _ _ _ _ _ _ _ _ _ => K c4) t)
    (fun t K => N16.rec (motive := fun _ => Rs) (fun _ _ _ _ _ c5 _ _ _ _ _ _ _ _ _ _ => K c5) t)
    (fun t K => N16.rec (motive := fun _ => Rs) (fun _ _ _ _ _ _ c6 _ _ _ _ _ _ _ _ _ => K c6) t)
    (fun t K => N16.rec (motive := fun _ => Rs) (fun _ _ _ _ _ _ _ c7 _ _ _ _ _ _ _ _ => K c7) t)
    (fun t K => N16.rec (motive := fun _ => Rs) (fun _ _ _ _ _ _ _ _ c8 _ _ _ _ _ _ _ => K c8) t)
    (fun t K => N16.rec (motive := fun _ => Rs) (fun _ _ _ _ _ _ _ _ _ c9 _ _ _ _ _ _ => K c9) t)
    (fun t K => N16.rec (motive := fun _ => Rs) (fun _ _ _ _ _ _ _ _ _ _ c10 _ _ _ _ _ => K c10) t)
    (fun t K => N16.rec (motive := fun _ => Rs) (fun _ _ _ _ _ _ _ _ _ _ _ c11 _ _ _ _ => K c11) t)
    (fun t K => N16.rec (motive := fun _ => Rs) (fun _ _ _ _ _ _ _ _ _ _ _ _ c12 _ _ _ => K c12) t)
    (fun t K => N16.rec (motive := fun _ => Rs) (fun _ _ _ _ _ _ _ _ _ _ _ _ _ c13 _ _ => K c13) t)
    (fun t K => N16.rec (motive := fun _ => Rs) (fun _ _ _ _ _ _ _ _ _ _ _ _ _ _ c14 _ => K c14) t)
    (fun t K => N16.rec (motive := fun _ => Rs) (fun _ _ _ _ _ _ _ _ _ _ _ _ _ _ _ c15 => K c15) t)
    (fun _ _ => .bad 9000)
    d t K
theorem selQ_ok {d : D16} {t : N16 ((N16 (N16 (Option AObj))))} {K : (N16 (N16 (Option AObj))) → Rs} (h : selQ d t K = .ok) : d ≠ .no ∧ K (t.get d) = .ok := by
  cases t; cases d <;> first | exact ⟨(by intro e; cases e), h⟩ | exact Rs.noConfusion h
noncomputable def updQ (d : D16) (t : N16 ((N16 (N16 (Option AObj))))) (v : (N16 (N16 (Option AObj)))) (K : N16 ((N16 (N16 (Option AObj)))) → Rs) : Rs :=
  D16.rec (motive := fun _ => N16 ((N16 (N16 (Option AObj)))) → (N16 (N16 (Option AObj))) → (N16 ((N16 (N16 (Option AObj)))) → Rs) → Rs)
    (fun t v K => N16.rec (motive := fun _ => Rs) (fun _ c1 c2 c3 c4 c5 c6 c7 c8 c9 c10 c11 c12 c13 c14 c15 => K (N16.mk v c1 c2 c3 c4 c5 c6 c7 c8 c9 c10 c11 c12 c13 c14 c15)) t)
    (fun t v K => N16.rec (motive := fun _ => Rs) (fun c0 _ c2 c3 c4 c5 c6 c7 c8 c9 c10 c11 c12 c13 c14 c15 => K (N16.mk c0 v c2 c3 c4 c5 c6 c7 c8 c9 c10 c11 c12 c13 c14 c15)) t)
    (fun t v K => N16.rec (motive := fun _ => Rs) (fun c0 c1 _ c3 c4 c5 c6 c7 c8 c9 c10 c11 c12 c13 c14 c15 => K (N16.mk c0 c1 v c3 c4 c5 c6 c7 c8 c9 c10 c11 c12 c13 c14 c15)) t)
    (fun t v K => N16.rec (motive := fun _ => Rs) (fun c0 c1 c2 _ c4 c5 c6 c7 c8 c9 c10 c11 c12 c13 c14 c15 => K (N16.mk c0 c1 c2 v c4 c5 c6 c7 c8 c9 c10 c11 c12 c13 c14 c15)) t)
    (fun t v K => N16.rec (motive := fun _ => Rs) (fun c0 c1 c2 c3 _ c5 c6 c7 c8 c9 c10 c11 c12 c13 c14 c15 => K (N16.mk c0 c1 c2 c3 v c5 c6 c7 c8 c9 c10 c11 c12 c13 c14 c15)) t)
    (fun t v K => N16.rec (motive := fun _ => Rs) (fun c0 c1 c2 c3 c4 _ c6 c7 c8 c9 c10 c11 c12 c13 c14 c15 => K (N16.mk c0 c1 c2 c3 c4 v c6 c7 c8 c9 c10 c11 c12 c13 c14 c15)) t)
    (fun t v K => N16.rec (motive := fun _ => Rs) (fun c0 c1 c2 c3 c4 c5 _ c7 c8 c9 c10 c11 c12 c13 c14 c15 => K (N16.mk c0 c1 c2 c3 c4 c5 v c7 c8 c9 c10 c11 c12 c13 c14 c15)) t)
    (fun t v K => N16.rec (motive := fun _ => Rs) (fun c0 c1 c2 c3 c4 c5 c6 _ c8 c9 c10 c11 c12 c13 c14 c15 => K (N16.mk c0 c1 c2 c3 c4 c5 c6 v c8 c9 c10 c11 c12 c13 c14 c15)) t)
    (fun t v K => N16.rec (motive := fun _ => Rs) (fun c0 c1 c2 c3 c4 c5 c6 c7 _ c9 c10 c11 c12 c13 c14 c15 => K (N16.mk c0 c1 c2 c3 c4 c5 c6 c7 v c9 c10 c11 c12 c13 c14 c15)) t)
    (fun t v K => N16.rec (motive := fun _ => Rs) (fun c0 c1 c2 c3 c4 c5 c6 c7 c8 _ c10 c11 c12 c13 c14 c15 => K (N16.mk c0 c1 c2 c3 c4 c5 c6 c7 c8 v c10 c11 c12 c13 c14 c15)) t)
    (fun t v K => N16.rec (motive := fun _ => Rs) (fun c0 c1 c2 c3 c4 c5 c6 c7 c8 c9 _ c11 c12 c13 c14 c15 => K (N16.mk c0 c1 c2 c3 c4 c5 c6 c7 c8 c9 v c11 c12 c13 c14 c15)) t)
    (fun t v K => N16.rec (motive := fun _ => Rs) (fun c0 c1 c2 c3 c4 c5 c6 c7 c8 c9 c10 _ c12 c13 c14 c15 => K (N16.mk c0 c1 c2 c3 c4 c5 c6 c7 c8 c9 c10 v c12 c13 c14 c15)) t)
    (fun t v K => N16.rec (motive := fun _ => Rs) (fun c0 c1 c2 c3 c4 c5 c6 c7 c8 c9 c10 c11 _ c13 c14 c15 => K (N16.mk c0 c1 c2 c3 c4 c5 c6 c7 c8 c9 c10 c11 v c13 c14 c15)) t)
    (fun t v K => N16.rec (motive := fun _ => Rs) (fun c0 c1 c2 c3 c4 c5 c6 c7 c8 c9 c10 c11 c12 _ c14 c15 => K (N16.mk c0 c1 c2 c3 c4 c5 c6 c7 c8 c9 c10 c11 c12 v c14 c15)) t)
    (fun t v K => N16.rec (motive := fun _ => Rs) (fun c0 c1 c2 c3 c4 c5 c6 c7 c8 c9 c10 c11 c12 c13 _ c15 => K (N16.mk c0 c1 c2 c3 c4 c5 c6 c7 c8 c9 c10 c11 c12 c13 v c15)) t)
    (fun t v K => N16.rec (motive := fun _ => Rs) (fun c0 c1 c2 c3 c4 c5 c6 c7 c8 c9 c10 c11 c12 c13 c14 _ => K (N16.mk c0 c1 c2 c3 c4 c5 c6 c7 c8 c9 c10 c11 c12 c13 c14 v)) t)
    (fun _ _ _ => .bad 9001)
    d t v K
theorem updQ_ok {d : D16} {t : N16 ((N16 (N16 (Option AObj))))} {v : (N16 (N16 (Option AObj)))} {K : N16 ((N16 (N16 (Option AObj)))) → Rs} (h : updQ d t v K = .ok) : d ≠ .no ∧ K (t.set d v) = .ok := by
  cases t; cases d <;> first | exact ⟨(by intro e; cases e), h⟩ | exact Rs.noConfusion h
noncomputable def dig (n : Nat) : D16 := Bool.rec (motive := fun _ => D16) (Bool.rec (motive := fun _ => D16) (Bool.rec (motive := fun _ => D16) (Bool.rec (motive := fun _ => D16) (Bool.rec (motive := fun _ => D16) .d0 .d1 (Nat.ble 1 n)) (Bool.rec (motive := fun _ => D16) .d2 .d3 (Nat.ble 3 n)) (Nat.ble 2 n)) (Bool.rec (motive := fun _ => D16) (Bool.rec (motive := fun _ => D16) .d4 .d5 (Nat.ble 5 n)) (Bool.rec (motive := fun _ => D16) .d6 .d7 (Nat.ble 7 n)) (Nat.ble 6 n)) (Nat.ble 4 n)) (Bool.rec (motive := fun _ => D16) (Bool.rec (motive := fun _ => D16) (Bool.rec (motive := fun _ => D16) .d8 .d9 (Nat.ble 9 n)) (Bool.rec (motive := fun _ => D16) .d10 .d11 (Nat.ble 11 n)) (Nat.ble 10 n)) (Bool.rec (motive := fun _ => D16) (Bool.rec (motive := fun _ => D16) .d12 .d13 (Nat.ble 13 n)) (Bool.rec (motive := fun _ => D16) .d14 .d15 (Nat.ble 15 n)) (Nat.ble 14 n)) (Nat.ble 12 n)) (Nat.ble 8 n)) .no (Nat.ble 16 n)
def digN : D16 → Nat
  | .d0 => 0
  | .d1 => 1
  | .d2 => 2
  | .d3 => 3
  | .d4 => 4
  | .d5 => 5
  | .d6 => 6
  | .d7 => 7
  | .d8 => 8
  | .d9 => 9
  | .d10 => 10
  | .d11 => 11
  | .d12 => 12
  | .d13 => 13
  | .d14 => 14
  | .d15 => 15
  | .no => 16
theorem dig_lt {n : Nat} (h : dig n ≠ .no) : n < 16 := by
  refine Nat.lt_of_not_le fun hle => h ?_
  unfold dig
  rw [show Nat.ble 16 n = true from Nat.ble_eq_true_of_le hle]
theorem digN_dig : ∀ {n : Nat}, n < 16 → digN (dig n) = n
  | 0, _ => rfl
  | 1, _ => rfl
  | 2, _ => rfl
  | 3, _ => rfl
  | 4, _ => rfl
  | 5, _ => rfl
  | 6, _ => rfl
  | 7, _ => rfl
  | 8, _ => rfl
  | 9, _ => rfl
  | 10, _ => rfl
  | 11, _ => rfl
  | 12, _ => rfl
  | 13, _ => rfl
  | 14, _ => rfl
  | 15, _ => rfl
  | n + 16, h => by omega
theorem dig_inj {n m : Nat} (hn : n < 16) (hm : m < 16) (h : dig n = dig m) : n = m := by rw [← digN_dig hn, ← digN_dig hm, h]
noncomputable def asBool (v : AV) (k0 : Rs) (k1 : Rs) : Rs :=
  AV.rec (motive_1 := fun _ => (Rs) → (Rs) → Rs) (motive_2 := fun _ => Unit)
    (fun b k0 k1 => Bool.rec (motive := fun _ => Rs) k1 k0 b)
    (fun _ _ _ _ => .bad 101)
    (fun _ _ _ => .bad 101)
    (fun _ _ _ => .bad 101)
    (fun _ _ => .bad 101)
    (fun _ _ _ _ _ => .bad 101)
    (fun _ _ _ => .bad 101)
    (fun _ _ _ _ _ _ _ => .bad 101)
    (fun _ _ => .bad 101)
    (fun _ _ _ _ _ => .bad 101)
    (fun _ _ => .bad 101)
    (fun _ _ _ _ => .bad 101)
    (fun _ _ _ _ => .bad 101)
    (fun _ _ => .bad 101)
    () (fun _ _ _ _ => ()) v k0 k1
noncomputable def asInt (v : AV) (k0 : IntKind → Int → Rs) : Rs :=
  AV.rec (motive_1 := fun _ => (IntKind → Int → Rs) → Rs) (motive_2 := fun _ => Unit)
    (fun _ _ => .bad 102)
    (fun k n k0 => k0 k n)
    (fun _ _ => .bad 102)
    (fun _ _ => .bad 102)
    (fun _ => .bad 102)
    (fun _ _ _ _ => .bad 102)
    (fun _ _ => .bad 102)
    (fun _ _ _ _ _ _ => .bad 102)
    (fun _ => .bad 102)
    (fun _ _ _ _ => .bad 102)
    (fun _ => .bad 102)
    (fun _ _ _ => .bad 102)
    (fun _ _ _ => .bad 102)
    (fun _ => .bad 102)
    () (fun _ _ _ _ => ()) v k0
theorem asInt_ok {v : AV} {k0 : IntKind → Int → Rs} (h : asInt v k0 = .ok) : ∃ k n, v = .int k n ∧ k0 k n = .ok := by
  cases v <;> first | exact ⟨_, _, rfl, h⟩ | exact Rs.noConfusion h
noncomputable def asStr (v : AV) (k0 : Str → Rs) : Rs :=
  AV.rec (motive_1 := fun _ => (Str → Rs) → Rs) (motive_2 := fun _ => Unit)
    (fun _ _ => .bad 103)
    (fun _ _ _ => .bad 103)
    (fun s k0 => k0 s)
    (fun _ _ => .bad 103)
    (fun _ => .bad 103)
    (fun _ _ _ _ => .bad 103)
    (fun _ _ => .bad 103)
    (fun _ _ _ _ _ _ => .bad 103)
    (fun _ => .bad 103)
    (fun _ _ _ _ => .bad 103)
    (fun _ => .bad 103)
    (fun _ _ _ => .bad 103)
    (fun _ _ _ => .bad 103)
    (fun _ => .bad 103)
    () (fun _ _ _ _ => ()) v k0
theorem asStr_ok {v : AV} {k0 : Str → Rs} (h : asStr v k0 = .ok) : ∃ s, v = .str s ∧ k0 s = .ok := by
  cases v <;> first | exact ⟨_, rfl, h⟩ | exact Rs.noConfusion h
noncomputable def asPtr (v : AV) (k0 : Nat → Nat → Rs) : Rs :=
  AV.rec (motive_1 := fun _ => (Nat → Nat → Rs) → Rs) (motive_2 := fun _ => Unit)
    (fun _ _ => .bad 105)
    (fun _ _ _ => .bad 105)
    (fun _ _ => .bad 105)
    (fun p k0 => Option.rec (motive := fun _ => (Nat → Nat → Rs) → Rs) (fun _ => .bad 104) (fun p K => Pt.rec (motive := fun _ => (Nat → Nat → Rs) → Rs) (fun b o K => K b o) p K) p k0)
    (fun _ => .bad 105)
    (fun _ _ _ _ => .bad 105)
    (fun _ _ => .bad 105)
    (fun _ _ _ _ _ _ => .bad 105)
    (fun _ => .bad 105)
    (fun _ _ _ _ => .bad 105)
    (fun _ => .bad 105)
    (fun _ _ _ => .bad 105)
    (fun _ _ _ => .bad 105)
    (fun _ => .bad 105)
    () (fun _ _ _ _ => ()) v k0
noncomputable def asPtrO (v : AV) (k0 : Option Pt → Rs) : Rs :=
  AV.rec (motive_1 := fun _ => (Option Pt → Rs) → Rs) (motive_2 := fun _ => Unit)
    (fun _ _ => .bad 106)
    (fun _ _ _ => .bad 106)
    (fun _ _ => .bad 106)
    (fun p k0 => k0 p)
    (fun _ => .bad 106)
    (fun _ _ _ _ => .bad 106)
    (fun _ _ => .bad 106)
    (fun _ _ _ _ _ _ => .bad 106)
    (fun _ => .bad 106)
    (fun _ _ _ _ => .bad 106)
    (fun _ => .bad 106)
    (fun _ _ _ => .bad 106)
    (fun _ _ _ => .bad 106)
    (fun _ => .bad 106)
    () (fun _ _ _ _ => ()) v k0
theorem asPtrO_ok {v : AV} {k0 : Option Pt → Rs} (h : asPtrO v k0 = .ok) : ∃ p, v = .ptr p ∧ k0 p = .ok := by
  cases v <;> first | exact ⟨_, rfl, h⟩ | exact Rs.noConfusion h
noncomputable def asSlice (v : AV) (k0 : Option Pt → Nat → Nat → Rs) : Rs :=
  AV.rec (motive_1 := fun _ => (Option Pt → Nat → Nat → Rs) → Rs) (motive_2 := fun _ => Unit)
    (fun _ _ => .bad 107)
    (fun _ _ _ => .bad 107)
    (fun _ _ => .bad 107)
    (fun _ _ => .bad 107)
    (fun _ => .bad 107)
    (fun p len sz k0 => k0 p len sz)
    (fun _ _ => .bad 107)
    (fun _ _ _ _ _ _ => .bad 107)
    (fun _ => .bad 107)
    (fun _ _ _ _ => .bad 107)
    (fun _ => .bad 107)
    (fun _ _ _ => .bad 107)
    (fun _ _ _ => .bad 107)
    (fun _ => .bad 107)
    () (fun _ _ _ _ => ()) v k0
theorem asSlice_ok {v : AV} {k0 : Option Pt → Nat → Nat → Rs} (h : asSlice v k0 = .ok) : ∃ p n sz, v = .slice p n sz ∧ k0 p n sz = .ok := by
  cases v <;> first | exact ⟨_, _, _, rfl, h⟩ | exact Rs.noConfusion h
noncomputable def asMap (v : AV) (k0 : Option Nat → Rs) : Rs :=
  AV.rec (motive_1 := fun _ => (Option Nat → Rs) → Rs) (motive_2 := fun _ => Unit)
    (fun _ _ => .bad 108)
    (fun _ _ _ => .bad 108)
    (fun _ _ => .bad 108)
    (fun _ _ => .bad 108)
    (fun _ => .bad 108)
    (fun _ _ _ _ => .bad 108)
    (fun r k0 => k0 r)
    (fun _ _ _ _ _ _ => .bad 108)
    (fun _ => .bad 108)
    (fun _ _ _ _ => .bad 108)
    (fun _ => .bad 108)
    (fun _ _ _ => .bad 108)
    (fun _ _ _ => .bad 108)
    (fun _ => .bad 108)
    () (fun _ _ _ _ => ()) v k0
theorem asMap_ok {v : AV} {k0 : Option Nat → Rs} (h : asMap v k0 = .ok) : ∃ r, v = .map r ∧ k0 r = .ok := by
  cases v <;> first | exact ⟨_, rfl, h⟩ | exact Rs.noConfusion h
noncomputable def asFunc (v : AV) (k0 : Fn → List AV → List AV → Rs) : Rs :=
  AV.rec (motive_1 := fun _ => (Fn → List AV → List AV → Rs) → Rs) (motive_2 := fun _ => Unit)
    (fun _ _ => .bad 109)
    (fun _ _ _ => .bad 109)
    (fun _ _ => .bad 109)
    (fun _ _ => .bad 109)
    (fun _ => .bad 109)
    (fun _ _ _ _ => .bad 109)
    (fun _ _ => .bad 109)
    (fun fn l1 l2 _ _ k0 => k0 fn l1 l2)
    (fun _ => .bad 109)
    (fun _ _ _ _ => .bad 109)
    (fun _ => .bad 109)
    (fun _ _ _ => .bad 109)
    (fun _ _ _ => .bad 109)
    (fun _ => .bad 109)
    () (fun _ _ _ _ => ()) v k0
theorem asFunc_ok {v : AV} {k0 : Fn → List AV → List AV → Rs} (h : asFunc v k0 = .ok) : ∃ f a b, v = .func f a b ∧ k0 f a b = .ok := by
  cases v <;> first | exact ⟨_, _, _, rfl, h⟩ | exact Rs.noConfusion h
noncomputable def asAgg (v : AV) (k0 : List AV → Rs) : Rs :=
  AV.rec (motive_1 := fun _ => (List AV → Rs) → Rs) (motive_2 := fun _ => Unit)
    (fun _ _ => .bad 110)
    (fun _ _ _ => .bad 110)
    (fun _ _ => .bad 110)
    (fun _ _ => .bad 110)
    (fun _ => .bad 110)
    (fun _ _ _ _ => .bad 110)
    (fun _ _ => .bad 110)
    (fun _ _ _ _ _ _ => .bad 110)
    (fun _ => .bad 110)
    (fun _ _ _ _ => .bad 110)
    (fun _ => .bad 110)
    (fun l _ k0 => k0 l)
    (fun _ _ _ => .bad 110)
    (fun _ => .bad 110)
    () (fun _ _ _ _ => ()) v k0
theorem asAgg_ok {v : AV} {k0 : List AV → Rs} (h : asAgg v k0 = .ok) : ∃ l, v = .agg l ∧ k0 l = .ok := by
  cases v <;> first | exact ⟨_, rfl, h⟩ | exact Rs.noConfusion h
noncomputable def asTup (v : AV) (k0 : List AV → Rs) : Rs :=
  AV.rec (motive_1 := fun _ => (List AV → Rs) → Rs) (motive_2 := fun _ => Unit)
    (fun _ _ => .bad 111)
    (fun _ _ _ => .bad 111)
    (fun _ _ => .bad 111)
    (fun _ _ => .bad 111)
    (fun _ => .bad 111)
    (fun _ _ _ _ => .bad 111)
    (fun _ _ => .bad 111)
    (fun _ _ _ _ _ _ => .bad 111)
    (fun _ => .bad 111)
    (fun _ _ _ _ => .bad 111)
    (fun _ => .bad 111)
    (fun _ _ _ => .bad 111)
    (fun l _ k0 => k0 l)
    (fun _ => .bad 111)
    () (fun _ _ _ _ => ()) v k0
theorem asTup_ok {v : AV} {k0 : List AV → Rs} (h : asTup v k0 = .ok) : ∃ l, v = .tuple l ∧ k0 l = .ok := by
  cases v <;> first | exact ⟨_, rfl, h⟩ | exact Rs.noConfusion h
noncomputable def guardX (v : AV) (k0 : Bool) (k1 : Rs) (k2 : Rs) : Rs :=
  AV.rec (motive_1 := fun _ => (Bool) → (Rs) → (Rs) → Rs) (motive_2 := fun _ => Unit)
    (fun b k0 k1 k2 => Bool.rec (motive := fun _ => Bool → Rs → Rs → Rs) (fun w y n => Bool.rec (motive := fun _ => Rs) y n w) (fun w y n => Bool.rec (motive := fun _ => Rs) n y w) b k0 k1 k2)
    (fun _ _ _ _ _ => .bad 113)
    (fun _ _ _ _ => .bad 113)
    (fun _ _ _ _ => .bad 113)
    (fun _ _ _ => .bad 113)
    (fun _ _ _ _ _ _ => .bad 113)
    (fun _ _ _ _ => .bad 113)
    (fun _ _ _ _ _ _ _ _ => .bad 113)
    (fun _ _ _ => .bad 113)
    (fun _ _ _ _ _ _ => .bad 113)
    (fun _ _ _ => .bad 113)
    (fun _ _ _ _ _ => .bad 113)
    (fun l _ _ _ k2 => List.rec (motive := fun _ => Rs → Rs) (fun n => n) (fun _ _ _ _ => .bad 112) l k2)
    (fun _ _ _ => .bad 113)
    () (fun _ _ _ _ => ()) v k0 k1 k2
noncomputable def oneX (v : AV) (k0 : Rs) : Rs :=
  AV.rec (motive_1 := fun _ => (Rs) → Rs) (motive_2 := fun _ => Unit)
    (fun _ k0 => k0)
    (fun _ _ k0 => k0)
    (fun _ k0 => k0)
    (fun _ k0 => k0)
    (fun _ => .bad 114)
    (fun _ _ _ k0 => k0)
    (fun _ k0 => k0)
    (fun _ _ _ _ _ k0 => k0)
    (fun  k0 => k0)
    (fun _ _ _ k0 => k0)
    (fun  k0 => k0)
    (fun _ _ _ => .bad 114)
    (fun _ _ _ => .bad 114)
    (fun _ => .bad 114)
    () (fun _ _ _ _ => ()) v k0
theorem oneX_ok {v : AV} {k0 : Rs} (h : oneX v k0 = .ok) : v.one = true ∧ k0 = .ok := by
  cases v <;> first | exact ⟨rfl, h⟩ | exact Rs.noConfusion h
noncomputable def nilX (v : AV) (k0 : AV → Rs) : Rs :=
  AV.rec (motive_1 := fun _ => (AV → Rs) → Rs) (motive_2 := fun _ => Unit)
    (fun _ _ => .bad 116)
    (fun _ _ _ => .bad 116)
    (fun _ _ => .bad 116)
    (fun p k0 => Option.rec (motive := fun _ => (AV → Rs) → Rs) (fun _ => .bad 115) (fun p K => K (.ptr (some p))) p k0)
    (fun  k0 => k0 .anyptr)
    (fun _ _ _ _ => .bad 116)
    (fun _ _ => .bad 116)
    (fun fn l1 l2 _ _ k0 => Fn.rec (motive := fun _ => List AV → List AV → (AV → Rs) → Rs) (fun f l1 l2 K => K (.func (.func f) l1 l2)) (fun _ _ _ _ => .bad 117) (fun _ _ _ _ _ => .bad 117) (fun _ _ _ _ _ _ _ => .bad 117) (fun _ _ _ _ => .bad 117) fn l1 l2 k0)
    (fun _ => .bad 116)
    (fun _ _ _ _ => .bad 116)
    (fun _ => .bad 116)
    (fun _ _ _ => .bad 116)
    (fun _ _ _ => .bad 116)
    (fun _ => .bad 116)
    () (fun _ _ _ _ => ()) v k0
theorem asBool_ok {v : AV} {k0 k1 : Rs} (h : asBool v k0 k1 = .ok) : ∃ b, v = .bool b ∧ cond b k0 k1 = .ok := by
  cases v <;> first | exact Rs.noConfusion h | skip
  rename_i b; cases b <;> exact ⟨_, rfl, h⟩
theorem asPtr_ok {v : AV} {k0 : Nat → Nat → Rs} (h : asPtr v k0 = .ok) : ∃ p : Pt, v = .ptr (some p) ∧ k0 p.b p.o = .ok := by
  cases v <;> first | exact Rs.noConfusion h | skip
  rename_i p; cases p
  · exact Rs.noConfusion h
  · exact ⟨_, rfl, h⟩
theorem guardX_ok {v : AV} {w : Bool} {k0 k1 : Rs} (h : guardX v w k0 k1 = .ok) : (∃ b, v = .bool b ∧ cond (b == w) k0 k1 = .ok) ∨ (v = .tuple [] ∧ k1 = .ok) := by
  cases v <;> first | exact Rs.noConfusion h | skip
  · rename_i b; cases b <;> cases w <;> exact .inl ⟨_, rfl, h⟩
  · rename_i l; cases l
    · exact .inr ⟨rfl, h⟩
    · exact Rs.noConfusion h
theorem nilX_ok {v : AV} {k0 : AV → Rs} (h : nilX v k0 = .ok) : k0 v = .ok ∧ ((∃ p, v = .ptr (some p)) ∨ v = .anyptr ∨ ∃ f a b, v = .func (.func f) a b) := by
  cases v <;> first | exact Rs.noConfusion h | skip
  · rename_i p; cases p
    · exact Rs.noConfusion h
    · exact ⟨h, .inl ⟨_, rfl⟩⟩
  · exact ⟨h, .inr (.inl rfl)⟩
  · rename_i f a b; cases f <;> first | exact Rs.noConfusion h | exact ⟨h, .inr (.inr ⟨_, _, _, rfl⟩)⟩
noncomputable def asCall (v : AV) (k0 : FuncId → List AV → List AV → Rs) (k1 : Nat → List AV → List AV → Rs) : Rs :=
  AV.rec (motive_1 := fun _ => (FuncId → List AV → List AV → Rs) → (Nat → List AV → List AV → Rs) → Rs) (motive_2 := fun _ => Unit)
    (fun _ _ _ => .bad 119)
    (fun _ _ _ _ => .bad 119)
    (fun _ _ _ => .bad 119)
    (fun _ _ _ => .bad 119)
    (fun _ _ => .bad 119)
    (fun _ _ _ _ _ => .bad 119)
    (fun _ _ _ => .bad 119)
    (fun fn l1 l2 _ _ k0 k1 => Fn.rec (motive := fun _ => List AV → List AV → (FuncId → List AV → List AV → Rs) → (Nat → List AV → List AV → Rs) → Rs) (fun f l1 l2 K _ => K f l1 l2) (fun _ _ _ _ _ => .bad 118) (fun _ _ _ _ _ _ => .bad 118) (fun _ _ _ _ _ _ _ _ => .bad 118) (fun l l1 l2 _ Y => Y l l1 l2) fn l1 l2 k0 k1)
    (fun _ _ => .bad 119)
    (fun _ _ _ _ _ => .bad 119)
    (fun _ _ => .bad 119)
    (fun _ _ _ _ => .bad 119)
    (fun _ _ _ _ => .bad 119)
    (fun _ _ => .bad 119)
    () (fun _ _ _ _ => ()) v k0 k1
end Go.La
/- Layer X, part 2: an interpreter of the abstract semantics, made for the kernel: raw recursors, strict by continuations. -/
namespace Go.La
open Go

/-! ### Small things -/
noncomputable def natK (n : Nat) (K : Nat → Rs) : Rs :=
  Nat.rec (motive := fun _ => (Nat → Rs) → Rs) (fun _ => .bad 1) (fun m _ K => K m) (Nat.succ n) K
noncomputable def iteB (b : Bool) (x y : Rs) : Rs := Bool.rec (motive := fun _ => Rs) y x b
noncomputable def iteN (a b : Nat) (x y : Rs) : Rs := Bool.rec (motive := fun _ => Rs) y x (Nat.ble a b)
noncomputable def iteE (a b : Nat) (x y : Rs) : Rs := Bool.rec (motive := fun _ => Rs) y x (Nat.beq a b)
noncomputable def dropX (n : Nat) (l : List AV) (K : List AV → Rs) : Rs :=
  Nat.rec (motive := fun _ => List AV → (List AV → Rs) → Rs) (fun l K => K l)
    (fun _ ih l K => List.rec (motive := fun _ => (List AV → (List AV → Rs) → Rs) → (List AV → Rs) → Rs) (fun _ _ => .bad 2) (fun _ r _ ih K => ih r K) l ih K) n l K
noncomputable def takeX (n : Nat) (l : List AV) (K : List AV → Rs) : Rs :=
  Nat.rec (motive := fun _ => List AV → (List AV → Rs) → Rs) (fun _ K => K [])
    (fun _ ih l K => List.rec (motive := fun _ => (List AV → (List AV → Rs) → Rs) → (List AV → Rs) → Rs) (fun _ _ => .bad 3) (fun a r _ ih K => ih r fun r => K (a :: r)) l ih K) n l K
noncomputable def nthX (n : Nat) (l : List AV) (K : AV → Rs) : Rs :=
  Nat.rec (motive := fun _ => List AV → (AV → Rs) → Rs) (fun l K => List.rec (motive := fun _ => (AV → Rs) → Rs) (fun _ => .bad 4) (fun a _ _ K => K a) l K)
    (fun _ ih l K => List.rec (motive := fun _ => (List AV → (AV → Rs) → Rs) → (AV → Rs) → Rs) (fun _ _ => .bad 4) (fun _ r _ ih K => ih r K) l ih K) n l K
noncomputable def appX (l m : List AV) (K : List AV → Rs) : Rs :=
  List.rec (motive := fun _ => List AV → (List AV → Rs) → Rs) (fun m K => K m) (fun a _ ih m K => ih m fun r => K (a :: r)) l m K
/-- Cells written over the first ones. -/
noncomputable def overX (l c : List AV) (K : List AV → Rs) : Rs :=
  List.rec (motive := fun _ => List AV → (List AV → Rs) → Rs) (fun c K => K c)
    (fun a _ ih c K => List.rec (motive := fun _ => AV → (List AV → (List AV → Rs) → Rs) → (List AV → Rs) → Rs) (fun _ _ _ => .bad 5) (fun _ r _ a ih K => ih r fun r => K (a :: r)) c a ih K) l c K
noncomputable def spliceX (o : Nat) (l c : List AV) (K : List AV → Rs) : Rs :=
  Nat.rec (motive := fun _ => List AV → List AV → (List AV → Rs) → Rs) overX
    (fun _ ih l c K => List.rec (motive := fun _ => List AV → (List AV → List AV → (List AV → Rs) → Rs) → (List AV → Rs) → Rs) (fun _ _ _ => .bad 6) (fun a r _ l ih K => ih l r fun r => K (a :: r)) c l ih K) o l c K
noncomputable def setX (o : Nat) (v : AV) (c : List AV) (K : List AV → Rs) : Rs :=
  Nat.rec (motive := fun _ => AV → List AV → (List AV → Rs) → Rs) (fun v c K => List.rec (motive := fun _ => AV → (List AV → Rs) → Rs) (fun _ _ => .bad 7) (fun _ r _ v K => K (v :: r)) c v K)
    (fun _ ih v c K => List.rec (motive := fun _ => AV → (AV → List AV → (List AV → Rs) → Rs) → (List AV → Rs) → Rs) (fun _ _ _ => .bad 7) (fun a r _ v ih K => ih v r fun r => K (a :: r)) c v ih K) o v c K
noncomputable def lenX (l : List AV) (n : Nat) (K : Nat → Rs) : Rs :=
  List.rec (motive := fun _ => Nat → (Nat → Rs) → Rs) (fun n K => K n) (fun _ _ ih n K => natK (Nat.succ n) fun n => ih n K) l n K
noncomputable def lenS (l : Str) (n : Nat) (K : Nat → Rs) : Rs :=
  List.rec (motive := fun _ => Nat → (Nat → Rs) → Rs) (fun n K => K n) (fun _ _ ih n K => natK (Nat.succ n) fun n => ih n K) l n K
noncomputable def repX (n : Nat) (l r : List AV) (K : List AV → Rs) : Rs :=
  Nat.rec (motive := fun _ => List AV → List AV → (List AV → Rs) → Rs) (fun _ r K => K r) (fun _ ih l r K => appX l r fun r => ih l r K) n l r K

/-! ### The heap -/
structure XH where
  next : Nat
  tr : N16 (N16 (N16 (Option AObj)))
noncomputable def getO (b : Nat) (h : XH) (K : Option AObj → Rs) : Rs :=
  selQ (dig (Nat.div b 256)) h.tr fun x => selP (dig (Nat.mod (Nat.div b 16) 16)) x fun y => selO (dig (Nat.mod b 16)) y K
noncomputable def putO (b n : Nat) (o : Option AObj) (t : N16 (N16 (N16 (Option AObj)))) (K : XH → Rs) : Rs :=
  selQ (dig (Nat.div b 256)) t fun x => selP (dig (Nat.mod (Nat.div b 16) 16)) x fun y => updO (dig (Nat.mod b 16)) y o fun y => updP (dig (Nat.mod (Nat.div b 16) 16)) x y fun x => updQ (dig (Nat.div b 256)) t x fun t => K ⟨n, t⟩
noncomputable def setO (b : Nat) (o : Option AObj) (h : XH) (K : XH → Rs) : Rs :=
  XH.rec (motive := fun _ => Nat → Option AObj → (XH → Rs) → Rs) (fun n t b o K => putO b n o t K) h b o K
noncomputable def newO (o : AObj) (h : XH) (K : Nat → XH → Rs) : Rs :=
  XH.rec (motive := fun _ => AObj → (Nat → XH → Rs) → Rs) (fun n t o K => natK (Nat.succ n) fun m => putO n m (some o) t fun h => K n h) h o K
noncomputable def asCells (o : Option AObj) (K : Bool → Nat → El → List AV → Rs) : Rs :=
  Option.rec (motive := fun _ => (Bool → Nat → El → List AV → Rs) → Rs) (fun _ => .bad 8)
    (fun a K => AObj.rec (motive := fun _ => (Bool → Nat → El → List AV → Rs) → Rs) (fun ro fz el c K => K ro fz el c) (fun _ _ _ => .bad 9) (fun _ _ _ _ _ => .bad 9) (fun _ _ _ _ _ _ _ _ => .bad 9) (fun _ _ => .bad 9) (fun _ _ _ => .bad 9) a K) o K
noncomputable def asMapO (o : Option AObj) (K : List (AV × AV × Nat) → Nat → Rs) : Rs :=
  Option.rec (motive := fun _ => (List (AV × AV × Nat) → Nat → Rs) → Rs) (fun _ => .bad 10)
    (fun a K => AObj.rec (motive := fun _ => (List (AV × AV × Nat) → Nat → Rs) → Rs) (fun _ _ _ _ _ => .bad 11) (fun es clk K => K es clk) (fun _ _ _ _ _ => .bad 11) (fun _ _ _ _ _ _ _ _ => .bad 11) (fun _ _ => .bad 11) (fun _ _ _ => .bad 11) a K) o K
noncomputable def rd1 (b o : Nat) (h : XH) (K : AV → Rs) : Rs := getO b h fun x => asCells x fun _ _ _ c => nthX o c K
noncomputable def rdN (b o n : Nat) (h : XH) (K : List AV → Rs) : Rs := getO b h fun x => asCells x fun _ _ _ c => dropX o c fun c => takeX n c K
noncomputable def wr1 (b o : Nat) (v : AV) (h : XH) (K : XH → Rs) : Rs :=
  getO b h fun x => asCells x fun ro fz el c => iteB ro (.bad 12) (iteN fz o (setX o v c fun c => setO b (some (.cells false fz el c)) h K) (.bad 13))
noncomputable def wrN (b o : Nat) (l : List AV) (h : XH) (K : XH → Rs) : Rs :=
  getO b h fun x => asCells x fun ro fz el c => iteB ro (.bad 12) (iteN fz o (spliceX o l c fun c => setO b (some (.cells false fz el c)) h K) (.bad 13))

/-! ### What is held in slots -/
abbrev EV := N16 (N16 AV)
inductive XV where
  | tmp (a b : D16)
  | const (v : AV)
inductive XD where
  | none
  | some (a b : D16)
noncomputable def evX (x : XV) (e : EV) (K : AV → Rs) : Rs :=
  XV.rec (motive := fun _ => EV → (AV → Rs) → Rs) (fun a b e K => selE a e fun r => selA b r K) (fun v _ K => K v) x e K
noncomputable def putX (d : XD) (v : AV) (e : EV) (K : EV → Rs) : Rs :=
  XD.rec (motive := fun _ => AV → EV → (EV → Rs) → Rs) (fun _ e K => K e) (fun a b v e K => selE a e fun r => updA b r v fun r => updE a e r K) d v e K
noncomputable def evsX (l : List XV) (e : EV) (K : List AV → Rs) : Rs :=
  List.rec (motive := fun _ => EV → (List AV → Rs) → Rs) (fun _ K => K []) (fun x _ ih e K => evX x e fun v => ih e fun r => K (v :: r)) l e K
noncomputable def optX (x : Option XV) (e : EV) (K : Option AV → Rs) : Rs :=
  Option.rec (motive := fun _ => EV → (Option AV → Rs) → Rs) (fun _ K => K none) (fun x e K => evX x e fun v => K (some v)) x e K

/-! ### Whole numbers -/
noncomputable def subNN (a b : Nat) (K : Int → Rs) : Rs := iteN b a (K (.ofNat (Nat.sub a b))) (K (.negSucc (Nat.pred (Nat.sub b a))))
noncomputable def addI (x y : Int) (K : Int → Rs) : Rs :=
  Int.rec (motive := fun _ => Int → (Int → Rs) → Rs)
    (fun a y K => Int.rec (motive := fun _ => Nat → (Int → Rs) → Rs) (fun b a K => K (.ofNat (Nat.add a b))) (fun b a K => subNN a (Nat.succ b) K) y a K)
    (fun a y K => Int.rec (motive := fun _ => Nat → (Int → Rs) → Rs) (fun b a K => subNN b (Nat.succ a) K) (fun b a K => K (.negSucc (Nat.succ (Nat.add a b)))) y a K) x y K
noncomputable def negI (x : Int) : Int := Int.rec (motive := fun _ => Int) (fun a => Nat.rec (motive := fun _ => Int) (.ofNat 0) (fun m _ => .negSucc m) a) (fun a => .ofNat (Nat.succ a)) x
noncomputable def eqI (x y : Int) : Bool :=
  Int.rec (motive := fun _ => Int → Bool)
    (fun a y => Int.rec (motive := fun _ => Nat → Bool) (fun b a => Nat.beq a b) (fun _ _ => false) y a)
    (fun a y => Int.rec (motive := fun _ => Nat → Bool) (fun _ _ => false) (fun b a => Nat.beq a b) y a) x y
noncomputable def ltI (x y : Int) : Bool :=
  Int.rec (motive := fun _ => Int → Bool)
    (fun a y => Int.rec (motive := fun _ => Nat → Bool) (fun b a => Nat.ble (Nat.succ a) b) (fun _ _ => false) y a)
    (fun a y => Int.rec (motive := fun _ => Nat → Bool) (fun _ _ => true) (fun b a => Nat.ble (Nat.succ b) a) y a) x y
noncomputable def notB (b : Bool) : Bool := Bool.rec (motive := fun _ => Bool) true false b
noncomputable def natI (n : Int) (K : Nat → Rs) : Rs := Int.rec (motive := fun _ => (Nat → Rs) → Rs) (fun a K => natK a K) (fun _ _ => .bad 14) n K
noncomputable def wrapU (M : Nat) (n : Int) (K : Int → Rs) : Rs :=
  Int.rec (motive := fun _ => Nat → (Int → Rs) → Rs) (fun a M K => natK (Nat.mod a M) fun a => K (.ofNat a)) (fun a M K => natK (Nat.sub (Nat.pred M) (Nat.mod a M)) fun a => K (.ofNat a)) n M K
noncomputable def wrapS2 (M H r : Nat) (K : Int → Rs) : Rs := iteN (Nat.succ r) H (K (.ofNat r)) (natK (Nat.sub (Nat.pred M) r) fun r => K (.negSucc r))
noncomputable def wrapS (M H : Nat) (n : Int) (K : Int → Rs) : Rs :=
  Int.rec (motive := fun _ => Nat → Nat → (Int → Rs) → Rs)
    (fun a M H K => iteN (Nat.succ a) H (natK a fun a => K (.ofNat a)) (natK (Nat.mod a M) fun r => wrapS2 M H r K))
    (fun a M H K => iteN (Nat.succ a) H (natK a fun a => K (.negSucc a)) (natK (Nat.sub (Nat.pred M) (Nat.mod a M)) fun r => wrapS2 M H r K)) n M H K
noncomputable def wrapX (k : IntKind) (n : Int) (K : Int → Rs) : Rs :=
  IntKind.rec (motive := fun _ => Int → (Int → Rs) → Rs) (wrapS 256 128) (wrapS 65536 32768) (wrapS 4294967296 2147483648) (wrapS 18446744073709551616 9223372036854775808)
    (wrapU 256) (wrapU 65536) (wrapU 4294967296) (wrapU 18446744073709551616) k n K
noncomputable def powX (k : IntKind) : Nat := IntKind.rec (motive := fun _ => Nat) 256 65536 4294967296 18446744073709551616 256 65536 4294967296 18446744073709551616 k

noncomputable def bitsX (k : IntKind) : Nat := IntKind.rec (motive := fun _ => Nat) 8 16 32 64 8 16 32 64 k
noncomputable def forceI (n : Int) (K : Int → Rs) : Rs := Int.rec (motive := fun _ => (Int → Rs) → Rs) (fun a K => natK a fun a => K (.ofNat a)) (fun a K => natK a fun a => K (.negSucc a)) n K
abbrev KA := AV → Rs
noncomputable def kb (b : Bool) (K : KA) : Rs := Bool.rec (motive := fun _ => Rs) (K (.bool false)) (K (.bool true)) b
noncomputable def ki (k : IntKind) (n : Int) (K : KA) : Rs := wrapX k n fun n => K (.int k n)
/-- Bits of two numbers, both not below 0. -/
noncomputable def bitX (f : Nat → Nat → Nat → Nat) (k : IntKind) (x y : Int) (K : KA) : Rs :=
  Int.rec (motive := fun _ => Int → (Nat → Nat → Nat → Nat) → IntKind → KA → Rs)
    (fun a y f k K => Int.rec (motive := fun _ => Nat → (Nat → Nat → Nat → Nat) → IntKind → KA → Rs)
      (fun b a f k K => ki k (.ofNat (f (powX k) (Nat.mod a (powX k)) (Nat.mod b (powX k)))) K) (fun b a f k K => ki k (.ofNat (f (powX k) (Nat.mod a (powX k)) (Nat.sub (Nat.pred (powX k)) (Nat.mod b (powX k))))) K) y a f k K)
    (fun a y f k K => Int.rec (motive := fun _ => Nat → (Nat → Nat → Nat → Nat) → IntKind → KA → Rs)
      (fun b a f k K => ki k (.ofNat (f (powX k) (Nat.sub (Nat.pred (powX k)) (Nat.mod a (powX k))) (Nat.mod b (powX k)))) K) (fun b a f k K => ki k (.ofNat (f (powX k) (Nat.sub (Nat.pred (powX k)) (Nat.mod a (powX k))) (Nat.sub (Nat.pred (powX k)) (Nat.mod b (powX k))))) K) y a f k K) x y f k K
noncomputable def i_add (k : IntKind) (x y : Int) (K : KA) : Rs := addI x y fun n => ki k n K
noncomputable def i_sub (k : IntKind) (x y : Int) (K : KA) : Rs := addI x (negI y) fun n => ki k n K
noncomputable def i_mul (k : IntKind) (x y : Int) (K : KA) : Rs := ki k (Int.mul x y) K
noncomputable def i_quo (k : IntKind) (x y : Int) (K : KA) : Rs := iteB (eqI y (.ofNat 0)) (.bad 15) (ki k (Int.tdiv x y) K)
noncomputable def i_rem (k : IntKind) (x y : Int) (K : KA) : Rs := iteB (eqI y (.ofNat 0)) (.bad 15) (forceI (Int.tmod x y) fun n => K (.int k n))
noncomputable def i_and (k : IntKind) (x y : Int) (K : KA) : Rs := bitX (fun _ => Nat.land) k x y K
noncomputable def i_or (k : IntKind) (x y : Int) (K : KA) : Rs := bitX (fun _ => Nat.lor) k x y K
noncomputable def i_xor (k : IntKind) (x y : Int) (K : KA) : Rs := bitX (fun _ => Nat.xor) k x y K
noncomputable def i_andNot (k : IntKind) (x y : Int) (K : KA) : Rs := bitX (fun M a b => Nat.land a (Nat.sub (Nat.pred M) b)) k x y K
noncomputable def i_shl (k : IntKind) (x y : Int) (K : KA) : Rs := natI y fun s => iteN s (bitsX k) (ki k (Int.mul x (.ofNat (Nat.pow 2 s))) K) (.bad 16)
noncomputable def i_shr (k : IntKind) (x y : Int) (K : KA) : Rs :=
  natI y fun s => iteN s (bitsX k) (Int.rec (motive := fun _ => Nat → IntKind → KA → Rs) (fun a s k K => natK (Nat.div a (Nat.pow 2 s)) fun a => K (.int k (.ofNat a))) (fun a s k K => natK (Nat.div a (Nat.pow 2 s)) fun a => K (.int k (.negSucc a))) x s k K) (.bad 16)
noncomputable def i_eql (_ : IntKind) (x y : Int) (K : KA) : Rs := kb (eqI x y) K
noncomputable def i_neq (_ : IntKind) (x y : Int) (K : KA) : Rs := kb (notB (eqI x y)) K
noncomputable def i_lss (_ : IntKind) (x y : Int) (K : KA) : Rs := kb (ltI x y) K
noncomputable def i_leq (_ : IntKind) (x y : Int) (K : KA) : Rs := kb (notB (ltI y x)) K
noncomputable def i_gtr (_ : IntKind) (x y : Int) (K : KA) : Rs := kb (ltI y x) K
noncomputable def i_geq (_ : IntKind) (x y : Int) (K : KA) : Rs := kb (notB (ltI x y)) K
noncomputable def intX (op : BinOp) (k : IntKind) (x y : Int) (K : KA) : Rs :=
  BinOp.rec (motive := fun _ => IntKind → Int → Int → KA → Rs) i_add i_sub i_mul i_quo i_rem i_and i_or i_xor i_shl i_shr i_andNot i_eql i_neq i_lss i_leq i_gtr i_geq op k x y K
noncomputable def appS (l m : Str) (K : Str → Rs) : Rs :=
  List.rec (motive := fun _ => Str → (Str → Rs) → Rs) (fun m K => K m) (fun a _ ih m K => ih m fun r => K (a :: r)) l m K
noncomputable def dropS (n : Nat) (l : Str) (K : Str → Rs) : Rs :=
  Nat.rec (motive := fun _ => Str → (Str → Rs) → Rs) (fun l K => K l)
    (fun _ ih l K => List.rec (motive := fun _ => (Str → (Str → Rs) → Rs) → (Str → Rs) → Rs) (fun _ _ => .bad 2) (fun _ r _ ih K => ih r K) l ih K) n l K
noncomputable def takeS (n : Nat) (l : Str) (K : Str → Rs) : Rs :=
  Nat.rec (motive := fun _ => Str → (Str → Rs) → Rs) (fun _ K => K [])
    (fun _ ih l K => List.rec (motive := fun _ => (Str → (Str → Rs) → Rs) → (Str → Rs) → Rs) (fun _ _ => .bad 3) (fun a r _ ih K => ih r fun r => K (a :: r)) l ih K) n l K
noncomputable def eqS (l m : Str) : Bool :=
  List.rec (motive := fun _ => Str → Bool) (fun m => List.rec (motive := fun _ => Bool) true (fun _ _ _ => false) m)
    (fun a _ ih m => List.rec (motive := fun _ => UInt8 → (Str → Bool) → Bool) (fun _ _ => false) (fun b r _ a ih => Bool.rec (motive := fun _ => Bool) false (ih r) (Nat.beq (UInt8.toNat a) (UInt8.toNat b))) m a ih) l m
noncomputable def ltS (l m : Str) : Bool :=
  List.rec (motive := fun _ => Str → Bool) (fun m => List.rec (motive := fun _ => Bool) false (fun _ _ _ => true) m)
    (fun a _ ih m => List.rec (motive := fun _ => UInt8 → (Str → Bool) → Bool) (fun _ _ => false)
      (fun b r _ a ih => Bool.rec (motive := fun _ => Bool) (Bool.rec (motive := fun _ => Bool) false (ih r) (Nat.beq (UInt8.toNat a) (UInt8.toNat b))) true (Nat.ble (Nat.succ (UInt8.toNat a)) (UInt8.toNat b))) m a ih) l m
noncomputable def s_add (x y : Str) (K : KA) : Rs := lenS x 0 fun a => lenS y 0 fun b => iteN (Nat.add a b) 4611686018427387903 (appS x y fun s => K (.str s)) (.bad 19)
noncomputable def s_eql (x y : Str) (K : KA) : Rs := kb (eqS x y) K
noncomputable def s_neq (x y : Str) (K : KA) : Rs := kb (notB (eqS x y)) K
noncomputable def s_lss (x y : Str) (K : KA) : Rs := kb (ltS x y) K
noncomputable def s_leq (x y : Str) (K : KA) : Rs := kb (notB (ltS y x)) K
noncomputable def s_gtr (x y : Str) (K : KA) : Rs := kb (ltS y x) K
noncomputable def s_geq (x y : Str) (K : KA) : Rs := kb (notB (ltS x y)) K
noncomputable def b_bad (_ _ : Str) (_ : KA) : Rs := .bad 17
noncomputable def strX (op : BinOp) (x y : Str) (K : KA) : Rs :=
  BinOp.rec (motive := fun _ => Str → Str → KA → Rs) s_add b_bad b_bad b_bad b_bad b_bad b_bad b_bad b_bad b_bad b_bad s_eql s_neq s_lss s_leq s_gtr s_geq op x y K
/-- Equal, or not. -/
noncomputable def eqX (op : BinOp) (b : Bool) (K : KA) : Rs :=
  BinOp.rec (motive := fun _ => Bool → KA → Rs) (fun _ _ => .bad 18) (fun _ _ => .bad 18) (fun _ _ => .bad 18) (fun _ _ => .bad 18) (fun _ _ => .bad 18) (fun _ _ => .bad 18) (fun _ _ => .bad 18) (fun _ _ => .bad 18) (fun _ _ => .bad 18) (fun _ _ => .bad 18) (fun _ _ => .bad 18)
    kb (fun b K => kb (notB b) K) (fun _ _ => .bad 18) (fun _ _ => .bad 18) (fun _ _ => .bad 18) (fun _ _ => .bad 18) op b K
end Go.La
/- Layer A: regions over what operations come to, and with one new block whose name is kept for it ('pocket'). -/
namespace Go.La
open Go Go.RowKit

variable {P : Program} {ty : TT}

/-- What an operation that makes or writes gives. -/
def HGives (P : Program) (o : Oper) (e : Operand → AV) (h : AH) (K : AV → AH → Prop) : Prop :=
  (∀ c, o.op ≠ .defer c) ∧ ∀ (m : Mp) (w : World) (ρ : Operand → Value), Sim m h w → (∀ x ∈ o.op.operands, VRel m (e x) (ρ x)) → NextOk P (Post m h w K) ((execOp ρ o).run P w)
theorem LGives.mono {o : Oper} {e : Operand → AV} {h : AH} {K K' : AV → Re → Prop} (hg : LGives P o e h K) (hk : ∀ v re, K v re → K' v re) : LGives P o e h K' :=
  let ⟨v, re, a, b, c⟩ := hg; ⟨v, re, hk _ _ a, b, c⟩
theorem HGives.mono {o : Oper} {e : Operand → AV} {h : AH} {K K' : AV → AH → Prop} (hg : HGives P o e h K) (hk : ∀ v h', K v h' → K' v h') : HGives P o e h K' :=
  ⟨hg.1, fun m w ρ s hx => (hg.2 m w ρ s hx).mono fun _ _ ⟨m', h', u, a, b, c, d⟩ => ⟨m', h', u, a, b, c, hk _ _ d⟩⟩

/-- In the order of the text: each operation gives something; a light one may be taken as it is. -/
def opsS (P : Program) (all : List Oper) : List Oper → List AV → (List AV → AH → Prop) → AH → Prop
  | [], t, K, h => K t h
  | o :: r, t, K, h =>
    guardW all o t
      (fun t => HGives P o (ev t) h fun v h' => opsS P all r (putA t o.dst v) K h')
      (fun t => opsS P all r (putA t o.dst (.tuple [])) K h)
theorem light_heavy {o : Oper} {e : Operand → AV} {h : AH} {K : AV → AH → Prop} (hd : ∀ c, o.op ≠ .defer c) (hg : LGives P o e h fun v _ => K v h) : HGives P o e h K := by
  obtain ⟨v, re, hk, hre, hl⟩ := hg
  refine ⟨hd, fun m w ρ s hx => ?_⟩
  obtain ⟨v', hr, hv⟩ := hl h hre m w ρ s hx
  rw [hr]
  exact ⟨m, h, v, s, Steps.refl _ _ _, hv, hk⟩
theorem opsS_ok {F : Fence} (hF : F = Fence.wide ∨ ∃ l, F = Fence.wide.inRound l) {n : Nat} {ops : Array Oper} {Q : Exit → Act → World → Prop} (K : List AV → AH → Prop) :
    ∀ (r : List Oper) (i : Nat), ops.toList.drop i = r → ∀ (m : Mp) (h : AH) (w : World) (t : List AV) (a : Act), Sim m h w → VsRel m t a.tmps.toList → opsS P ops.toList r t K h →
      (∀ m' h' w' t' (a' : Act), Sim m' h' w' → Steps m h w m' h' w' → VsRel m' t' a'.tmps.toList → a'.defers = a.defers → K t' h' → Q .normal a' w') →
      wpOpsIn F n P ops Q ((List.range ops.size).drop i) a w
  | [], i, hi, m, h, w, t, a, s, ht, hk, hQ => by
    have : ops.size ≤ i := by simpa using hi
    rw [List.drop_eq_nil_of_le (by simpa using this)]
    exact hQ m h w t a s (Steps.refl _ _ _) ht rfl hk
  | o :: r, i, hi, m, h, w, t, a, s, ht, hk, hQ => by
    have hlt : i < ops.size := by
      apply Nat.lt_of_not_le; intro hle
      rw [List.drop_eq_nil_of_le (by simpa using hle)] at hi; cases hi
    have ho : ops[i]? = some o := by
      have := congrArg (·[0]?) hi
      simpa using this
    have hr : ops.toList.drop (i + 1) = r := by rw [← List.drop_drop, hi]; rfl
    have hrange : (List.range ops.size).drop i = i :: (List.range ops.size).drop (i + 1) := by
      rw [List.drop_eq_getElem_cons (by simpa using hlt)]; simp
    rw [hrange]
    simp only [wpOpsIn, ho]
    have hall : ops.toList.toArray = ops := by simp
    rcases guardW_iff hk with ⟨hg, hk⟩ | ⟨hg, hk⟩
    · have hw := hg.wanted ht
      rw [hall] at hw
      rw [if_pos hw]
      refine op_run hF hk.1 (hk.2 m w a.eval s (fun x _ => ev_rel ht x)) ?_
      rintro v' w' ⟨m', h', v, s', st, hv, hk'⟩
      refine opsS_ok hF K r (i + 1) hr m' h' w' _ _ s' (putA_rel (VsRel.mono st.map ht) o.dst hv) hk' ?_
      exact fun m2 h2 w2 t2 a2 s2 st2 ht2 hd2 hk2 => hQ m2 h2 w2 t2 a2 s2 (st.trans st2) ht2 (hd2.trans (put_defers _ _ _)) hk2
    · have hw := hg.wanted ht
      rw [hall] at hw
      rw [if_neg (by simp [hw])]
      refine ⟨fun f _ => by rcases hF with rfl | ⟨l, rfl⟩ <;> trivial, ?_⟩
      exact opsS_ok hF K r (i + 1) hr m h w _ _ s (putA_rel ht o.dst (.tuple [] #[] .nil)) hk
        fun m2 h2 w2 t2 a2 s2 st2 ht2 hd2 hk2 => hQ m2 h2 w2 t2 a2 s2 st2 ht2 (hd2.trans (put_defers _ _ _)) hk2

/-! ### Regions whose operations may come in any order that their edges allow -/
/-- An operation whose new block has its name from the beginning on: its place, the name, the type, what lies in it. -/
structure Pk where
  p : Nat
  b : Nat
  t : TypeId
  ks : List K1
def Pk.obj (x : Pk) : AObj := .cells false 0 ⟨x.t, true, true⟩ (x.ks.map K1.zero)
def matP (pk : Option Pk) (mask : Nat) (h : AH) : AH := match pk with | some x => bif mask.testBit x.p then h.set x.b (some x.obj) else h | none => h
def restP (pk : Option Pk) (mask : Nat) : Option Pk := match pk with | some x => bif mask.testBit x.p then none else some x | none => none
def drawS (P : Program) (ty : TT) (ops : List Oper) (masks : List Nat) : List Nat → List AV → List (Nat × (AH → Prop)) → Option Pk → (List AV → AH → Prop) → AH → Prop
  | [], t, _, pk, K, h => pk.isNone = true ∧ K t h
  | i :: r, t, reads, pk, K, h =>
    match ops[i]? with
    | none => False
    | some o =>
      guardW ops o t
        (fun t => bif isLight ty o.op then LGives P o (ev t) h fun v re => drawS P ty ops masks r (putA t o.dst v) (addRead i re reads) pk K h
          else HGives P o (ev t) (matP pk (masks.getD i 0) h) fun v h' => reloads reads (masks.getD i 0) h' (drawS P ty ops masks r (putA t o.dst v) reads (restP pk (masks.getD i 0)) K h'))
        (fun t => drawS P ty ops masks r (putA t o.dst (.tuple [])) reads pk K h)
def pairS (ty : TT) (ops : List Oper) (masks : List Nat) (pk : Option Nat) (i j : Nat) : Bool :=
  match ops[i]?, ops[j]? with
  | some a, some b =>
    !(i == j) && !((masks.getD i 0).testBit j) && ((a.apart ops.toArray b && (isLight ty a.op || (match pk with | some p => Nat.beq p i | none => false))) || (masks.getD j 0).testBit i)
  | _, _ => false
def pairsS (ty : TT) (ops : List Oper) (masks : List Nat) (pk : Option Nat) : List Nat → Bool
  | [] => true
  | i :: r => r.all (pairS ty ops masks pk i) && pairsS ty ops masks pk r
theorem pairsS_split {pk : Option Nat} : ∀ {L : List Nat} {ops : List Oper} {masks : List Nat}, pairsS ty ops masks pk L = true → ∀ a i b, L = a ++ i :: b → ∀ j ∈ b, pairS ty ops masks pk i j = true
  | [], _, _, _, a, i, b, h, _, _ => by cases a <;> cases h
  | x :: r, ops, masks, h, a, i, b, e, j, hj => by
    simp only [pairsS, Bool.and_eq_true] at h
    cases a with
    | nil => cases e; exact List.all_eq_true.1 h.1 j hj
    | cons y a => cases e; exact pairsS_split h.2 a i b rfl j hj

/-- i comes ahead of j in the order: either they are apart, or i must come ahead of j. -/
structure AheadS (ty : TT) (ops : List Oper) (pk : Option Nat) (i j : Nat) : Prop where
  ne : i ≠ j
  no : ((masksOf ops).getD i 0).testBit j = false
  or : ((masksOf ops).getD j 0).testBit i = true ∨ ∃ a b, ops[i]? = some a ∧ ops[j]? = some b ∧ a.apart ops.toArray b = true ∧ (isLight ty a.op = true ∨ pk = some i)
theorem aheadS_of {ops : List Oper} {pk : Option Nat} {i j : Nat} (h : pairS ty ops (masksOf ops) pk i j = true) : AheadS ty ops pk i j := by
  unfold pairS at h
  split at h
  · rename_i a b ha hb
    simp only [Bool.and_eq_true, Bool.or_eq_true, Bool.not_eq_true', beq_eq_false_iff_ne] at h
    refine ⟨h.1.1, h.1.2, ?_⟩
    rcases h.2 with h2 | h2
    · refine .inr ⟨a, b, ha, hb, h2.1, h2.2.imp_right fun h3 => ?_⟩
      cases pk with
      | none => cases h3
      | some p => exact congrArg some (Nat.eq_of_beq_eq_true h3)
    · exact .inl h2
  · cases h

/-- The value of an operation that has been looked at ahead. -/
def PendS (P : Program) (ty : TT) (ops : List Oper) (t0 : List AV) (h : AH) (reads : List (Nat × (AH → Prop))) (i : Nat) (v : AV) (before : List (Nat × AV)) : Prop :=
  ∃ o, ops[i]? = some o ∧
    ((GuardIs ops o (foldS ops (fun _ => true) t0 before) true ∧ isLight ty o.op = true ∧
        ∃ re : Re, (∀ h' : AH, re.at h' → LOk P o (ev (foldS ops (fun _ => true) t0 before)) h' v) ∧ re.at h ∧ (∀ f, re = some f → (i, f) ∈ reads)) ∨
     (GuardIs ops o (foldS ops (fun _ => true) t0 before) false ∧ v = .tuple []))

def HeadS (P : Program) (ty : TT) (ops : List Oper) (K : List AV → AH → Prop) (t : List AV) (reads : List (Nat × (AH → Prop))) (pk : Option Pk) (h : AH) : List Nat → Prop
  | [] => pk.isNone = true ∧ K t h
  | i :: r => ∃ o, ops[i]? = some o ∧ GuardIs ops o t true ∧ isLight ty o.op = false ∧
      HGives P o (ev t) (matP pk ((masksOf ops).getD i 0) h) fun v h' => reloads reads ((masksOf ops).getD i 0) h' (drawS P ty ops (masksOf ops) r (putA t o.dst v) reads (restP pk ((masksOf ops).getD i 0)) K h')

theorem advanceS {ops : List Oper} {t0 : List AV} {K : List AV → AH → Prop} {h : AH} {pk : Option Pk} : ∀ (post : List Nat) (pv : List (Nat × AV)) (reads : List (Nat × (AH → Prop))),
    drawS P ty ops (masksOf ops) post (foldS ops (fun _ => true) t0 pv) reads pk K h →
    ∃ pv2 post2 reads2, post = pv2.map (·.1) ++ post2 ∧ (∀ x ∈ reads, x ∈ reads2) ∧ (∀ a i v b, pv2 = a ++ (i, v) :: b → PendS P ty ops t0 h reads2 i v (pv ++ a)) ∧
      HeadS P ty ops K (foldS ops (fun _ => true) t0 (pv ++ pv2)) reads2 pk h post2
  | [], pv, reads, hk => ⟨[], [], reads, rfl, fun _ hx => hx, fun a i v b e => by (cases a <;> cases e), by simpa [HeadS, drawS] using hk⟩
  | i :: r, pv, reads, hk => by
    simp only [drawS] at hk
    cases ho : ops[i]? with
    | none => simp [ho] at hk
    | some o =>
      simp only [ho] at hk
      have hdst : dstOf ops i = o.dst := by simp [dstOf, ho]
      have hput : ∀ v, foldS ops (fun _ => true) t0 (pv ++ [(i, v)]) = putA (foldS ops (fun _ => true) t0 pv) o.dst v := fun v => by
        rw [foldS_append]; simp [foldS, hdst]
      rcases guardW_iff hk with ⟨hg, hk⟩ | ⟨hg, hk⟩
      · cases hlight : isLight ty o.op with
        | false =>
          simp only [hlight, cond_false] at hk
          exact ⟨[], i :: r, reads, rfl, fun _ hx => hx, fun a i v b e => by (cases a <;> cases e), o, ho, by simpa using hg, hlight, by simpa using hk⟩
        | true =>
          simp only [hlight, cond_true] at hk
          obtain ⟨v, re, hk, hre, hL⟩ := hk
          rw [← hput] at hk
          obtain ⟨pv2, post2, reads2, e1, e2, e3, e4⟩ := advanceS r (pv ++ [(i, v)]) (addRead i re reads) hk
          have hsub : ∀ x ∈ reads, x ∈ reads2 := fun x hx => e2 x (by unfold addRead; split; exact hx; exact List.mem_cons_of_mem _ hx)
          refine ⟨(i, v) :: pv2, post2, reads2, by simp [e1], hsub, ?_, by simpa using e4⟩
          intro a j u b e
          cases a with
          | nil =>
            simp only [List.nil_append, List.cons.injEq, Prod.mk.injEq] at e
            obtain ⟨⟨rfl, rfl⟩, rfl⟩ := e
            refine ⟨o, ho, .inl ⟨by simpa using hg, hlight, re, by simpa using hL, hre, fun f hf => e2 _ ?_⟩⟩
            subst hf; simp [addRead]
          | cons y a =>
            simp only [List.cons_append, List.cons.injEq] at e
            obtain ⟨rfl, rfl⟩ := e
            have := e3 a j u b rfl
            simpa using this
      · rw [← hput] at hk
        obtain ⟨pv2, post2, reads2, e1, e2, e3, e4⟩ := advanceS r (pv ++ [(i, .tuple [])]) reads hk
        refine ⟨(i, .tuple []) :: pv2, post2, reads2, by simp [e1], e2, ?_, by simpa using e4⟩
        intro a j u b e
        cases a with
        | nil =>
          simp only [List.nil_append, List.cons.injEq, Prod.mk.injEq] at e
          obtain ⟨⟨rfl, rfl⟩, rfl⟩ := e
          exact ⟨o, ho, .inr ⟨by simpa using hg, rfl⟩⟩
        | cons y a =>
          simp only [List.cons_append, List.cons.injEq] at e
          obtain ⟨rfl, rfl⟩ := e
          have := e3 a j u b rfl
          simpa using this


/-- The block that was laid for a name that was kept. -/
def LaidAt (m : Mp) (h : AH) (w : World) (lo : Nat) (x : Pk) : Prop :=
  ∃ (t : Slot) (arr : Array Value), m x.b = some t ∧ t.co = 0 ∧ t.room = arr.size ∧ lo ≤ t.cb ∧ t.cb < w.heap.size ∧ w.heap[t.cb]? = some (.cells arr x.t (0, 0)) ∧ (∀ m' : Mp, VsRel m' (x.ks.map K1.zero) arr.toList) ∧
    ∀ y o u, h.get y = some o → m y = some u → u.cb ≠ t.cb
theorem LaidAt.cells {m : Mp} {h : AH} {w : World} {lo : Nat} {x : Pk} (hl : LaidAt m h w lo x) : ∃ t, m x.b = some t ∧ lo ≤ t.cb ∧ t.cb < w.heap.size ∧ CellsOk m w t false 0 ⟨x.t, true, true⟩ (x.ks.map K1.zero) ∧ ∀ y o u, h.get y = some o → m y = some u → u.cb ≠ t.cb := by
  obtain ⟨t, arr, h1, h2, h3, h4, h5, h6, h7, h8⟩ := hl
  have hlen := (h7 m).length
  refine ⟨t, h1, h4, h5, ⟨arr, 0, 0, h6, by omega, by rw [hlen, h3]; simp, fun i v hv => ⟨zeros_one x.ks v (List.mem_of_getElem? hv), ?_⟩, fun _ => ⟨Nat.zero_le _, fun i _ _ => by omega⟩, (fun _ => ⟨h2, by rw [hlen]; simp⟩), fun _ => .inl rfl⟩, h8⟩
  obtain ⟨v', g1, g2⟩ := (h7 m).get hv
  exact ⟨v', by rw [h2, Nat.zero_add]; simpa using g1, g2⟩
theorem LaidAt.steps {m m' : Mp} {h h' : AH} {w w' : World} {lo : Nat} {x : Pk} (hl : LaidAt m h w lo x) (st : Steps m h w m' h' w') : LaidAt m' h' w' lo x := by
  obtain ⟨t, arr, h1, h2, h3, h4, h5, h6, h7, h8⟩ := hl
  refine ⟨t, arr, st.map _ _ h1, h2, h3, h4, Nat.lt_of_lt_of_le h5 st.size, ?_, h7, fun y o u hy hu => ?_⟩
  · rw [st.keep t.cb h5 (fun y o u hy _ hu => h8 y o u hy hu)]; exact h6
  · rcases st.kin y o u hy hu with hge | ⟨y0, o0, u0, k0, k1, k2⟩
    · omega
    · rw [← k2]; exact h8 y0 o0 u0 k0 k1
theorem Sim.ins {m : Mp} {h : AH} {w : World} (s : Sim m h w) {b : Nat} {t : Slot} (hb : b < h.next) (hg : h.get b = none) (hm : m b = none) : Sim (m.ins b t) h w := by
  have hle : m.le (m.ins b t) := Mp.le_ins hm
  have ne : ∀ x o, h.get x = some o → x ≠ b := fun x o hx e => by rw [e, hg] at hx; cases hx
  have old : ∀ x o u, h.get x = some o → (m.ins b t) x = some u → m x = some u := fun x o u hx hu => by simpa [Mp.ins, ne x o hx] using hu
  refine ⟨fun x hx => ?_, fun x o hx => ?_, fun x ro fz el c u hx hu => ?_, fun x y fz el c ro' fz' el' c' u v hx hy hne hu hv => ?_, fun x o u hx hn hu => ?_, fun x y o o' u v hx hy hne hn hu hv => ?_⟩
  · have := s.top x hx
    exact ⟨this.1, by simp [Mp.ins, show x ≠ b by omega, this.2]⟩
  · obtain ⟨u, h1, h2⟩ := s.lies x o hx; exact ⟨u, hle _ _ h1, h2⟩
  · obtain ⟨arr, lo, hi, h1, h2, h3, h4, h5⟩ := s.cells x ro fz el c u hx (old x _ u hx hu)
    exact ⟨arr, lo, hi, h1, h2, h3, fun i v hv => let ⟨a, v', b, c⟩ := h4 i v hv; ⟨a, v', b, c.mono hle⟩, h5⟩
  · exact s.disj x y fz el c ro' fz' el' c' u v hx hy hne (old x _ u hx hu) (old y _ v hy hv)
  · obtain ⟨h1, ob, h2, h3⟩ := s.objs x o u hx hn (old x _ u hx hu); exact ⟨h1, ob, h2, h3.mono hle⟩
  · exact s.inj x y o o' u v hx hy hne hn (old x _ u hx hu) (old y _ v hy hv)
theorem Steps.lay {m0 m : Mp} {h0 h : AH} {w0 w : World} (st : Steps m0 h0 w0 m h w) {b : Nat} {t : Slot} {ob : Obj} (hb : h0.next ≤ b) (hg : h.get b = none) (hm : m b = none) : Steps m0 h0 w0 (m.ins b t) h (w.alloc ob) := by
  have ne : ∀ x o, h.get x = some o → x ≠ b := fun x o hx e => by rw [e, hg] at hx; cases hx
  have old : ∀ x o u, h.get x = some o → (m.ins b t) x = some u → m x = some u := fun x o u hx hu => by simpa [Mp.ins, ne x o hx] using hu
  have hsz : (w.alloc ob).heap.size = w.heap.size + 1 := by show (w.heap.push ob).size = _; simp
  refine ⟨st.next, st.map.trans (Mp.le_ins hm), Nat.le_trans st.size (by omega), st.os, st.tape, st.out, fun k hk hn => (Below.heap_alloc _ _ _ (Nat.lt_of_lt_of_le hk st.size)).trans (st.keep k hk hn), fun x o u hx hf hu => st.live x o u hx hf (old x o u hx hu), fun x o u hx hu => st.kin x o u hx (old x o u hx hu), st.gone, fun x hx hn => ?_⟩
  simpa [Mp.ins, show x ≠ b by omega] using st.anon x hx hn
theorem alloc_runs (T : TabOk P ty) {t : TypeId} {agg : Bool} {ks : List K1} {d : TD} (hf : ty.find t = some (.plain agg ks d)) : ∃ arr : Array Value, (∀ m : Mp, VsRel m (ks.map K1.zero) arr.toList) ∧
    ∀ (w : World) (ρ : Operand → Value) (o : Oper), o.op = .alloc t → (execOp ρ o).run P w = .ok (.value (.pointer (some ⟨w.heap.size, 0, none⟩))) (w.alloc (.cells arr t (0, 0))) := by
  obtain ⟨z, hz1, hz2⟩ := (T.plain hf).zeroRun
  refine ⟨z.cells, hz2, fun w ρ o ho => ?_⟩
  have : (Instr.alloc t true (.tuple #[])).run P w = .ok (.pointer (some ⟨w.heap.size, 0, none⟩)) (w.alloc (.cells z.cells t)) := by
    simp only [Instr.alloc, Sem.run_bind, hz1, Result.andThen_ok, newVar, run_newRow]; rfl
  obtain ⟨dst, op, type, pos, after, guard⟩ := o
  simp only at ho
  subst ho
  simp only [execOp, run_v this]

section
variable {ops : Array Oper} {L : List Nat}

/-- What an operation looks at is as it was when it was looked at ahead. -/
theorem same_aheadS {pk : Option Nat} {S : Nat → Bool} (hS : Closed ops.toList S) {i : Nat} {o : Oper} (ho : ops.toList[i]? = some o) (hr : ∀ e ∈ o.after.toList, Region.binds .any e = true → S e.on = true) (hi : S i = false)
    {t0 : List AV} {A B : List (Nat × AV)} (hA : ∀ k u, (k, u) ∈ A → AheadS ty ops.toList pk k i) (hB : ∀ k u, (k, u) ∈ B → k = i ∨ AheadS ty ops.toList pk i k) :
    SameAt o ops.toList (foldS ops.toList (fun _ => true) t0 A) (foldS ops.toList S t0 (A ++ B)) := by
  intro x hx
  have hnone : ∀ t, (foldS ops.toList S t B)[x]? = t[x]? := fun t => foldS_none ops.toList S x B t ?_
  · rw [foldS_append, hnone]
    refine (foldS_get _ _ _ _ _ _ _ rfl rfl fun k u hk hd => ?_).symm
    rcases (hA k u hk).or with h | ⟨a, b, ha, hb, hap, _⟩
    · exact closed_mask hS i o ho hr k h
    · obtain ⟨h1, _, _⟩ := Oper.apart_spec hap
      rw [ho] at hb; cases hb
      have : a.dst = some x := by simpa [dstOf, ha] using hd
      exact (h1 x this hx).elim
  · intro k u hk hd
    rcases hB k u hk with rfl | h
    · exact hi
    · rcases h.or with h | ⟨a, b, ha, hb, hap, _⟩
      · cases hs : S k with
        | false => rfl
        | true =>
          obtain ⟨c, hc⟩ := dst_some hd
          rw [closed_in hS hc hs h] at hi; exact hi
      · obtain ⟨_, _, h3⟩ := Oper.apart_spec hap
        rw [ho] at ha; cases ha
        have : b.dst = some x := by simpa [dstOf, hb] using hd
        exact (h3 x this hx).elim

/-- Put in the midst is put at the end. -/
theorem put_midstS {pk : Option Nat} {S S' : Nat → Bool} (hS : Closed ops.toList S) {i : Nat} {o : Oper} (ho : ops.toList[i]? = some o) (hi : S i = false) (hS' : ∀ k, S' k = (S k || k == i))
    {t0 : List AV} {A B : List (Nat × AV)} {v : AV} (hB : ∀ k u, (k, u) ∈ B → AheadS ty ops.toList pk i k) :
    foldS ops.toList S' t0 (A ++ (i, v) :: B) = putA (foldS ops.toList S t0 (A ++ (i, v) :: B)) o.dst v := by
  have hd : dstOf ops.toList i = o.dst := by simp only [dstOf, ho, Option.bind_some]
  apply List.ext_getElem?
  intro x
  by_cases hx : o.dst = some x
  · rw [hx, putA_get_same, foldS_append, foldS, hS' i]
    simp only [beq_self_eq_true, Bool.or_true, cond_true, hd, hx]
    have hnone : ∀ t, (foldS ops.toList S' t B)[x]? = t[x]? := fun t => foldS_none ops.toList S' x B t ?_
    · rw [hnone, putA_get_same, foldS_length, foldS_length]
    · intro k u hk hdk
      have hah := hB k u hk
      rw [hS' k]
      have hne : (k == i) = false := by simpa using fun e => hah.ne e.symm
      rw [hne, Bool.or_false]
      rcases hah.or with h | ⟨a, b, ha, hb, hap, _⟩
      · cases hs : S k with
        | false => rfl
        | true =>
          obtain ⟨c, hc⟩ := dst_some hdk
          rw [closed_in hS hc hs h] at hi; exact hi
      · obtain ⟨_, h2, _⟩ := Oper.apart_spec hap
        rw [ho] at ha; cases ha
        have : b.dst = some x := by simpa [dstOf, hb] using hdk
        exact (h2 x hx this).elim
  · rw [putA_get _ _ _ _ hx]
    refine foldS_get _ _ _ _ _ _ _ rfl rfl fun k u hk hdk => ?_
    rw [hS' k]
    have : (k == i) = false := by
      refine beq_eq_false_iff_ne.2 fun e => hx ?_
      rw [← hd, ← e]; exact hdk
    rw [this, Bool.or_false]

theorem anyS_ok (T : TabOk P ty) {F : Fence} (hF : F = Fence.wide ∨ ∃ l, F = Fence.wide.inRound l) {n : Nat} {Q : Exit → Act → World → Prop} {K : List AV → AH → Prop} {t0 : List AV} {da : List Deferred} {pk0 : Option Pk} {m0 : Mp} {h0 : AH} {w0 : World}
    (hback : edgesBack ops.toList 0 = true) (hpairs : pairsS ty ops.toList (masksOf ops.toList) (pk0.map (·.p)) L = true) (hall : ∀ i, i < ops.size → i ∈ L) (hlt : ∀ i ∈ L, i < ops.size)
    (hpk : ∀ x, pk0 = some x → h0.next ≤ x.b ∧ ∃ o agg d, ops.toList[x.p]? = some o ∧ o.guard = none ∧ o.op = .alloc x.t ∧ ty.find x.t = some (.plain agg x.ks d))
    (hQ : ∀ m' h' w' t' (a' : Act), Sim m' h' w' → Steps m0 h0 w0 m' h' w' → VsRel m' t' a'.tmps.toList → a'.defers = da → K t' h' → Q .normal a' w') :
    ∀ (fuel : Nat) (listed : Array Bool) (a : Act) (w : World) (m : Mp) (h : AH) (pv : List (Nat × AV)) (post : List Nat) (reads : List (Nat × (AH → Prop))) (pk : Option Pk),
      Steps m0 h0 w0 m h w → L = pv.map (·.1) ++ post → Sim m h w → a.defers = da → VsRel m (foldS ops.toList (lp listed) t0 pv) a.tmps.toList → listed.size = ops.size →
      (∀ i, lp listed i = true → i ∈ pv.map (·.1)) → Closed ops.toList (lp listed) →
      (∀ A i v B, pv = A ++ (i, v) :: B → lp listed i = false → PendS P ty ops.toList t0 h reads i v A ∨ ∃ x, pk0 = some x ∧ x.p = i ∧ v = .ptr (some ⟨x.b, 0⟩)) →
      HeadS P ty ops.toList K (foldS ops.toList (fun _ => true) t0 pv) reads pk h post →
      (∀ x, pk = some x → pk0 = some x ∧ x.b < h.next ∧ h.get x.b = none ∧ (lp listed x.p = false → m x.b = none) ∧ (lp listed x.p = true → LaidAt m h w w0.heap.size x)) → (∀ x, pk0 = some x → pk = none → lp listed x.p = true) → (∀ x, pk0 = some x → x.p ∈ pv.map (·.1)) →
      (List.range ops.size).countP (fun k => !lp listed k) ≤ fuel → wpAnyIn F n P .any ops Q fuel listed a w := by
  have nodup : ∀ A i B, L = A ++ i :: B → i ∉ A ∧ i ∉ B := fun A i B e => by
    refine ⟨fun hi => ?_, fun hi => (aheadS_of (pairsS_split hpairs A i B e i hi)).ne rfl⟩
    obtain ⟨A1, A2, rfl⟩ := List.append_of_mem hi
    exact (aheadS_of (pairsS_split hpairs A1 i (A2 ++ i :: B) (by rw [e]; simp) i (by simp))).ne rfl
  have done : ∀ (listed : Array Bool) (a : Act) (w : World) (m : Mp) (h : AH) (pv : List (Nat × AV)) (post : List Nat) (reads : List (Nat × (AH → Prop))) (pk : Option Pk),
      Steps m0 h0 w0 m h w → L = pv.map (·.1) ++ post → Sim m h w → a.defers = da → VsRel m (foldS ops.toList (lp listed) t0 pv) a.tmps.toList →
      (∀ i, lp listed i = true → i ∈ pv.map (·.1)) →
      HeadS P ty ops.toList K (foldS ops.toList (fun _ => true) t0 pv) reads pk h post → (∀ i, i < ops.size → lp listed i = true) → Q .normal a w := by
    intro listed a w m h pv post reads pk st0 hL s hd ht hin hhead hdone
    cases post with
    | cons j r =>
      exact ((nodup _ _ _ hL).1 (hin j (hdone j (hlt j (by rw [hL]; simp))))).elim
    | nil =>
      refine hQ m h w _ a s st0 (foldS_congr ops.toList (lp listed) (fun _ => true) pv t0 (fun k u hk => hdone k (hlt k ?_)) ▸ ht) hd hhead.2
      rw [hL]; simp only [List.append_nil]; exact List.mem_map.2 ⟨_, hk, rfl⟩
  have ready0 : ∀ (listed : Array Bool), listed.size = ops.size → Region.ready .any ops listed = [] → ∀ i, i < ops.size → lp listed i = true := by
    intro listed hsz hr i
    induction i using Nat.strongRecOn with
    | _ i ihi =>
      intro hi
      cases hlp : lp listed i with
      | true => rfl
      | false =>
        have : i ∈ Region.ready .any ops listed := by
          unfold Region.ready
          refine List.mem_filter.2 ⟨List.mem_range.2 hi, ?_⟩
          have e1 : listed.getD i true = false := by
            unfold lp at hlp
            simp only [Array.getD_eq_getD_getElem?, Array.getElem?_eq_getElem (hsz ▸ hi : i < listed.size), Option.getD_some] at hlp ⊢; exact hlp
          have e2 : ops[i]? = some ops[i] := Array.getElem?_eq_getElem hi
          rw [e1, e2]
          simp only [Bool.not_false, Bool.true_and, Option.map_some, Option.getD_some]
          rw [← Array.all_toList]
          refine List.all_eq_true.2 fun e he => ?_
          cases hb : Region.binds .any e with
          | false => rfl
          | true =>
            have := edgesBack_get hback i ops[i] (by simpa using e2) e he hb
            have := ihi e.on (by omega) (by omega)
            unfold lp at this; rw [this]; rfl
        rw [hr] at this; cases this
  intro fuel
  induction fuel with
  | zero =>
    intro listed a w m h pv post reads pk st0 hL s hd ht hsz hin hcl hpend hhead hpi hpn hpin hfuel
    have hdone : ∀ i, i < ops.size → lp listed i = true := by
      intro i hi
      have : (List.range ops.size).countP (fun k => !lp listed k) = 0 := Nat.le_zero.1 hfuel
      have := List.countP_eq_zero.1 this i (List.mem_range.2 hi)
      simpa using this
    refine ⟨?_, done listed a w m h pv post reads pk st0 hL s hd ht hin hhead hdone⟩
    unfold Region.ready
    refine List.filter_eq_nil_iff.2 fun i hi => ?_
    have := hdone i (List.mem_range.1 hi)
    unfold lp at this
    have e1 : listed.getD i true = true := by
      simp only [Array.getD_eq_getD_getElem?, Array.getElem?_eq_getElem (hsz ▸ List.mem_range.1 hi : i < listed.size), Option.getD_some] at this ⊢; exact this
    rw [e1]; simp
  | succ fuel ih =>
    intro listed a w m h pv post reads pk st0 hL s hd ht hsz hin hcl hpend hhead hpi hpn hpin hfuel
    refine ⟨fun hr => done listed a w m h pv post reads pk st0 hL s hd ht hin hhead (ready0 listed hsz hr), fun i hi => ?_⟩
    unfold Region.ready at hi
    obtain ⟨hi1, hi2⟩ := List.mem_filter.1 hi
    have hilt : i < ops.size := List.mem_range.1 hi1
    have ho : ops[i]? = some ops[i] := Array.getElem?_eq_getElem hilt
    generalize ops[i] = o at ho
    have hol : ops.toList[i]? = some o := by simpa using ho
    rw [ho] at hi2
    simp only [Option.map_some, Option.getD_some, Bool.and_eq_true, Bool.not_eq_true'] at hi2
    have hilp : lp listed i = false := by
      have := hi2.1
      unfold lp
      simp only [Array.getD_eq_getD_getElem?, Array.getElem?_eq_getElem (hsz ▸ hilt : i < listed.size), Option.getD_some] at this ⊢; exact this
    have hedge : ∀ e ∈ o.after.toList, Region.binds .any e = true → lp listed e.on = true := by
      have h2 := hi2.2
      rw [← Array.all_toList] at h2
      intro e he hb
      have := List.all_eq_true.1 h2 e he
      rw [hb] at this
      simpa [lp] using this
    have hset : ∀ k, lp (listed.setIfInBounds i true) k = (lp listed k || k == i) := lp_set (hsz ▸ hilt)
    have hcl' : Closed ops.toList (lp (listed.setIfInBounds i true)) := by
      intro k c hc hk e he hb
      rw [hset] at hk ⊢
      cases hks : lp listed k with
      | true => rw [hcl k c hc hks e he hb]; rfl
      | false =>
        rw [hks, Bool.false_or] at hk
        have : k = i := by simpa using hk
        subst this
        rw [hol] at hc; cases hc
        rw [hedge e he hb]; rfl
    have hfuel' : (List.range ops.size).countP (fun k => !lp (listed.setIfInBounds i true) k) ≤ fuel := by
      have h1 := countP_lt (lp listed) i (List.range ops.size) (List.mem_range.2 hilt) hilp
      have h2 : (List.range ops.size).countP (fun k => !lp (listed.setIfInBounds i true) k) = (List.range ops.size).countP (fun k => !(lp listed k || k == i)) := List.countP_congr fun k _ => by rw [hset]
      omega
    have hsz' : (listed.setIfInBounds i true).size = ops.size := by simpa using hsz
    have hLtoA : ops.toList.toArray = ops := by simp
    unfold wpOpIn
    rw [ho]
    simp only []
    by_cases hmem : i ∈ pv.map (·.1)
    · obtain ⟨x, hx, hxi⟩ := List.mem_map.1 hmem
      obtain ⟨i', v⟩ := x
      simp only at hxi; subst hxi
      obtain ⟨A, B, rfl⟩ := List.append_of_mem hx
      have hA : ∀ k u, (k, u) ∈ A → AheadS ty ops.toList (pk0.map (·.p)) k i' := by
        intro k u hk
        obtain ⟨A1, A2, rfl⟩ := List.append_of_mem hk
        exact aheadS_of (pairsS_split hpairs (A1.map (·.1)) k (A2.map (·.1) ++ i' :: B.map (·.1) ++ post) (by rw [hL]; simp) i' (by simp))
      have hB : ∀ k u, (k, u) ∈ B → AheadS ty ops.toList (pk0.map (·.p)) i' k := by
        intro k u hk
        exact aheadS_of (pairsS_split hpairs (A.map (·.1)) i' (B.map (·.1) ++ post) (by rw [hL]; simp) k (List.mem_append_left _ (List.mem_map.2 ⟨_, hk, rfl⟩)))
      have hsame := same_aheadS hcl hol hedge hilp (t0 := t0) hA (B := (i', v) :: B) (fun k u hk => by
        rcases List.mem_cons.1 hk with e | hk
        · cases e; exact .inl rfl
        · exact .inr (hB k u hk))
      have hnext : ∀ (v' : Value) (m1 : Mp) (w1 : World), m.le m1 → Steps m0 h0 w0 m1 h w1 → Sim m1 h w1 → VRel m1 v v' → (∀ x, pk = some x → pk0 = some x ∧ x.b < h.next ∧ h.get x.b = none ∧ (lp (listed.setIfInBounds i' true) x.p = false → m1 x.b = none) ∧ (lp (listed.setIfInBounds i' true) x.p = true → LaidAt m1 h w1 w0.heap.size x)) →
          wpAnyIn F n P .any ops Q fuel (listed.setIfInBounds i' true) (a.put o.dst v') w1 := by
        intro v' m1 w1 hle st1 s1 hv hpi1
        refine ih _ _ w1 m1 h (A ++ (i', v) :: B) post reads pk st1 hL s1 (by rw [put_defers]; exact hd) ?_ hsz' (fun k hk => ?_) hcl' (fun A' k u B' e hk => ?_) hhead hpi1 (fun x hx hn => ?_) hpin hfuel'
        · rw [put_midstS hcl hol hilp hset hB]
          exact putA_rel (VsRel.mono hle ht) o.dst hv
        · rw [hset] at hk
          cases hks : lp listed k with
          | true => exact hin k hks
          | false =>
            rw [hks, Bool.false_or] at hk
            have : k = i' := by simpa using hk
            subst this; exact hmem
        · refine hpend A' k u B' e ?_
          rw [hset] at hk
          exact (Bool.or_eq_false_iff.1 hk).1
        · rw [hset, hpn x hx hn]; rfl
      rcases hpend A i' v B rfl hilp with hp | ⟨x, hx0, rfl, rfl⟩
      rotate_left
      · obtain ⟨hxb, o2, agg, dd, ho2, hg2, hop2, hf2⟩ := hpk x hx0
        rw [hol] at ho2; cases ho2
        have hw : Region.wanted o (yielded ops a.tmps) = true := by simp [Region.wanted, hg2]
        rw [if_pos hw]
        cases hpkc : pk with
        | none => have := hpn x hx0 hpkc; rw [hilp] at this; cases this
        | some y =>
          obtain ⟨hy0, hyb, hyg, hya, -⟩ := hpi y hpkc
          rw [hx0] at hy0; cases hy0
          have hmb := hya hilp
          obtain ⟨arr, harr, hrun⟩ := alloc_runs T hf2
          let t : Slot := ⟨w.heap.size, 0, arr.size⟩
          have hsz2 : (w.alloc (.cells arr x.t (0, 0))).heap.size = w.heap.size + 1 := by show (w.heap.push _).size = _; simp
          have s1 : Sim (m.ins x.b t) h (w.alloc (.cells arr x.t (0, 0))) := (s.heap_of (by omega) (fun y o u hy hu => by obtain ⟨u2, k1, k2⟩ := s.lies y o hy; rw [hu] at k1; cases k1; exact Below.heap_alloc _ _ _ k2)).ins hyb hyg hmb
          refine op_run hF (post := fun u w' => u = .pointer (some ⟨w.heap.size, 0, none⟩) ∧ w' = w.alloc (.cells arr x.t (0, 0))) (fun c e => by rw [hop2] at e; cases e) (by rw [hrun w _ o hop2]; exact ⟨rfl, rfl⟩) ?_
          rintro u w' ⟨rfl, rfl⟩
          refine hnext _ _ _ (Mp.le_ins hmb) (st0.lay hxb hyg hmb) s1 (.ptr ⟨x.b, 0⟩ t (by simp [Mp.ins])) (fun z hz => ?_)
          rw [hpkc] at hz; cases hz
          refine ⟨hx0, hyb, hyg, fun e => ?_, fun _ => ⟨t, arr, by simp [Mp.ins], rfl, rfl, st0.size, by rw [hsz2]; exact Nat.lt_succ_self _, by show (w.heap.push _)[w.heap.size]? = _; simp, harr, fun y o u hy hu => ?_⟩⟩
          · rw [hset] at e; simp at e
          · have hne : y ≠ x.b := fun e => by rw [e, hyg] at hy; cases hy
            have hu' : m y = some u := by simpa [Mp.ins, hne] using hu
            obtain ⟨u2, k1, k2⟩ := s.lies y o hy
            rw [hu'] at k1; cases k1
            exact fun e => by have : u.cb = w.heap.size := e; omega
      obtain ⟨o', ho', hp⟩ := hp
      rw [hol] at ho'; cases ho'
      have hpi2 : ∀ x, pk = some x → pk0 = some x ∧ x.b < h.next ∧ h.get x.b = none ∧ (lp (listed.setIfInBounds i' true) x.p = false → m x.b = none) ∧ (lp (listed.setIfInBounds i' true) x.p = true → LaidAt m h w w0.heap.size x) := by
        intro x hx
        obtain ⟨q1, q2, q3, q4, q5⟩ := hpi x hx
        refine ⟨q1, q2, q3, fun e => q4 ?_, fun e => q5 ?_⟩
        · rw [hset] at e; exact (Bool.or_eq_false_iff.1 e).1
        · rw [hset] at e
          cases hlx : lp listed x.p with
          | true => rfl
          | false =>
            rw [hlx, Bool.false_or] at e
            have e : x.p = i' := by simpa using e
            obtain ⟨_, o2, agg, dd, ho2, hg2, hop2, hf2⟩ := hpk x q1
            rw [e, hol] at ho2; cases ho2
            rcases hp with ⟨_, hlight, _⟩ | ⟨hg, _⟩
            · rw [hop2] at hlight; cases hlight
            · unfold GuardIs at hg; rw [hg2] at hg; cases hg
      rcases hp with ⟨hg, hlight, re, hL1, hre, _⟩ | ⟨hg, rfl⟩
      · have hw := (hsame.guard hg).wanted ht
        rw [hLtoA] at hw
        rw [if_pos hw]
        obtain ⟨v', hrun, hv⟩ := hL1 h hre m w a.eval s (fun x hx => by rw [hsame.ev x hx]; exact ev_rel ht x)
        refine op_run hF (post := fun u w' => u = v' ∧ w' = w) (notDefer_of_light hlight) (by rw [hrun]; exact ⟨rfl, rfl⟩) ?_
        rintro u w' ⟨rfl, rfl⟩
        exact hnext _ m _ (Mp.le.refl m) st0 s hv hpi2
      · have hw := (hsame.guard hg).wanted ht
        rw [hLtoA] at hw
        rw [if_neg (by simp [hw])]
        exact ⟨fun f _ => by rcases hF with rfl | ⟨l, rfl⟩ <;> trivial, hnext _ m _ (Mp.le.refl m) st0 s (.tuple [] #[] .nil) hpi2⟩
    · have hiL := hall i hilt
      rw [hL] at hiL
      rcases List.mem_append.1 hiL with hc | hipost
      · exact (hmem hc).elim
      cases post with
      | nil => cases hipost
      | cons j r =>
        obtain ⟨o', ho', hg, hheavy, hk⟩ := hhead
        by_cases hij : i = j
        · subst hij
          rw [hol] at ho'; cases ho'
          have hA : ∀ k u, (k, u) ∈ pv → AheadS ty ops.toList (pk0.map (·.p)) k i := by
            intro k u hk
            obtain ⟨A1, A2, rfl⟩ := List.append_of_mem hk
            exact aheadS_of (pairsS_split hpairs (A1.map (·.1)) k (A2.map (·.1) ++ i :: r) (by rw [hL]; simp) i (by simp))
          have hsame := same_aheadS hcl hol hedge hilp (t0 := t0) hA (B := []) (fun k u hk => by cases hk)
          rw [List.append_nil] at hsame
          have hw := (hsame.guard hg).wanted ht
          rw [hLtoA] at hw
          rw [if_pos hw]
          have hmat : ∃ h1, matP pk ((masksOf ops.toList).getD i 0) h = h1 ∧ Sim m h1 w ∧ Steps m0 h0 w0 m h1 w ∧ (∀ x, restP pk ((masksOf ops.toList).getD i 0) = some x → pk = some x ∧ h1 = h ∧ ((masksOf ops.toList).getD i 0).testBit x.p = false) ∧
              (∀ x, pk0 = some x → restP pk ((masksOf ops.toList).getD i 0) = none → lp listed x.p = true) := by
            cases hpkc : pk with
            | none => exact ⟨h, rfl, s, st0, (fun x e => by cases e), fun x hx _ => hpn x hx hpkc⟩
            | some y =>
              obtain ⟨q1, q2, q3, q4, q5⟩ := hpi y hpkc
              cases hb : ((masksOf ops.toList).getD i 0).testBit y.p with
              | false => exact ⟨h, by simp only [matP, hb, cond_false], s, st0, (fun x e => by simp only [restP, hb, cond_false] at e; exact ⟨e, rfl, by cases e; exact hb⟩), fun x hx e => by simp only [restP, hb, cond_false] at e; cases e⟩
              | true =>
                have hlx : lp listed y.p = true := closed_mask hcl i o hol hedge y.p hb
                obtain ⟨t, e1, e2, e3, e4, e5⟩ := (q5 hlx).cells
                refine ⟨h.set y.b (some y.obj), by simp only [matP, hb, cond_true], s.revive q2 q3 e1 e3 e4 e5, st0.revive (hpk y q1).1 e1 e2, (fun x e => by simp only [restP, hb, cond_true] at e; cases e), fun x hx _ => ?_⟩
                rw [q1] at hx; cases hx; exact hlx
          obtain ⟨h1, hm1, s1, st1, hrest1, hrest2⟩ := hmat
          rw [hm1] at hk
          refine op_run hF hk.1 (hk.2 m w a.eval s1 (fun x hx => by rw [hsame.ev x hx]; exact ev_rel ht x)) ?_
          rintro v' w' ⟨m', h', v, s', st, hv, hk'⟩
          obtain ⟨hreads, hk'⟩ := reloads_iff hk'
          have hdst : dstOf ops.toList i = o.dst := by simp only [dstOf, hol, Option.bind_some]
          have hput : foldS ops.toList (fun _ => true) t0 (pv ++ [(i, v)]) = putA (foldS ops.toList (fun _ => true) t0 pv) o.dst v := by
            rw [foldS_append]; simp [foldS, hdst]
          rw [← hput] at hk'
          obtain ⟨pv2, post2, reads2, e1, e2, e3, e4⟩ := advanceS r (pv ++ [(i, v)]) reads hk'
          have hL2 : L = (pv ++ [(i, v)] ++ pv2).map (·.1) ++ post2 := by rw [hL, e1]; simp
          have hin2 : ∀ k u, (k, u) ∈ pv2 → lp listed k = false ∧ (k == i) = false := by
            intro k u hk2
            obtain ⟨A1, A2, rfl⟩ := List.append_of_mem hk2
            have hn := (nodup ((pv ++ [(i, v)] ++ A1).map (·.1)) k (A2.map (·.1) ++ post2) (by rw [hL2]; simp)).1
            constructor
            · cases hs : lp listed k with
              | false => rfl
              | true => exact (hn (by have := hin k hs; simp only [List.map_append, List.mem_append]; exact .inl (.inl this))).elim
            · refine beq_eq_false_iff_ne.2 fun e => hn ?_
              subst e; simp
          refine ih _ _ w' m' h' (pv ++ [(i, v)] ++ pv2) post2 reads2 _ (st1.trans st) hL2 s' (by rw [put_defers]; exact hd) ?_ hsz' (fun k hk => ?_) hcl' (fun A k u B e hk => ?_) e4 (fun x hx => ?_) (fun x hx hn => ?_) (fun x hx => by have := hpin x hx; simp only [List.map_append, List.mem_append]; exact .inl (.inl this)) hfuel'
          · have e5 : foldS ops.toList (lp (listed.setIfInBounds i true)) t0 (pv ++ [(i, v)] ++ pv2) = putA (foldS ops.toList (lp listed) t0 pv) o.dst v := by
              rw [foldS_append, foldS_skip _ _ pv2 _ (fun k u hk => by rw [hset]; obtain ⟨q1, q2⟩ := hin2 k u hk; rw [q1, q2]; rfl), foldS_append]
              simp only [foldS, hset, beq_self_eq_true, Bool.or_true, cond_true, hdst]
              congr 1
              refine foldS_congr _ _ _ _ _ fun k u hk => ?_
              have : (k == i) = false := beq_eq_false_iff_ne.2 fun e => hmem (by rw [← e]; exact List.mem_map.2 ⟨_, hk, rfl⟩)
              rw [hset, this, Bool.or_false]
            rw [e5]
            exact putA_rel (VsRel.mono st.map ht) o.dst hv
          · rw [hset] at hk
            cases hks : lp listed k with
            | true => have := hin k hks; simp only [List.map_append, List.mem_append]; exact .inl (.inl this)
            | false =>
              rw [hks, Bool.false_or] at hk
              have : k = i := by simpa using hk
              subst this; simp
          · rw [hset] at hk
            obtain ⟨hk1, hk2⟩ := Bool.or_eq_false_iff.1 hk
            rcases split_append e with ⟨B', e6⟩ | ⟨A', e6, e7⟩
            · rcases split_append e6 with ⟨B2, e8⟩ | ⟨A2, e8, e9⟩
              · rcases hpend A k u B2 e8 hk1 with ⟨c, hc, hp⟩ | hp
                rotate_left
                · exact .inr hp
                refine .inl ⟨c, hc, ?_⟩
                rcases hp with ⟨q1, q2, re, q3, q4, q5⟩ | hp
                · refine .inl ⟨q1, q2, re, q3, ?_, fun f hf => e2 _ (q5 f hf)⟩
                  cases re with
                  | none => trivial
                  | some f =>
                    refine hreads k f (q5 f rfl) ?_
                    cases hb : ((masksOf ops.toList).getD i 0).testBit k with
                    | false => rfl
                    | true => rw [closed_mask hcl i o hol hedge k hb] at hk1; cases hk1
                · exact .inr hp
              · cases A2 with
                | nil => simp only [List.nil_append, List.cons.injEq, Prod.mk.injEq] at e9; rw [e9.1.1] at hk2; simp at hk2
                | cons y A2 => simp at e9
            · rw [e6]; exact .inl (e3 A' k u B e7)
          · obtain ⟨q1, q2, q3⟩ := hrest1 x hx
            subst q2
            obtain ⟨r1, r2, r3, r4, r5⟩ := hpi x q1
            refine ⟨r1, Nat.lt_of_lt_of_le r2 st.next, st.gone _ r2 r3, fun e => st.anon _ r2 (r4 ?_), fun e => LaidAt.steps (r5 ?_) st⟩
            · rw [hset] at e; exact (Bool.or_eq_false_iff.1 e).1
            · rw [hset] at e
              cases hlx : lp listed x.p with
              | true => rfl
              | false =>
                rw [hlx, Bool.false_or] at e
                have e : x.p = i := by simpa using e
                obtain ⟨_, o2, agg, dd, ho2, hg2, hop2, hf2⟩ := hpk x r1
                rw [e, hol] at ho2; cases ho2
                exact (hmem (by rw [← e]; exact hpin x r1)).elim
          · rw [hset, hrest2 x hx hn]; rfl
        · have hir : i ∈ r := by
            rcases List.mem_cons.1 hipost with e | hm
            · exact (hij e).elim
            · exact hm
          have hah := aheadS_of (pairsS_split hpairs (pv.map (·.1)) j r hL i hir)
          rcases hah.or with hb | ⟨x, y, hx, hy, _, h1⟩
          · have := hin j (closed_mask hcl i o hol hedge j hb)
            exact ((nodup _ _ _ hL).1 this).elim
          · rw [ho'] at hx; cases hx
            rw [hheavy] at h1
            rcases h1 with h1 | h1
            · cases h1
            · cases hpz : pk0 with
              | none => rw [hpz] at h1; cases h1
              | some z =>
                rw [hpz] at h1
                have : z.p = j := by simpa using h1
                subst this
                exact ((nodup _ _ _ hL).1 (hpin z hpz)).elim

/-- A region that draws its order. -/
theorem drawS_ok (T : TabOk P ty) {F : Fence} (hF : F = Fence.wide ∨ ∃ l, F = Fence.wide.inRound l) {n : Nat} {Q : Exit → Act → World → Prop} {K : List AV → AH → Prop} (hm : P.follows .mixedOrders = true) {id : Nat}
    (hback : edgesBack ops.toList 0 = true) (hall : ∀ i, i < ops.size → i ∈ L) (hlt : ∀ i ∈ L, i < ops.size) (hpairs : pairsS ty ops.toList (masksOf ops.toList) none L = true)
    {m : Mp} {h : AH} {w : World} {t : List AV} {a : Act} (s : Sim m h w) (ht : VsRel m t a.tmps.toList)
    (hk : drawS P ty ops.toList (masksOf ops.toList) L t [] none K h)
    (hQ : ∀ m' h' w' t' (a' : Act), Sim m' h' w' → Steps m h w m' h' w' → VsRel m' t' a'.tmps.toList → a'.defers = a.defers → K t' h' → Q .normal a' w') :
    (Code.region id ops true).wpIn F n P Q a w := by
  refine wpIn_region_any hm ?_
  obtain ⟨pv, post, reads, e1, _, e3, e4⟩ := advanceS L [] [] hk
  have hfalse : ∀ k, lp (Array.replicate ops.size false) k = false := by
    intro k; unfold lp; simp only [Array.getD_eq_getD_getElem?, Array.getElem?_replicate]; split <;> rfl
  have s' : Sim m h { w with drawn := w.drawn + 1 } := ⟨s.top, s.lies, s.cells, s.disj, s.objs, s.inj⟩
  have st : Steps m h w m h { w with drawn := w.drawn + 1 } := ⟨Nat.le_refl _, Mp.le.refl m, Nat.le_refl _, rfl, rfl, rfl, fun _ _ _ => rfl, fun b o s hb hf hs => .inr ⟨b, o, s, hb, hf, hs, rfl⟩, fun b o s hb hs => .inr ⟨b, o, s, hb, hs, rfl⟩, fun _ _ h => h, fun _ _ h => h⟩
  refine anyS_ok T hF hback (pk0 := none) hpairs hall hlt (fun x e => by cases e) hQ ops.size _ a _ m h pv post reads none st e1 s' rfl ?_ (by simp) (fun i hi => by rw [hfalse] at hi; cases hi)
    (fun i o _ hi => by rw [hfalse] at hi; cases hi) (fun A i v B e _ => .inl (by have := e3 A i v B e; simpa using this)) (by simpa using e4) (fun x e => by cases e) (fun x e => by cases e) (fun x e => by cases e) ?_
  · rw [foldS_skip _ _ _ _ (fun k _ _ => hfalse k)]; exact ht
  · refine Nat.le_trans List.countP_le_length ?_
    simp
/-- The same, where a block has its name from the beginning on. -/
theorem drawP_ok (T : TabOk P ty) {F : Fence} (hF : F = Fence.wide ∨ ∃ l, F = Fence.wide.inRound l) {n : Nat} {Q : Exit → Act → World → Prop} {K : List AV → AH → Prop} (hm : P.follows .mixedOrders = true) {id : Nat} {p : Nat} {o : Oper} {pt : TypeId} {agg : Bool} {ks : List K1} {dd : TD}
    (hback : edgesBack ops.toList 0 = true) (hall : ∀ i, i < ops.size → i ∈ p :: L) (hlt : ∀ i ∈ p :: L, i < ops.size) (hpairs : pairsS ty ops.toList (masksOf ops.toList) (some p) (p :: L) = true)
    (ho : ops.toList[p]? = some o) (hg : o.guard = none) (hop : o.op = .alloc pt) (hf : ty.find pt = some (.plain agg ks dd))
    {m : Mp} {h : AH} {w : World} {t : List AV} {a : Act} (s : Sim m h w) (ht : VsRel m t a.tmps.toList)
    (hk : drawS P ty ops.toList (masksOf ops.toList) L (putA t o.dst (.ptr (some ⟨h.next, 0⟩))) [] (some ⟨p, h.next, pt, ks⟩) K { h with next := h.next + 1 })
    (hQ : ∀ m' h' w' t' (a' : Act), Sim m' h' w' → Steps m h w m' h' w' → VsRel m' t' a'.tmps.toList → a'.defers = a.defers → K t' h' → Q .normal a' w') :
    (Code.region id ops true).wpIn F n P Q a w := by
  refine wpIn_region_any hm ?_
  have hdst : dstOf ops.toList p = o.dst := by simp only [dstOf, ho, Option.bind_some]
  have hput : foldS ops.toList (fun _ => true) t [(p, .ptr (some ⟨h.next, 0⟩))] = putA t o.dst (.ptr (some ⟨h.next, 0⟩)) := by simp [foldS, hdst]
  rw [← hput] at hk
  obtain ⟨pv, post, reads, e1, _, e3, e4⟩ := advanceS L [(p, .ptr (some ⟨h.next, 0⟩))] [] hk
  have hfalse : ∀ k, lp (Array.replicate ops.size false) k = false := by
    intro k; unfold lp; simp only [Array.getD_eq_getD_getElem?, Array.getElem?_replicate]; split <;> rfl
  have htop := s.top h.next (Nat.le_refl _)
  have s' : Sim m { h with next := h.next + 1 } { w with drawn := w.drawn + 1 } := ⟨fun b hb => s.top b (Nat.le_of_succ_le hb), s.lies, s.cells, s.disj, s.objs, s.inj⟩
  have st : Steps m h w m { h with next := h.next + 1 } { w with drawn := w.drawn + 1 } := ⟨Nat.le_succ _, Mp.le.refl m, Nat.le_refl _, rfl, rfl, rfl, fun _ _ _ => rfl, fun b o s hb hf hs => .inr ⟨b, o, s, hb, hf, hs, rfl⟩, fun b o s hb hs => .inr ⟨b, o, s, hb, hs, rfl⟩, fun _ _ h => h, fun _ _ h => h⟩
  refine anyS_ok T hF hback (L := p :: L) (pk0 := some ⟨p, h.next, pt, ks⟩) hpairs hall hlt (fun x e => by cases e; exact ⟨Nat.le_refl _, o, agg, dd, ho, hg, hop, hf⟩) hQ ops.size _ a _ m { h with next := h.next + 1 } ((p, .ptr (some ⟨h.next, 0⟩)) :: pv) post reads (some ⟨p, h.next, pt, ks⟩) st (by simp [e1]) s' rfl ?_ (by simp) (fun i hi => by rw [hfalse] at hi; cases hi)
    (fun i o _ hi => by rw [hfalse] at hi; cases hi) (fun A i v B e _ => ?_) (by simpa using e4) (fun x e => by cases e; exact ⟨rfl, Nat.lt_succ_self _, htop.1, fun _ => htop.2, fun e => by rw [hfalse] at e; cases e⟩) (fun x _ e => by cases e) (fun x e => by cases e; simp) ?_
  · rw [foldS_skip _ _ _ _ (fun k _ _ => hfalse k)]; exact ht
  · cases A with
    | nil => cases e; exact .inr ⟨_, rfl, rfl, rfl⟩
    | cons y A =>
      simp only [List.cons_append, List.cons.injEq] at e
      obtain ⟨rfl, rfl⟩ := e
      exact .inl (by have := e3 A i v B rfl; simpa using this)
  · refine Nat.le_trans List.countP_le_length ?_
    simp
end
end Go.La
/- Layer X, part 3: instructions, code, calls. -/
namespace Go.La
open Go

noncomputable def eqVX (v : AV) (k0 : AV) (k1 : Bool → Rs) : Rs :=
  AV.rec (motive_1 := fun _ => (AV) → (Bool → Rs) → Rs) (motive_2 := fun _ => Unit)
    (fun b k0 k1 => asBool k0 (k1 b) (k1 (notB b)))
    (fun _ n k0 k1 => asInt k0 fun _ m => k1 (eqI n m))
    (fun s k0 k1 => asStr k0 fun t => k1 (eqS s t))
    (fun _ _ _ => .bad 120)
    (fun _ _ => .bad 120)
    (fun _ _ _ _ _ => .bad 120)
    (fun _ _ _ => .bad 120)
    (fun _ _ _ _ _ _ _ => .bad 120)
    (fun _ _ => .bad 120)
    (fun _ _ _ _ _ => .bad 120)
    (fun _ _ => .bad 120)
    (fun _ _ _ _ => .bad 120)
    (fun _ _ _ _ => .bad 120)
    (fun _ _ => .bad 120)
    () (fun _ _ _ _ => ()) v k0 k1
noncomputable def eqCX (l m : List AV) (K : Bool → Rs) : Rs :=
  List.rec (motive := fun _ => List AV → (Bool → Rs) → Rs) (fun m K => List.rec (motive := fun _ => (Bool → Rs) → Rs) (fun K => K true) (fun _ _ _ K => K false) m K)
    (fun a _ ih m K => List.rec (motive := fun _ => AV → (List AV → (Bool → Rs) → Rs) → (Bool → Rs) → Rs) (fun _ _ K => K false) (fun b r _ a ih K => eqVX a b fun t => iteB t (ih r K) (K false)) m a ih K) l m K
noncomputable def keyX (v : AV) (k0 : AV) (k1 : Bool → Rs) : Rs :=
  AV.rec (motive_1 := fun _ => (AV) → (Bool → Rs) → Rs) (motive_2 := fun _ => Unit)
    (fun b k0 k1 => asBool k0 (k1 b) (k1 (notB b)))
    (fun _ n k0 k1 => asInt k0 fun _ m => k1 (eqI n m))
    (fun s k0 k1 => asStr k0 fun t => k1 (eqS s t))
    (fun _ _ _ => .bad 121)
    (fun _ _ => .bad 121)
    (fun _ _ _ _ _ => .bad 121)
    (fun _ _ _ => .bad 121)
    (fun _ _ _ _ _ _ _ => .bad 121)
    (fun _ _ => .bad 121)
    (fun _ _ _ _ _ => .bad 121)
    (fun _ _ => .bad 121)
    (fun l _ k0 k1 => asAgg k0 fun m => eqCX l m k1)
    (fun _ _ _ _ => .bad 121)
    (fun _ _ => .bad 121)
    () (fun _ _ _ _ => ()) v k0 k1
noncomputable def ptrEq (p q : Option Pt) (K : Bool → Rs) : Rs :=
  Option.rec (motive := fun _ => Option Pt → (Bool → Rs) → Rs) (fun p K => Option.rec (motive := fun _ => (Bool → Rs) → Rs) (fun K => K true) (fun _ K => K false) p K)
    (fun q p K => Option.rec (motive := fun _ => Pt → (Bool → Rs) → Rs) (fun _ _ => .bad 20) (fun p q K => iteE p.b q.b (iteE p.o q.o (K true) (.bad 21)) (.bad 21)) p q K) q p K
noncomputable def nonePt (q : Option Pt) (R : Rs) : Rs := Option.rec (motive := fun _ => Rs → Rs) (fun R => R) (fun _ _ => .bad 22) q R
noncomputable def noneM (q : Option Nat) (R : Rs) : Rs := Option.rec (motive := fun _ => Rs → Rs) (fun R => R) (fun _ _ => .bad 22) q R
noncomputable def isNone (q : Option Pt) (K : Bool → Rs) : Rs := Option.rec (motive := fun _ => (Bool → Rs) → Rs) (fun K => K true) (fun _ K => K false) q K
noncomputable def isNoneM (q : Option Nat) (K : Bool → Rs) : Rs := Option.rec (motive := fun _ => (Bool → Rs) → Rs) (fun K => K true) (fun _ K => K false) q K
/-! ### Kinds -/
noncomputable def kindN (k : IntKind) : Nat := IntKind.rec (motive := fun _ => Nat) 0 1 2 3 4 5 6 7 k
/-- Is the value of the kind? -/
noncomputable def fitV (k : K1) (v : AV) (R : Rs) : Rs :=
  K1.rec (motive := fun _ => AV → Rs → Rs) (fun v R => asBool v R R) (fun k v R => asInt v fun k' _ => iteE (kindN k) (kindN k') R (.bad 130)) (fun v R => asStr v fun _ => R)
    (fun _ _ => .bad 131) (fun _ _ _ => .bad 131) (fun _ _ => .bad 131) (fun _ _ => .bad 131) (fun _ _ => .bad 131) k v R
noncomputable def fitL (ks : List K1) (l : List AV) (R : Rs) : Rs :=
  List.rec (motive := fun _ => List AV → Rs → Rs) (fun l R => List.rec (motive := fun _ => Rs → Rs) (fun R => R) (fun _ _ _ _ => .bad 132) l R)
    (fun k _ ih l R => List.rec (motive := fun _ => K1 → (List AV → Rs → Rs) → Rs → Rs) (fun _ _ _ => .bad 132) (fun v r _ k ih R => fitV k v (ih r R)) l k ih R) ks l R
noncomputable def fitKX (agg : Bool) (ks : List K1) (v : AV) (R : Rs) : Rs :=
  Bool.rec (motive := fun _ => List K1 → AV → Rs → Rs) (fun ks v R => fitL ks [v] R) (fun ks v R => asAgg v fun l => fitL ks l R) agg ks v R

/-! ### Maps -/
abbrev ES := List (AV × AV × Nat)
noncomputable def findX (k : AV) (l : ES) (Kn : Rs) (Ks : AV → Nat → Rs) : Rs :=
  List.rec (motive := fun _ => AV → Rs → (AV → Nat → Rs) → Rs) (fun _ Kn _ => Kn)
    (fun x _ ih k Kn Ks => Prod.rec (motive := fun _ => AV → (AV → Rs → (AV → Nat → Rs) → Rs) → Rs → (AV → Nat → Rs) → Rs)
      (fun kk y k ih Kn Ks => Prod.rec (motive := fun _ => AV → AV → (AV → Rs → (AV → Nat → Rs) → Rs) → Rs → (AV → Nat → Rs) → Rs) (fun v n kk k ih Kn Ks => keyX k kk fun t => iteB t (Ks v n) (ih k Kn Ks)) y kk k ih Kn Ks) x k ih Kn Ks) l k Kn Ks
noncomputable def updM (k v : AV) (l : ES) (K : ES → Rs) : Rs :=
  List.rec (motive := fun _ => AV → AV → (ES → Rs) → Rs) (fun _ _ _ => .bad 23)
    (fun x r ih k v K => Prod.rec (motive := fun _ => ES → (AV → AV → (ES → Rs) → Rs) → AV → AV → (ES → Rs) → Rs)
      (fun kk y r ih k v K => keyX k kk fun t => iteB t (K ((k, v, y.2) :: r)) (ih k v fun r => K ((kk, y) :: r))) x r ih k v K) l k v K
noncomputable def delM (k : AV) (l : ES) (K : ES → Rs) : Rs :=
  List.rec (motive := fun _ => AV → (ES → Rs) → Rs) (fun _ K => K [])
    (fun x r ih k K => Prod.rec (motive := fun _ => ES → (AV → (ES → Rs) → Rs) → AV → (ES → Rs) → Rs)
      (fun kk y r ih k K => keyX k kk fun t => iteB t (K r) (ih k fun r => K ((kk, y) :: r))) x r ih k K) l k K
noncomputable def stoM (n : Nat) (v : AV) (l : ES) (K : ES → Rs) : Rs :=
  List.rec (motive := fun _ => Nat → AV → (ES → Rs) → Rs) (fun _ _ _ => .bad 24)
    (fun x r ih n v K => Prod.rec (motive := fun _ => ES → (Nat → AV → (ES → Rs) → Rs) → Nat → AV → (ES → Rs) → Rs)
      (fun kk y r ih n v K => iteE y.2 n (K ((kk, v, y.2) :: r)) (ih n v fun r => K ((kk, y) :: r))) x r ih n v K) l n v K
noncomputable def allKX (agg : Bool) (ks : List K1) (l : ES) (R : Rs) : Rs :=
  List.rec (motive := fun _ => Bool → List K1 → Rs → Rs) (fun _ _ R => R) (fun x _ ih agg ks R => fitKX agg ks x.1 (ih agg ks R)) l agg ks R
noncomputable def appM (l m : ES) (K : ES → Rs) : Rs :=
  List.rec (motive := fun _ => ES → (ES → Rs) → Rs) (fun m K => K m) (fun a _ ih m K => ih m fun r => K (a :: r)) l m K
noncomputable def lenM (l : ES) (n : Nat) (K : Nat → Rs) : Rs :=
  List.rec (motive := fun _ => Nat → (Nat → Rs) → Rs) (fun n K => K n) (fun _ _ ih n K => natK (Nat.succ n) fun n => ih n K) l n K

/-! ### Instructions -/
inductive XI where
  | mv (x : XV)
  | pick (c a b : XV)
  | ld1 (p : XV) | ldN (n : Nat) (p : XV) | ld0 (p : XV)
  | st1 (p x : XV) | stN (n : Nat) (p x : XV) | st0 (p x : XV)
  | nilc (x : XV)
  | binH (op : BinOp) (x y : XV) | binI (op : BinOp) (x y : XV) | binT (op : BinOp) (x y : XV) | binB (op : BinOp) (x y : XV) | binP (op : BinOp) (x y : XV) | binV (op : BinOp) (x y : XV) | binM (op : BinOp) (x y : XV) | binA (ks : List K1) (op : BinOp) (x y : XV)
  | notI (x : XV) | negI (x : XV)
  | conv (k : IntKind) (x : XV)
  | sameS (x : XV) | p2u (x : XV) | u2p (t : Nat) (x : XV)
  | b2s (x : XV) | s2b (el : Nat) (x : XV)
  | fldA (off : Nat) (p : XV) | fldA0 (ty : TT) (p : XV)
  | fld1 (off : Nat) (x : XV) | fldN (off n : Nat) (x : XV)
  | idxV (esz : Nat) (x i : XV) | idxP (len esz : Nat) (x i : XV)
  | idxS (x i : XV) | idxA1 (len esz : Nat) (x i : XV) | idxAN (len esz : Nat) (x i : XV)
  | slS (x : XV) (lo hi : Option XV) | slV (esz : Nat) (x : XV) (lo hi : Option XV) | slP (n esz : Nat) (x : XV) (lo hi : Option XV)
  | ext (x : XV) (i : Nat)
  | look (agg : Bool) (ks : List K1) (z : AV) (x k : XV) (ok : Bool)
  | mkf (f : FuncId) (l1 l2 : List XV)
  | lenV (x : XV) | lenS (x : XV) | lenM (x : XV)
  | maxI (x y : XV) | minI (x y : XV)
  | capN (x : XV) | sld (x : XV)
  | alloc (t : Nat) (zs : List AV)
  | box1 (t : Nat) (x : XV) | boxN (t n : Nat) (x : XV)
  | build (zs : List AV) (ps : List (Nat × Nat × XV))
  | bsl (el n esz : Nat) (zs : List AV) (ps : List (Nat × Nat × XV))
  | mapUp (agg : Bool) (ks : List K1) (m k x : XV) | mapEn (agg : Bool) (ks : List K1) (z : AV) (m k : XV) | enSt (m s x : XV) | mapDel (agg : Bool) (ks : List K1) (m k : XV) | mkMap
  | appV (el esz : Nat) (x y : XV) | appT (el : Nat) (x y : XV) | appZ (el esz : Nat) (zs : List AV) (x y : XV)
  | clr (esz : Nat) (zs : List AV) (x : XV)
  | ust (u : Nat) (p n : XV)
  | rngS (x : XV) | rngM (x : XV) | nxtS (x : XV) | nxtM (x : XV)
  | mks (el esz : Nat) (zs : List AV) (n m : XV)
  | call (f : XV) (l : List XV)
  | bad (n : Nat)
abbrev KV := AV → XH → Rs
/-- A call, by its manner: 0 any; 1 of a function with a body; 2 of one with a body, as a deferred call. -/
abbrev Caller := Nat → AV → List AV → XH → KV → Rs
/-- Where a variable of a type may be seen in one of another: block's type, cells, place, type. -/
abbrev LT := Nat → Nat → Nat → Nat → Bool
abbrev IT := LT → Caller → EV → XH → KV → Rs

noncomputable def slcX (lo hi : Option AV) (len : Nat) (K : Nat → Nat → Rs) : Rs :=
  Option.rec (motive := fun _ => Option AV → Nat → (Nat → Nat → Rs) → Rs)
    (fun hi len K => Option.rec (motive := fun _ => Nat → (Nat → Nat → Rs) → Rs) (fun len K => K 0 len) (fun r len K => asInt r fun _ r => natI r fun r => iteN r len (K 0 r) (.bad 25)) hi len K)
    (fun l hi len K => asInt l fun _ l => natI l fun l => Option.rec (motive := fun _ => Nat → Nat → (Nat → Nat → Rs) → Rs) (fun l len K => iteN l len (K l len) (.bad 25)) (fun r l len K => asInt r fun _ r => natI r fun r => iteN l r (iteN r len (K l r) (.bad 25)) (.bad 25)) hi l len K) lo hi len K
noncomputable def toStr (l : List AV) (K : Str → Rs) : Rs :=
  List.rec (motive := fun _ => (Str → Rs) → Rs) (fun K => K []) (fun a _ ih K => asInt a fun k n => iteE (kindN k) 4 (natI n fun n => iteN n 255 (ih fun r => K (UInt8.ofNat n :: r)) (.bad 136)) (.bad 136)) l K
noncomputable def ofStr (s : Str) (K : List AV → Rs) : Rs :=
  List.rec (motive := fun _ => (List AV → Rs) → Rs) (fun K => K []) (fun a _ ih K => ih fun r => K (.int .u8 (.ofNat (UInt8.toNat a)) :: r)) s K
noncomputable def atPt (p : Option Pt) (Kn : Rs) (K : Nat → Nat → Rs) : Rs :=
  Option.rec (motive := fun _ => Rs → (Nat → Nat → Rs) → Rs) (fun Kn _ => Kn) (fun p _ K => Pt.rec (motive := fun _ => (Nat → Nat → Rs) → Rs) (fun b o K => K b o) p K) p Kn K
noncomputable def anyX (v : AV) (k0 : Rs) (k1 : Nat → Nat → Rs) : Rs :=
  AV.rec (motive_1 := fun _ => (Rs) → (Nat → Nat → Rs) → Rs) (motive_2 := fun _ => Unit)
    (fun _ _ _ => .bad 143)
    (fun _ _ _ _ => .bad 143)
    (fun _ _ _ => .bad 143)
    (fun p _ k1 => atPt p (.bad 143) k1)
    (fun  k0 _ => k0)
    (fun _ _ _ _ _ => .bad 143)
    (fun _ _ _ => .bad 143)
    (fun _ _ _ _ _ _ _ => .bad 143)
    (fun _ _ => .bad 143)
    (fun _ _ _ _ _ => .bad 143)
    (fun _ _ => .bad 143)
    (fun _ _ _ _ => .bad 143)
    (fun _ _ _ _ => .bad 143)
    (fun _ _ => .bad 143)
    () (fun _ _ _ _ => ()) v k0 k1
noncomputable def aggOr (v : AV) (k0 : List AV → Rs) (k1 : Rs) : Rs :=
  AV.rec (motive_1 := fun _ => (List AV → Rs) → (Rs) → Rs) (motive_2 := fun _ => Unit)
    (fun _ _ k1 => k1)
    (fun _ _ _ k1 => k1)
    (fun _ _ k1 => k1)
    (fun _ _ k1 => k1)
    (fun _ _ => .bad 144)
    (fun _ _ _ _ k1 => k1)
    (fun _ _ k1 => k1)
    (fun _ _ _ _ _ _ k1 => k1)
    (fun  _ k1 => k1)
    (fun _ _ _ _ k1 => k1)
    (fun  _ k1 => k1)
    (fun l _ k0 _ => k0 l)
    (fun _ _ _ _ => .bad 144)
    (fun _ _ => .bad 144)
    () (fun _ _ _ _ => ()) v k0 k1
noncomputable def allOne (l : List AV) (R : Rs) : Rs := List.rec (motive := fun _ => Rs → Rs) (fun R => R) (fun a _ ih R => oneX a (ih R)) l R
noncomputable def fillX (ps : List (Nat × Nat × XV)) (e : EV) (c : List AV) (K : List AV → Rs) : Rs :=
  List.rec (motive := fun _ => EV → List AV → (List AV → Rs) → Rs) (fun _ c K => K c)
    (fun p _ ih e c K => evX p.2.2 e fun v => aggOr v (fun l => lenX l 0 fun n => iteE n p.2.1 (spliceX p.1 l c fun c => ih e c K) (.bad 141)) (iteE 1 p.2.1 (setX p.1 v c fun c => ih e c K) (.bad 141))) ps e c K

noncomputable def x_mv (x : XV) : IT := fun _ _ e h K => evX x e fun v => K v h
noncomputable def x_pick (c a b : XV) : IT := fun _ _ e h K => evX c e fun c => evX a e fun a => evX b e fun b => asBool c (K a h) (K b h)
noncomputable def x_ld1 (p : XV) : IT := fun _ _ e h K => evX p e fun p => asPtr p fun b o => rd1 b o h fun v => K v h
noncomputable def x_ldN (n : Nat) (p : XV) : IT := fun _ _ e h K => evX p e fun p => asPtr p fun b o => rdN b o n h fun l => K (.agg l) h
noncomputable def x_ld0 (p : XV) : IT := fun _ _ e h K => evX p e fun p => anyX p (K (.agg []) h) fun b o => rdN b o 0 h fun l => K (.agg l) h
noncomputable def x_st1 (p x : XV) : IT := fun _ _ e h K => evX p e fun p => evX x e fun x => asPtr p fun b o => oneX x (wr1 b o x h fun h => K .dead h)
noncomputable def x_stN (n : Nat) (p x : XV) : IT := fun _ _ e h K => evX p e fun p => evX x e fun x => asPtr p fun b o => asAgg x fun l => lenX l 0 fun m => iteE m n (allOne l (wrN b o l h fun h => K .dead h)) (.bad 26)
noncomputable def x_st0 (p x : XV) : IT := fun _ _ e h K => evX p e fun p => evX x e fun x => asAgg x fun l => lenX l 0 fun m => iteE m 0 (anyX p (K .dead h) fun b o => wrN b o l h fun h => K .dead h) (.bad 26)
noncomputable def x_nilc (x : XV) : IT := fun _ _ e h K => evX x e fun x => nilX x fun v => K v h
noncomputable def x_binH (op : BinOp) (x y : XV) : IT := fun _ _ e h K => evX x e fun x => evX y e fun y => asInt x fun k n => asInt y fun _ m => intX op k n m fun v => K v h
noncomputable def x_binI (op : BinOp) (x y : XV) : IT := fun _ _ e h K => evX x e fun x => evX y e fun y => asInt x fun k n => asInt y fun k' m => iteE (kindN k) (kindN k') (intX op k n m fun v => K v h) (.bad 133)
noncomputable def x_binT (op : BinOp) (x y : XV) : IT := fun _ _ e h K => evX x e fun x => evX y e fun y => asStr x fun s => asStr y fun t => strX op s t fun v => K v h
noncomputable def x_binB (op : BinOp) (x y : XV) : IT := fun _ _ e h K => evX x e fun x => evX y e fun y => asBool x (asBool y (eqX op true fun v => K v h) (eqX op false fun v => K v h)) (asBool y (eqX op false fun v => K v h) (eqX op true fun v => K v h))
noncomputable def x_binP (op : BinOp) (x y : XV) : IT := fun _ _ e h K => evX x e fun x => evX y e fun y => asPtrO x fun p => asPtrO y fun q => ptrEq p q fun b => eqX op b fun v => K v h
noncomputable def x_binV (op : BinOp) (x y : XV) : IT := fun _ _ e h K => evX x e fun x => evX y e fun y => asSlice x fun p _ _ => asSlice y fun q n _ => iteE n 0 (nonePt q (isNone p fun b => eqX op b fun v => K v h)) (.bad 134)
noncomputable def x_binM (op : BinOp) (x y : XV) : IT := fun _ _ e h K => evX x e fun x => evX y e fun y => asMap x fun p => asMap y fun q => noneM q (isNoneM p fun b => eqX op b fun v => K v h)
noncomputable def x_binA (ks : List K1) (op : BinOp) (x y : XV) : IT := fun _ _ e h K => evX x e fun x => evX y e fun y => asAgg x fun l => asAgg y fun m => fitL ks l (fitL ks m (eqCX l m fun b => eqX op b fun v => K v h))
noncomputable def x_not (x : XV) : IT := fun _ _ e h K => evX x e fun x => asBool x (K (.bool false) h) (K (.bool true) h)
noncomputable def x_neg (x : XV) : IT := fun _ _ e h K => evX x e fun x => asInt x fun k n => ki k (negI n) fun v => K v h
noncomputable def x_conv (k : IntKind) (x : XV) : IT := fun _ _ e h K => evX x e fun x => asInt x fun _ n => ki k n fun v => K v h
noncomputable def x_sameS (x : XV) : IT := fun _ _ e h K => evX x e fun x => asStr x fun s => K (.str s) h
noncomputable def x_p2u (x : XV) : IT := fun _ _ e h K => evX x e fun x => asPtr x fun b o => rd1 b o h fun _ => K (.ptr (some ⟨b, o⟩)) h
noncomputable def x_u2p (t : Nat) (x : XV) : IT := fun la _ e h K => evX x e fun x => asPtr x fun b o => getO b h fun q => asCells q fun _ _ el c => iteB el.wh (lenX c 0 fun n => iteB (la el.t n o t) (K (.ptr (some ⟨b, o⟩)) h) (.bad 135)) (.bad 135)
noncomputable def x_b2s (x : XV) : IT := fun _ _ e h K => evX x e fun x => asSlice x fun p n _ => atPt p (iteE n 0 (K (.str []) h) (.bad 145)) fun b o => rdN b o n h fun l => toStr l fun s => K (.str s) h
noncomputable def x_s2b (el : Nat) (x : XV) : IT := fun _ _ e h K => evX x e fun x => asStr x fun s => ofStr s fun l => lenX l 0 fun n => newO (.cells false 0 ⟨el, false, false⟩ l) h fun b h => K (.slice (some ⟨b, 0⟩) n 1) h
noncomputable def x_fldA (off : Nat) (p : XV) : IT := fun _ _ e h K => evX p e fun p => asPtr p fun b o => natK (Nat.add o off) fun o => K (.ptr (some ⟨b, o⟩)) h
noncomputable def x_fldA0 (ty : TT) (p : XV) : IT := fun _ _ e h K => evX p e fun p => asPtr p fun b _ => getO b h fun q => asCells q fun _ _ el _ => iteB (okEl ty el.t) (K .anyptr h) (.bad 137)
noncomputable def x_fld1 (off : Nat) (x : XV) : IT := fun _ _ e h K => evX x e fun x => asAgg x fun l => nthX off l fun v => K v h
noncomputable def x_fldN (off n : Nat) (x : XV) : IT := fun _ _ e h K => evX x e fun x => asAgg x fun l => dropX off l fun l => takeX n l fun l => K (.agg l) h
noncomputable def x_idxV (esz : Nat) (x i : XV) : IT := fun _ _ e h K => evX x e fun x => evX i e fun i => asSlice x fun p len _ => asInt i fun _ i => natI i fun i => iteN (Nat.succ i) len (atPt p (.bad 27) fun b o => natK (Nat.add o (Nat.mul i esz)) fun o => K (.ptr (some ⟨b, o⟩)) h) (.bad 28)
noncomputable def x_idxP (len esz : Nat) (x i : XV) : IT := fun _ _ e h K => evX x e fun x => evX i e fun i => asPtr x fun b o => asInt i fun _ i => natI i fun i => iteN (Nat.succ i) len (natK (Nat.add o (Nat.mul i esz)) fun o => K (.ptr (some ⟨b, o⟩)) h) (.bad 28)
noncomputable def x_idxS (x i : XV) : IT := fun _ _ e h K => evX x e fun x => evX i e fun i => asStr x fun s => asInt i fun _ i => natI i fun i => dropS i s fun s => List.rec (motive := fun _ => XH → KV → Rs) (fun _ _ => .bad 28) (fun c _ _ h K => natK (UInt8.toNat c) fun c => K (.int .u8 (.ofNat c)) h) s h K
noncomputable def x_idxA1 (len esz : Nat) (x i : XV) : IT := fun _ _ e h K => evX x e fun x => evX i e fun i => asAgg x fun l => asInt i fun _ i => natI i fun i => iteN (Nat.succ i) len (nthX (Nat.mul i esz) l fun v => K v h) (.bad 28)
noncomputable def x_idxAN (len esz : Nat) (x i : XV) : IT := fun _ _ e h K => evX x e fun x => evX i e fun i => asAgg x fun l => asInt i fun _ i => natI i fun i => iteN (Nat.succ i) len (dropX (Nat.mul i esz) l fun l => takeX esz l fun l => K (.agg l) h) (.bad 28)
noncomputable def x_slS (x : XV) (lo hi : Option XV) : IT := fun _ _ e h K => evX x e fun x => optX lo e fun lo => optX hi e fun hi => asStr x fun s => lenS s 0 fun n => slcX lo hi n fun l r => dropS l s fun s => takeS (Nat.sub r l) s fun s => K (.str s) h
noncomputable def x_slV (esz : Nat) (x : XV) (lo hi : Option XV) : IT := fun _ _ e h K => evX x e fun x => optX lo e fun lo => optX hi e fun hi => asSlice x fun p n sz => iteE esz sz (slcX lo hi n fun l r => natK (Nat.sub r l) fun m => atPt p (K (.slice none m sz) h) fun b o => natK (Nat.add o (Nat.mul l sz)) fun o => K (.slice (some ⟨b, o⟩) m sz) h) (.bad 138)
noncomputable def x_slP (n esz : Nat) (x : XV) (lo hi : Option XV) : IT := fun _ _ e h K => evX x e fun x => optX lo e fun lo => optX hi e fun hi => asPtr x fun b o => rdN b o (Nat.mul n esz) h fun _ => slcX lo hi n fun l r => natK (Nat.sub r l) fun m => natK (Nat.add o (Nat.mul l esz)) fun o => K (.slice (some ⟨b, o⟩) m esz) h
noncomputable def x_ext (x : XV) (i : Nat) : IT := fun _ _ e h K => evX x e fun x => asTup x fun l => nthX i l fun v => K v h
noncomputable def lookK (ok : Bool) (v : AV) (b : Bool) (h : XH) (K : KV) : Rs := iteB ok (K (.tuple [v, .bool b]) h) (K v h)
noncomputable def x_look (agg : Bool) (ks : List K1) (z : AV) (x k : XV) (ok : Bool) : IT := fun _ _ e h K => evX x e fun x => evX k e fun k => fitKX agg ks k (asMap x fun m =>
  Option.rec (motive := fun _ => AV → AV → Bool → XH → KV → Rs) (fun _ z ok h K => lookK ok z false h K) (fun b k z ok h K => getO b h fun o => asMapO o fun es _ => allKX agg ks es (findX k es (lookK ok z false h K) fun v _ => lookK ok v true h K)) m k z ok h K)
noncomputable def x_mkf (f : FuncId) (l1 l2 : List XV) : IT := fun _ _ e h K => evsX l1 e fun l1 => evsX l2 e fun l2 => K (.func (.func f) l1 l2) h
noncomputable def x_lenV (x : XV) : IT := fun _ _ e h K => evX x e fun x => asSlice x fun _ n _ => K (.int .i64 (.ofNat n)) h
noncomputable def x_lenS (x : XV) : IT := fun _ _ e h K => evX x e fun x => asStr x fun s => lenS s 0 fun n => K (.int .i64 (.ofNat n)) h
noncomputable def x_lenM (x : XV) : IT := fun _ _ e h K => evX x e fun x => asMap x fun m => Option.rec (motive := fun _ => XH → KV → Rs) (fun h K => K (.int .i64 (.ofNat 0)) h) (fun b h K => getO b h fun o => asMapO o fun es _ => lenM es 0 fun n => K (.int .i64 (.ofNat n)) h) m h K
noncomputable def x_max (x y : XV) : IT := fun _ _ e h K => evX x e fun x => evX y e fun y => asInt x fun k a => asInt y fun k' b => iteE (kindN k) (kindN k') (iteB (ltI a b) (K y h) (K x h)) (.bad 139)
noncomputable def x_min (x y : XV) : IT := fun _ _ e h K => evX x e fun x => evX y e fun y => asInt x fun k a => asInt y fun k' b => iteE (kindN k) (kindN k') (iteB (ltI b a) (K y h) (K x h)) (.bad 139)
noncomputable def x_capN (x : XV) : IT := fun _ _ e h K => evX x e fun x => asSlice x fun p _ _ => nonePt p (K (.int .i64 (.ofNat 0)) h)
noncomputable def x_sld (x : XV) : IT := fun _ _ e h K => evX x e fun x => asSlice x fun p n _ => atPt p (K (.ptr none) h) fun b o => iteE n 0 (.bad 140) (K (.ptr (some ⟨b, o⟩)) h)
noncomputable def x_alloc (t : Nat) (zs : List AV) : IT := fun _ _ _ h K => newO (.cells false 0 ⟨t, true, true⟩ zs) h fun b h => K (.ptr (some ⟨b, 0⟩)) h
noncomputable def x_box1 (t : Nat) (x : XV) : IT := fun _ _ e h K => evX x e fun x => oneX x (newO (.cells false 0 ⟨t, true, true⟩ [x]) h fun b h => K (.ptr (some ⟨b, 0⟩)) h)
noncomputable def x_boxN (t n : Nat) (x : XV) : IT := fun _ _ e h K => evX x e fun x => asAgg x fun l => lenX l 0 fun m => iteE m n (allOne l (newO (.cells false 0 ⟨t, true, true⟩ l) h fun b h => K (.ptr (some ⟨b, 0⟩)) h)) (.bad 29)
noncomputable def x_build (zs : List AV) (ps : List (Nat × Nat × XV)) : IT := fun _ _ e h K => fillX ps e zs fun l => K (.agg l) h
noncomputable def x_bsl (el n esz : Nat) (zs : List AV) (ps : List (Nat × Nat × XV)) : IT := fun _ _ e h K => repX n zs [] fun c => fillX ps e c fun l => allOne l (newO (.cells false 0 ⟨el, false, true⟩ l) h fun b h => K (.slice (some ⟨b, 0⟩) n esz) h)
noncomputable def withMap (m : AV) (h : XH) (K : Nat → ES → Nat → Rs) : Rs := asMap m fun m => Option.rec (motive := fun _ => XH → (Nat → ES → Nat → Rs) → Rs) (fun _ _ => .bad 30) (fun b h K => getO b h fun o => asMapO o fun es clk => K b es clk) m h K
noncomputable def x_mapUp (agg : Bool) (ks : List K1) (m k x : XV) : IT := fun _ _ e h K => evX m e fun m => evX k e fun k => evX x e fun x => fitKX agg ks k (withMap m h fun b es clk => allKX agg ks es (
  findX k es (appM es [(k, x, clk)] fun es => natK (Nat.succ clk) fun clk => setO b (some (.map es clk)) h fun h => K .dead h) fun _ _ => updM k x es fun es => setO b (some (.map es clk)) h fun h => K .dead h))
noncomputable def x_mapEn (agg : Bool) (ks : List K1) (z : AV) (m k : XV) : IT := fun _ _ e h K => evX m e fun m => evX k e fun k => fitKX agg ks k (withMap m h fun b es clk => allKX agg ks es (
  findX k es (appM es [(k, z, clk)] fun es => natK (Nat.succ clk) fun clk1 => setO b (some (.map es clk1)) h fun h => K (.tuple [z, .int .i64 (.ofNat clk)]) h) fun v n => updM k v es fun es => setO b (some (.map es clk)) h fun h => K (.tuple [v, .int .i64 (.ofNat n)]) h))
noncomputable def x_enSt (m s x : XV) : IT := fun _ _ e h K => evX m e fun m => evX s e fun s => evX x e fun x => withMap m h fun b es clk => asInt s fun _ s => natI s fun s => stoM s x es fun es => setO b (some (.map es clk)) h fun h => K .dead h
noncomputable def x_mapDel (agg : Bool) (ks : List K1) (m k : XV) : IT := fun _ _ e h K => evX m e fun m => evX k e fun k => fitKX agg ks k (withMap m h fun b es clk => allKX agg ks es (delM k es fun es => setO b (some (.map es clk)) h fun h => K (.tuple []) h))
noncomputable def x_mkMap : IT := fun _ _ _ h K => newO (.map [] 0) h fun b h => K (.map (some b)) h
noncomputable def forceB (b : Bool) (K : Bool → Rs) : Rs := Bool.rec (motive := fun _ => Rs) (K false) (K true) b
noncomputable def appTX (el : Nat) (p : Option Pt) (len sz k : Nat) (ys : List AV) (h : XH) (K : KV) : Rs :=
  natK (Nat.add len k) fun n => iteN (Nat.succ n) 4294967296 (iteE k 0 (K (.slice p len sz) h)
    (atPt p (newO (.cells false 0 ⟨el, false, true⟩ ys) h fun b h => K (.slice (some ⟨b, 0⟩) k sz) h) fun a o =>
      getO a h fun x => asCells x fun ro fz el' c => iteB ro (.bad 31) (iteE el'.t el (natK (Nat.add o (Nat.mul len sz)) fun m => iteN fz m
        (dropX o c fun c => takeX (Nat.mul len sz) c fun c => appX c ys fun c => setO a none h fun h => natK (Nat.sub fz o) fun fz => forceB (Bool.and el'.cl (Nat.beq o 0)) fun cl => newO (.cells false fz ⟨el, false, cl⟩ c) h fun b h => K (.slice (some ⟨b, 0⟩) n sz) h) (.bad 32)) (.bad 32)))) (.bad 33)
noncomputable def x_appV (el esz : Nat) (x y : XV) : IT := fun _ _ e h K => evX x e fun x => evX y e fun y => asSlice x fun p len sz => asSlice y fun q k sz' => iteE esz sz (iteE sz sz' (atPt q (iteE k 0 (appTX el p len sz k [] h K) (.bad 34)) fun b o => natK (Nat.mul k sz) fun ks => rdN b o ks h fun ys => appTX el p len sz k ys h K) (.bad 34)) (.bad 34)
noncomputable def x_appT (el : Nat) (x y : XV) : IT := fun _ _ e h K => evX x e fun x => evX y e fun y => asSlice x fun p len sz => asStr y fun s => iteE sz 1 (ofStr s fun ys => lenS s 0 fun k => appTX el p len sz k ys h K) (.bad 34)
noncomputable def x_appZ (el esz : Nat) (zs : List AV) (x y : XV) : IT := fun _ _ e h K => evX x e fun x => evX y e fun y => asSlice x fun p _ _ => asInt y fun _ k => natI k fun k => nonePt p (iteN 1 k (iteN (Nat.succ k) 4294967296 (repX k zs [] fun ys => newO (.cells false 0 ⟨el, false, true⟩ ys) h fun b h => K (.slice (some ⟨b, 0⟩) k esz) h) (.bad 33)) (.bad 33))
noncomputable def x_clr (esz : Nat) (zs : List AV) (x : XV) : IT := fun _ _ e h K => evX x e fun x => asSlice x fun p n sz => atPt p (K (.tuple []) h) fun b o => iteE esz sz (iteE n 0 (K (.tuple []) h) (repX n zs [] fun ys => wrN b o ys h fun h => K (.tuple []) h)) (.bad 34)
noncomputable def x_ust (u : Nat) (p n : XV) : IT := fun _ _ e h K => evX p e fun p => evX n e fun n => asInt n fun _ n => natI n fun n => iteN n 9223372036854775807 (iteE n 0 (asPtrO p fun _ => K (.str []) h) (asPtr p fun b o => getO b h fun x => asCells x fun ro fz el c => iteB ro (.bad 146) (iteB el.cl (iteE el.t u (dropX o c fun l => takeX n l fun l => toStr l fun s => natK (Nat.add o n) fun m => natK (Bool.rec (motive := fun _ => Nat) m fz (Nat.ble m fz)) fun fz => setO b (some (.cells false fz el c)) h fun h => K (.str s) h) (.bad 146)) (.bad 146)))) (.bad 146)
noncomputable def asIter (o : Option AObj) (K : Option Nat → Rs) : Rs :=
  Option.rec (motive := fun _ => (Option Nat → Rs) → Rs) (fun _ => .bad 70)
    (fun a K => AObj.rec (motive := fun _ => (Option Nat → Rs) → Rs) (fun _ _ _ _ _ => .bad 71) (fun _ _ _ => .bad 71) (fun r _ _ _ K => K r) (fun _ _ _ _ _ _ _ _ => .bad 71) (fun _ _ => .bad 71) (fun _ _ _ => .bad 71) a K) o K
noncomputable def asSiter (o : Option AObj) (K : Str → Nat → Rs) : Rs :=
  Option.rec (motive := fun _ => (Str → Nat → Rs) → Rs) (fun _ => .bad 72)
    (fun a K => AObj.rec (motive := fun _ => (Str → Nat → Rs) → Rs) (fun _ _ _ _ _ => .bad 73) (fun _ _ _ => .bad 73) (fun _ _ _ _ _ => .bad 73) (fun _ _ _ _ _ _ _ _ => .bad 73) (fun _ _ => .bad 73) (fun s pos K => K s pos) a K) o K
noncomputable def x_rngS (x : XV) : IT := fun _ _ e h K => evX x e fun x => asStr x fun s => newO (.siter s 0) h fun b h => K (.ptr (some ⟨b, 0⟩)) h
noncomputable def x_rngM (x : XV) : IT := fun _ _ e h K => evX x e fun x => asMap x fun m => Option.rec (motive := fun _ => XH → KV → Rs) (fun h K => newO (.iter none 0 [] 0) h fun b h => K (.ptr (some ⟨b, 0⟩)) h)
  (fun m h K => getO m h fun o => asMapO o fun _ clk => newO (.iter (some m) clk [] clk) h fun b h => K (.ptr (some ⟨b, 0⟩)) h) m h K
noncomputable def x_nxtS (x : XV) : IT := fun _ _ e h K => evX x e fun x => asPtr x fun b o => iteE o 0 (getO b h fun o => asSiter o fun s pos => lenS s 0 fun n => iteN n pos (K (.tuple [.bool false]) h)
  (dropS pos s fun l => List.rec (motive := fun _ => Rs) (.bad 74) (fun c _ _ => natK (UInt8.toNat c) fun c => iteN c 127 (natK (Nat.succ pos) fun p => setO b (some (.siter s p)) h fun h => K (.tuple [.bool true, .int .i64 (.ofNat pos), .int .i32 (.ofNat c)]) h) (.bad 75)) l)) (.bad 76)
noncomputable def x_nxtM (x : XV) : IT := fun _ _ e h K => evX x e fun x => asPtr x fun b o => iteE o 0 (getO b h fun o => asIter o fun r => Option.rec (motive := fun _ => XH → KV → Rs) (fun h K => K (.tuple [.bool false]) h)
  (fun m h K => getO m h fun o => asMapO o fun es _ => List.rec (motive := fun _ => XH → KV → Rs) (fun h K => K (.tuple [.bool false]) h) (fun _ _ _ _ _ => .bad 77) es h K) r h K) (.bad 76)
noncomputable def x_mks (el esz : Nat) (zs : List AV) (n m : XV) : IT := fun _ _ e h K => evX n e fun n => evX m e fun m => asInt n fun _ n => natI n fun n => asInt m fun _ m => natI m fun m => iteE n m (iteN n 65536 (repX n zs [] fun c => newO (.cells false 0 ⟨el, false, true⟩ c) h fun b h => K (.slice (some ⟨b, 0⟩) n esz) h) (.bad 78)) (.bad 79)
noncomputable def x_call (f : XV) (l : List XV) : IT := fun _ call e h K => evX f e fun f => evsX l e fun l => call 0 f l h K
noncomputable def x_bad (n : Nat) : IT := fun _ _ _ _ _ => .bad n
noncomputable def runI (i : XI) (la : LT) (call : Caller) (e : EV) (h : XH) (K : KV) : Rs :=
  XI.rec (motive := fun _ => LT → Caller → EV → XH → KV → Rs) x_mv x_pick x_ld1 x_ldN x_ld0 x_st1 x_stN x_st0 x_nilc x_binH x_binI x_binT x_binB x_binP x_binV x_binM x_binA x_not x_neg x_conv x_sameS x_p2u x_u2p x_b2s x_s2b x_fldA x_fldA0 x_fld1 x_fldN x_idxV x_idxP x_idxS x_idxA1 x_idxAN x_slS x_slV x_slP x_ext x_look x_mkf x_lenV x_lenS x_lenM x_max x_min x_capN x_sld
    x_alloc x_box1 x_boxN x_build x_bsl x_mapUp x_mapEn x_enSt x_mapDel x_mkMap x_appV x_appT x_appZ x_clr x_ust x_rngS x_rngM x_nxtS x_nxtM x_mks x_call x_bad i la call e h K

/-! ### From the program's operations -/
/-- A slot of a function that has N. -/
noncomputable def sd (N i : Nat) : XD := Bool.rec (motive := fun _ => XD) (.some .no .no) (.some (dig (Nat.div i 16)) (dig (Nat.mod i 16))) (Nat.ble (Nat.succ i) N)
noncomputable def sv (N : Nat) (x : Operand) : XV :=
  match x with
  | .tmp i => Bool.rec (motive := fun _ => XV) (.tmp .no .no) (.tmp (dig (Nat.div i 16)) (dig (Nat.mod i 16))) (Nat.ble (Nat.succ i) N)
  | .const v => .const (ofK v)
  | .func f => .const (.func (.func f) [] [])
  | .global _ => .const .dead
/-- An operand where a type is known: nil slices get their size. -/
noncomputable def svT (N : Nat) (ty : TT) (t : TypeId) (x : Operand) : XV :=
  match x with
  | .const (.slice none 0 0) => (match ty.find t with | some (.plain false [.slice sz] _) => .const (.slice none 0 sz) | _ => .const (.slice none 0 0))
  | x => sv N x
noncomputable def svs (N : Nat) (ty : TT) : List Operand → List TypeId → List XV
  | [], _ => []
  | x :: r, [] => sv N x :: svs N ty r []
  | x :: r, t :: s => svT N ty t x :: svs N ty r s
noncomputable def zerosOf (ks : List K1) : List AV := ks.map K1.zero
noncomputable def one1 (agg : Bool) (ks : List K1) (a : XI) (b : Nat → XI) (z : XI) : XI := match agg, ks with | false, _ => a | true, [] => z | true, ks => b ks.length
noncomputable def keyI (ty : TT) (mt : TypeId) (K : Bool → List K1 → AV → XI) : XI :=
  match ty.find mt with
  | some (.plain _ _ (.map kt et)) =>
    (match keyKs ty kt, ty.find et with
     | some (kagg, kks), some (.plain eagg eks _) => K kagg kks (mkv eagg (eks.map K1.zero))
     | _, _ => .bad 142)
  | _ => .bad 142
noncomputable def scall (N : Nat) (ty : TT) (c : Call) : XI :=
  match c.callee with
  | .value f => .call (sv N f) (svs N ty c.args.toList c.argTypes.toList)
  | .builtin b =>
    (match b, c.args.toList, c.argTypes.toList with
     | .len, [x], [t] => (match ty.find t with | some (.plain false [.slice _] _) => .lenV (sv N x) | some (.plain _ _ (.map _ _)) => .lenM (sv N x) | some (.plain false [.str] _) => .lenS (sv N x) | _ => .bad 40)
     | .max, [x, y], _ => .maxI (sv N x) (sv N y)
     | .min, [x, y], _ => .minI (sv N x) (sv N y)
     | .cap, [x], [t] => (match ty.find t with | some (.plain false [.slice _] (.slice _ _)) => .capN (sv N x) | _ => .bad 40)
     | .append, [x, y], [t, t2] =>
       (match ty.find t with
        | some (.plain false _ (.slice esz el)) => (match ty.find t2 with
          | some (.plain false [.slice _] _) => .appV el esz (sv N x) (sv N y)
          | some (.plain false [.str] _) => (match esz with | 1 => .appT el (sv N x) (sv N y) | _ => .bad 41)
          | some (.plain false [.int _] _) => (match ty.find el with | some (.plain _ ks _) => (match Nat.beq ks.length esz && Nat.blt 0 esz with | true => .appZ el esz (zerosOf ks) (sv N x) (sv N y) | false => .bad 41) | _ => .bad 41)
          | _ => .bad 41)
        | _ => .bad 41)
     | .delete, [m, k], [t, _] => keyI ty t fun agg ks _ => .mapDel agg ks (sv N m) (sv N k)
     | .clear, [x], [t] => (match ty.find t with | some (.plain false _ (.slice esz el)) => (match ty.find el with | some (.plain _ ks _) => (match Nat.beq ks.length esz with | true => .clr esz (zerosOf ks) (sv N x) | false => .bad 42) | _ => .bad 42) | _ => .bad 42)
     | .unsafeSliceData, [x], _ => .sld (sv N x)
     | .unsafeString, [p, n], [t, _] => (match ty.find t with | some (.plain false [.ptr] (.ptr u)) => (match ty.find u with | some (.plain false [.int .u8] _) => .ust u (sv N p) (sv N n) | _ => .bad 43) | _ => .bad 43)
     | _, _, _ => .bad 43)
  | _ => .bad 43
noncomputable def partsX (N : Nat) (place : Nat → Option (Nat × Nat)) : List (Nat × Operand) → Option (List (Nat × Nat × XV))
  | [] => some []
  | (i, x) :: r => (match place i, partsX N place r with | some (off, size), some l => some ((off, size, sv N x) :: l) | _, _ => none)
noncomputable def sbin2 (N : Nat) (ty : TT) (op : BinOp) (t : TypeId) (x y : Operand) : XI :=
    (match ty.find t with
     | some (.plain false [.int _] _) => .binI op (sv N x) (sv N y)
     | some (.plain false [.str] _) => .binT op (sv N x) (sv N y)
     | some (.plain false [.bool] _) => .binB op (sv N x) (sv N y)
     | some (.plain false [.ptr] (.ptr _)) => .binP op (sv N x) (sv N y)
     | some (.plain false [.slice _] _) => .binV op (sv N x) (sv N y)
     | some (.plain false [.map] _) => .binM op (sv N x) (sv N y)
     | some (.plain true ks (.struct _ true)) => .binA ks op (sv N x) (sv N y)
     | some (.plain true (k :: _) (.arr n 1 false)) => (match k.basic with | true => .binA (List.replicate n k) op (sv N x) (sv N y) | false => .bad 45)
     | _ => .bad 45)
noncomputable def sbin (N : Nat) (ty : TT) (op : BinOp) (t : TypeId) (x y : Operand) : XI :=
  match op with
  | .shl => .binH .shl (sv N x) (sv N y)
  | .shr => .binH .shr (sv N x) (sv N y)
  | op => sbin2 N ty op t x y
noncomputable def sconv (N : Nat) (ty : TT) (s d : TypeId) (x : Operand) : XI :=
  match ty.find s, ty.find d with
  | some (.plain false [.int _] _), some (.plain false [.int k] .other) => .conv k (sv N x)
  | some (.plain false [.str] _), some (.plain false [.str] .other) => .sameS (sv N x)
  | some (.plain false [.slice _] (.slice 1 el)), some (.plain false [.str] .other) => (match ty.find el with | some (.plain false [.int .u8] _) => .b2s (sv N x) | _ => .bad 45)
  | some (.plain false [.str] _), some (.plain false _ (.slice 1 el)) => (match ty.find el with | some (.plain false [.int .u8] _) => .s2b el (sv N x) | _ => .bad 45)
  | some (.plain false [.ptr] (.ptr e)), some .uptr => (match ty.find e with | some (.plain _ (_ :: _) _) => .p2u (sv N x) | _ => .bad 45)
  | some .uptr, some (.plain false [.ptr] (.ptr e)) => .u2p e (sv N x)
  | _, _ => .bad 45
noncomputable def si (N : Nat) (ty : TT) (op : Op) (oty : TypeId) : XI :=
  match op with
  | .move x => .mv (sv N x)
  | .assign x => .mv (svT N ty oty x)
  | .pick c a b => .pick (sv N c) (sv N a) (sv N b)
  | .load t p => (match ty.find t with | some (.plain agg ks _) => one1 agg ks (.ld1 (sv N p)) (fun n => .ldN n (sv N p)) (.ld0 (sv N p)) | _ => .bad 44)
  | .store t p x => (match ty.find t with | some (.plain agg ks _) => one1 agg ks (.st1 (sv N p) (sv N x)) (fun n => .stN n (sv N p) (sv N x)) (.st0 (sv N p) (sv N x)) | _ => .bad 44)
  | .nilCheck x => .nilc (sv N x)
  | .binOp op t x y _ => sbin N ty op t x y
  | .unOp .not _ x => .notI (sv N x)
  | .unOp .neg _ x => .negI (sv N x)
  | .convert s d x => sconv N ty s d x
  | .fieldAddr t p i => (match ty.find t with | some (.plain _ _ (.struct fs _)) => (match fs[i]? with | some (off, size, _) => (match Nat.beq size 0 with | true => .fldA0 ty (sv N p) | false => .fldA off (sv N p)) | none => .bad 46) | _ => .bad 46)
  | .field t x i => (match ty.find t with | some (.plain _ _ (.struct fs _)) => (match fs[i]? with | some (off, size, agg) => (match agg with | true => .fldN off size (sv N x) | false => .fld1 off (sv N x)) | none => .bad 46) | _ => .bad 46)
  | .indexAddr t x i => (match ty.find t with | some (.plain _ _ (.slice esz _)) => .idxV esz (sv N x) (sv N i) | some (.plain _ _ (.arr len esz _)) => .idxP len esz (sv N x) (sv N i) | _ => .bad 47)
  | .index t x i => (match ty.find t with | some (.plain false [.str] _) => .idxS (sv N x) (sv N i) | some (.plain _ _ (.arr len esz agg)) => (match agg with | true => .idxAN len esz (sv N x) (sv N i) | false => .idxA1 len esz (sv N x) (sv N i)) | _ => .bad 47)
  | .slice t x lo hi none => (match ty.find t with | some (.plain false [.str] _) => .slS (sv N x) (lo.map (sv N)) (hi.map (sv N)) | some (.plain _ _ (.slice esz _)) => .slV esz (sv N x) (lo.map (sv N)) (hi.map (sv N)) | some (.plain _ _ (.arr n esz _)) => .slP n esz (sv N x) (lo.map (sv N)) (hi.map (sv N)) | _ => .bad 48)
  | .extract x i => .ext (sv N x) i
  | .lookup t x k ok => keyI ty t fun agg ks z => .look agg ks z (sv N x) (sv N k) ok
  | .makeFunc (.func f) l1 l2 => .mkf f (l1.toList.map (sv N)) (l2.toList.map (sv N))
  | .alloc t => (match ty.find t with | some (.plain _ ks _) => .alloc t (zerosOf ks) | _ => .bad 49)
  | .box t x => (match ty.find t with | some (.plain agg ks _) => one1 agg ks (.box1 t (sv N x)) (fun n => .boxN t n (sv N x)) (.boxN t 0 (sv N x)) | _ => .bad 49)
  | .build t ps => (match ty.find t with
    | some (.plain true ks (.struct fs _)) => (match partsX N (fun i => (fs[i]?).map fun f => (f.1, f.2.1)) ps.toList with | some l => .build (zerosOf ks) l | none => .bad 50)
    | some (.plain true ks (.arr _ esz _)) => (match partsX N (fun i => some (i * esz, esz)) ps.toList with | some l => .build (zerosOf ks) l | none => .bad 50)
    | _ => .bad 50)
  | .buildSlice t n ps => (match ty.find t with
    | some (.plain _ _ (.slice esz el)) => (match ty.find el with
      | some (.plain _ ks _) => (match Nat.ble (n * esz) 16777216 && Nat.beq ks.length esz with | true => (match partsX N (fun i => some (i * esz, esz)) ps.toList with | some l => .bsl el n esz (zerosOf ks) l | none => .bad 50) | false => .bad 50)
      | _ => .bad 50)
    | _ => .bad 50)
  | .mapUpdate t m k x => keyI ty t fun agg ks _ => .mapUp agg ks (sv N m) (sv N k) (sv N x)
  | .insert t m k x => keyI ty t fun agg ks _ => .mapUp agg ks (sv N m) (sv N k) (sv N x)
  | .mapEntry t m k => keyI ty t fun agg ks z => .mapEn agg ks z (sv N m) (sv N k)
  | .entryStore _ m s x => .enSt (sv N m) (sv N s) (sv N x)
  | .makeMap _ none => .mkMap
  | .range t x => (match ty.find t with | some (.plain false [.str] _) => .rngS (sv N x) | some (.plain _ _ (.map _ _)) => .rngM (sv N x) | _ => .bad 81)
  | .next it s => (match s with | true => .nxtS (sv N it) | false => .nxtM (sv N it))
  | .makeSlice t n m => (match ty.find t with
    | some (.plain _ _ (.slice esz el)) => (match ty.find el with | some (.plain _ ks _) => (match Nat.beq ks.length esz with | true => .mks el esz (zerosOf ks) (sv N n) (sv N m) | false => .bad 50) | _ => .bad 50)
    | _ => .bad 50)
  | .call c => scall N ty c
  | _ => .bad 51

/-! ### Regions, code, calls -/
inductive XO where
  | u (d : XD) (i : XI)
  | g (x : XV) (want : Bool) (d : XD) (i : XI)
  | dfr (x : XV)
noncomputable def sdo (N : Nat) (d : Option Tmp) : XD := match d with | some i => sd N i | none => .none
noncomputable def so (N : Nat) (ty : TT) (all : List Oper) (o : Oper) : XO :=
  match o.guard with
  | none => (match o.op with | .defer c => (match o.dst, c.callee, c.args.toList with | none, .value f, [] => .dfr (sv N f) | _, _, _ => .u .none (.bad 82)) | _ => .u (sdo N o.dst) (si N ty o.op o.type))
  | some (j, want) => (match (all[j]?).bind (·.dst) with | some d => .g (sv N (.tmp d)) want (sdo N o.dst) (si N ty o.op o.type) | none => .u .none (.bad 52))
noncomputable def sos (N : Nat) (ty : TT) (all : List Oper) : List Oper → List XO
  | [] => []
  | o :: r => so N ty all o :: sos N ty all r
abbrev KE := EV → XH → Rs
noncomputable def dfrX (v : AV) (k0 : Rs) (k1 : List AV → Rs) (k2 : Nat → Rs) : Rs :=
  AV.rec (motive_1 := fun _ => Rs → (List AV → Rs) → (Nat → Rs) → Rs) (motive_2 := fun _ => Unit)
    (fun _ _ _ _ => .bad 83) (fun _ _ _ _ _ => .bad 83) (fun _ _ _ _ => .bad 83) (fun _ _ _ _ => .bad 83) (fun _ _ _ => .bad 83) (fun _ _ _ _ _ _ => .bad 83)
    (fun r _ _ k2 => Option.rec (motive := fun _ => (Nat → Rs) → Rs) (fun _ => .bad 83) (fun l k2 => k2 l) r k2) (fun _ _ _ _ _ _ _ _ => .bad 83) (fun _ _ _ => .bad 83) (fun _ _ _ _ _ _ => .bad 83) (fun _ _ _ => .bad 83)
    (fun _ _ _ _ _ => .bad 83) (fun l _ _ k1 _ => k1 l) (fun k0 _ _ => k0) () (fun _ _ _ _ => ()) v k0 k1 k2
/-- The marks and deferred calls of an activation stand in slot 255: none; a pack; or the loop of which it is a round. -/
noncomputable def pushD (v : AV) (e : EV) (K : EV → Rs) : Rs :=
  selE .d15 e fun r => selA .d15 r fun u => dfrX u (updA .d15 r (.tuple [v]) fun r => updE .d15 e r K) (fun l => updA .d15 r (.tuple (v :: l)) fun r => updE .d15 e r K) (fun _ => .bad 84)
noncomputable def runO (la : LT) (o : XO) (call : Caller) (e : EV) (h : XH) (K : KE) : Rs :=
  XO.rec (motive := fun _ => LT → Caller → EV → XH → KE → Rs) (fun d i la call e h K => runI i la call e h fun v h => putX d v e fun e => K e h)
    (fun x w d i la call e h K => evX x e fun b => guardX b w (runI i la call e h fun v h => putX d v e fun e => K e h) (putX d (.tuple []) e fun e => K e h)) (fun x _ _ e h K => evX x e fun v => asCall v (fun f l1 l2 => pushD (.func (.func f) l1 l2) e fun e => K e h) (fun _ _ _ => .bad 94)) o la call e h K
noncomputable def runOs (la : LT) (l : List XO) (call : Caller) (e : EV) (h : XH) (K : KE) : Rs :=
  List.rec (motive := fun _ => LT → Caller → EV → XH → KE → Rs) (fun _ _ e h K => K e h) (fun o _ ih la call e h K => runO la o call e h fun e h => ih la call e h K) l la call e h K
/-! ### Regions that draw their order -/
noncomputable def eqPt (p q : Option Pt) (R : Rs) : Rs :=
  Option.rec (motive := fun _ => Option Pt → Rs → Rs) (fun q R => Option.rec (motive := fun _ => Rs) R (fun _ => .bad 150) q) (fun p q R => Option.rec (motive := fun _ => Rs) (.bad 150) (fun q => iteE p.b q.b (iteE p.o q.o R (.bad 150)) (.bad 150)) q) p q R
noncomputable def eqON (p q : Option Nat) (R : Rs) : Rs :=
  Option.rec (motive := fun _ => Option Nat → Rs → Rs) (fun q R => Option.rec (motive := fun _ => Rs) R (fun _ => .bad 150) q) (fun p q R => Option.rec (motive := fun _ => Rs) (.bad 150) (fun q => iteE p q R (.bad 150)) q) p q R
noncomputable def eqAV (v w : AV) (R : Rs) : Rs :=
  AV.rec (motive_1 := fun _ => AV → Rs → Rs) (motive_2 := fun _ => List AV → Rs → Rs)
    (fun b w R => asBool w (Bool.rec (motive := fun _ => Rs) (.bad 151) R b) (Bool.rec (motive := fun _ => Rs) R (.bad 151) b))
    (fun k n w R => asInt w fun k' n' => iteE (kindN k) (kindN k') (iteB (eqI n n') R (.bad 151)) (.bad 151))
    (fun s w R => asStr w fun t => iteB (eqS s t) R (.bad 151))
    (fun p w R => asPtrO w fun q => eqPt p q R)
    (fun _ _ => .bad 151)
    (fun p n sz w R => asSlice w fun p' n' sz' => iteE n n' (iteE sz sz' (eqPt p p' R) (.bad 151)) (.bad 151))
    (fun r w R => asMap w fun r' => eqON r r' R)
    (fun _ _ _ _ _ _ _ => .bad 151)
    (fun _ _ => .bad 151)
    (fun _ _ _ _ _ => .bad 151)
    (fun _ _ => .bad 151)
    (fun _ ih w R => asAgg w fun m => ih m R)
    (fun _ ih w R => asTup w fun m => ih m R)
    (fun _ _ => .bad 151)
    (fun m R => List.rec (motive := fun _ => Rs) R (fun _ _ _ => .bad 151) m)
    (fun _ _ iha ihl m R => List.rec (motive := fun _ => Rs) (.bad 151) (fun b r _ => iha b (ihl r R)) m) v w R
inductive XDO where
  | mk (o : XO) (bit mask : Nat) (light : Bool)
inductive XFact where
  | mk (bit : Nat) (i : XI) (e : EV) (v : AV)
inductive XPk where
  | mk (bit b : Nat) (o : AObj)
noncomputable def chkF (fs : List XFact) (la : LT) (call : Caller) (mask : Nat) (h : XH) (R : Rs) : Rs :=
  List.rec (motive := fun _ => LT → Caller → Nat → XH → Rs → Rs) (fun _ _ _ _ R => R)
    (fun f _ ih la call mask h R => XFact.rec (motive := fun _ => (LT → Caller → Nat → XH → Rs → Rs) → LT → Caller → Nat → XH → Rs → Rs)
      (fun bit i e v ih la call mask h R => iteE (Nat.land mask bit) 0 (runI i la call e h fun w _ => eqAV v w (ih la call mask h R)) (ih la call mask h R)) f ih la call mask h R) fs la call mask h R
noncomputable def matX (pk : Option XPk) (mask : Nat) (h : XH) (K : Option XPk → XH → Rs) : Rs :=
  Option.rec (motive := fun _ => Nat → XH → (Option XPk → XH → Rs) → Rs) (fun _ h K => K none h)
    (fun p mask h K => XPk.rec (motive := fun _ => Nat → XH → (Option XPk → XH → Rs) → Rs) (fun bit b o mask h K => iteE (Nat.land mask bit) 0 (K (some (.mk bit b o)) h) (setO b (some o) h fun h => K none h)) p mask h K) pk mask h K
abbrev TD2 := LT → Caller → EV → XH → List XFact → Option XPk → KE → Rs
noncomputable def lightD (o : XO) (bit : Nat) (ih : TD2) : TD2 :=
  XO.rec (motive := fun _ => Nat → TD2 → TD2) (fun d i bit ih la call e h fs pk K => runI i la call e h fun v h => putX d v e fun e' => ih la call e' h (.mk bit i e v :: fs) pk K)
    (fun x w d i bit ih la call e h fs pk K => evX x e fun b => guardX b w (runI i la call e h fun v h => putX d v e fun e' => ih la call e' h (.mk bit i e v :: fs) pk K) (putX d (.tuple []) e fun e => ih la call e h fs pk K))
    (fun _ _ _ _ _ _ _ _ _ _ => .bad 152) o bit ih
noncomputable def heavyD (o : XO) (mask : Nat) (ih : TD2) : TD2 :=
  XO.rec (motive := fun _ => Nat → TD2 → TD2) (fun d i mask ih la call e h fs pk K => matX pk mask h fun pk h => runI i la call e h fun v h => chkF fs la call mask h (putX d v e fun e => ih la call e h fs pk K))
    (fun x w d i mask ih la call e h fs pk K => evX x e fun b => guardX b w (matX pk mask h fun pk h => runI i la call e h fun v h => chkF fs la call mask h (putX d v e fun e => ih la call e h fs pk K)) (putX d (.tuple []) e fun e => ih la call e h fs pk K))
    (fun _ _ _ _ _ _ _ _ _ _ => .bad 152) o mask ih
noncomputable def runD (l : List XDO) : TD2 :=
  List.rec (motive := fun _ => TD2) (fun _ _ e h _ pk K => Option.rec (motive := fun _ => Rs) (K e h) (fun _ => .bad 153) pk)
    (fun x _ ih => XDO.rec (motive := fun _ => TD2 → TD2) (fun o bit mask light ih => Bool.rec (motive := fun _ => TD2) (heavyD o mask ih) (lightD o bit ih) light) x ih) l
noncomputable def runP (d : XD) (bit : Nat) (o : AObj) (l : List XDO) (la : LT) (call : Caller) (e : EV) (h : XH) (K : KE) : Rs :=
  XH.rec (motive := fun _ => XD → Nat → AObj → List XDO → LT → Caller → EV → KE → Rs) (fun n t d bit o l la call e K => natK (Nat.succ n) fun n1 => putX d (.ptr (some ⟨n, 0⟩)) e fun e => runD l la call e ⟨n1, t⟩ [] (some (.mk bit n o)) K) h d bit o l la call e K
/-- An order: what looks as early as may be. -/
def ordG (ty : TT) (ops : List Oper) (masks : List Nat) : Nat → Nat → List Nat
  | 0, _ => []
  | f + 1, done =>
    let cand := (List.range ops.length).filter fun i => !(done.testBit i) && Nat.beq (Nat.land (masks.getD i 0) done) (masks.getD i 0)
    match cand.find? (fun i => match ops[i]? with | some o => isLight ty o.op | none => false) with
    | some i => i :: ordG ty ops masks f (Nat.lor done (2 ^ i))
    | none => (match cand with | i :: _ => i :: ordG ty ops masks f (Nat.lor done (2 ^ i)) | [] => [])
def drawChkS (ty : TT) (ops : List Oper) (masks : List Nat) (pk : Option Nat) (L : List Nat) : Bool :=
  edgesBack ops 0 && ((List.range ops.length).all (fun i => L.contains i) && (L.all (fun i => decide (i < ops.length)) && pairsS ty ops masks pk L))
noncomputable def sdos (N : Nat) (ty : TT) (ops : List Oper) (masks : List Nat) : List Nat → List XDO
  | [] => []
  | i :: r => (match ops[i]? with | some o => .mk (so N ty ops o) (2 ^ i) (masks.getD i 0) (isLight ty o.op) | none => .mk (.u .none (.bad 154)) 0 0 true) :: sdos N ty ops masks r
def isAlloc (o : Oper) : Bool := match o.op with | .alloc _ => true | _ => false

inductive XC where
  | skip
  | region (l : List XO)
  | regionD (l : List XDO)
  | regionP (d : XD) (bit : Nat) (o : AObj) (l : List XDO)
  | seq (a b : XC)
  | cond (c : XV) (a b : XC)
  | block (id : Nat) (a : XC)
  | loop (a : XC)
  | exit (id : Nat)
  | ret
  | rf (g : XV) (ps : Array Tmp) (asg body : Code)
  | bad
noncomputable def spocket (N : Nat) (ty : TT) (ops : List Oper) (masks : List Nat) (p : Nat) : XC :=
  match ops[p]? with
  | some o => (match o.guard, o.op with
    | none, .alloc t => (match ty.find t with
      | some (.plain _ ks _) => (match drawChkS ty ops masks (some p) (p :: ordG ty ops masks ops.length (2 ^ p)) with
        | true => .regionP (sdo N o.dst) (2 ^ p) (.cells false 0 ⟨t, true, true⟩ (ks.map K1.zero)) (sdos N ty ops masks (ordG ty ops masks ops.length (2 ^ p)))
        | false => .bad)
      | _ => .bad)
    | _, _ => .bad)
  | none => .bad
noncomputable def sdraw (N : Nat) (ty : TT) (ops : List Oper) (masks : List Nat) : XC :=
  match drawChkS ty ops masks none (List.range ops.length) with
  | true => .regionD (sdos N ty ops masks (List.range ops.length))
  | false => (match drawChkS ty ops masks none (ordG ty ops masks ops.length 0) with
    | true => .regionD (sdos N ty ops masks (ordG ty ops masks ops.length 0))
    | false => (match ops.findIdx? isAlloc with | some p => spocket N ty ops masks p | none => .bad))
noncomputable def sreg (N : Nat) (ty : TT) (ops : List Oper) (draw : Bool) : XC :=
  match draw with
  | false => .region (sos N ty ops ops)
  | true => sdraw N ty ops (masksOf ops)
noncomputable def sc (N : Nat) (ty : TT) (c : Code) : XC :=
  Code.rec (motive := fun _ => XC) .skip (fun _ ops draw => sreg N ty ops.toList draw) (fun _ _ a b => .seq a b) (fun c _ _ a b => .cond (sv N c) a b) (fun id _ a => .block id a) (fun _ a => .loop a)
    (fun g ps asg body _ _ => .rf (sv N g) ps asg body) (fun id => .exit id) (fun _ a => a) (fun _ => .skip) (fun _ => .bad) .ret (fun _ => .bad) c
abbrev KX := Nat → EV → XH → Rs
abbrev CT := Caller → EV → XH → KE → KX → KE → Rs
noncomputable def loopX (body : CT) (call : Caller) (n : Nat) (e : EV) (h : XH) (X : KX) (R : KE) : Rs :=
  Nat.rec (motive := fun _ => CT → Caller → EV → XH → KX → KE → Rs) (fun _ _ _ _ _ _ => .bad 53) (fun _ ih body call e h X R => body call e h (fun e h => ih body call e h X R) X R) n body call e h X R
noncomputable def asLoop (o : Option AObj) (K : LoopState → Option Code → List AV → Array Tmp → Code → Code → Nat → Rs) : Rs :=
  Option.rec (motive := fun _ => (LoopState → Option Code → List AV → Array Tmp → Code → Code → Nat → Rs) → Rs) (fun _ => .bad 85)
    (fun a K => AObj.rec (motive := fun _ => (LoopState → Option Code → List AV → Array Tmp → Code → Code → Nat → Rs) → Rs) (fun _ _ _ _ _ => .bad 86) (fun _ _ _ => .bad 86) (fun _ _ _ _ _ => .bad 86) (fun st pend tmps ps asg body d K => K st pend tmps ps asg body d) (fun _ _ => .bad 86) (fun _ _ _ => .bad 86) a K) o K
/-- The slots of an activation, as a list: those from number n - k on. -/
noncomputable def slotsX (n : Nat) (e : EV) (l : List AV) (K : List AV → Rs) : Rs :=
  Nat.rec (motive := fun _ => EV → List AV → (List AV → Rs) → Rs) (fun _ l K => K l) (fun m ih e l K => selE (dig (Nat.div m 16)) e fun r => selA (dig (Nat.mod m 16)) r fun v => ih e (v :: l) K) n e l K
/-- The block for deferred calls, and the activation's slots, where a loop over a function begins. -/
noncomputable def enterX (e : EV) (h : XH) (K : Nat → EV → XH → Rs) : Rs :=
  selE .d15 e fun r => selA .d15 r fun u => dfrX u (newO (.dfr true) h fun d h => pushD (.map (some d)) e fun e => K d e h) (fun _ => newO (.dfr true) h fun d h => pushD (.map (some d)) e fun e => K d e h)
    (fun l => getO l h fun o => asLoop o fun _ _ _ _ _ _ d => K d e h)
noncomputable def runRF (N : Nat) (g : XV) (ps : Array Tmp) (asg body : Code) (call : Caller) (e : EV) (h : XH) (Kn : KE) (X : KX) (R : KE) : Rs :=
  evX g e fun g => slotsX N e [] fun tm => enterX e h fun d e h => newO (.loop .ready none tm ps asg body d) h fun l h =>
    call 1 g [.func (.yield l) [] []] h fun _ h => getO l h fun o => asLoop o fun st pend tm ps asg body d =>
      LoopState.rec (motive := fun _ => Rs → Rs) (fun R => R) (fun _ => .bad 87) (fun R => R) (fun R => R) st
        (setO l (some (.loop .exhausted pend tm ps asg body d)) h fun h =>
          Option.rec (motive := fun _ => EV → XH → KE → KX → KE → Rs) (fun e h Kn _ _ => Kn e h)
            (fun c e h _ X R => Code.rec (motive := fun _ => EV → XH → KX → KE → Rs) (fun _ _ _ _ => .bad 88) (fun _ _ _ _ _ _ _ => .bad 88) (fun _ _ _ _ _ _ _ _ => .bad 88) (fun _ _ _ _ _ _ _ _ _ => .bad 88) (fun _ _ _ _ _ _ _ => .bad 88) (fun _ _ _ _ _ _ => .bad 88)
              (fun _ _ _ _ _ _ _ _ _ _ => .bad 88) (fun id e h X _ => X id e h) (fun _ _ _ _ _ _ => .bad 88) (fun _ _ _ _ _ => .bad 88) (fun _ _ _ _ _ => .bad 88) (fun e h _ R => R e h) (fun _ _ _ _ _ => .bad 88) c e h X R) pend e h Kn X R)
noncomputable def runC (la : LT) (N : Nat) (c : XC) (call : Caller) (e : EV) (h : XH) (Kn : KE) (X : KX) (R : KE) : Rs :=
  XC.rec (motive := fun _ => LT → Nat → Caller → EV → XH → KE → KX → KE → Rs)
    (fun _ _ _ e h N _ _ => N e h)
    (fun l la _ call e h N _ _ => runOs la l call e h N)
    (fun l la _ call e h N _ _ => runD l la call e h [] none N)
    (fun d bit o l la _ call e h N _ _ => runP d bit o l la call e h N)
    (fun _ _ a b la n call e h N X R => a la n call e h (fun e h => b la n call e h N X R) X R)
    (fun c _ _ a b la n call e h N X R => evX c e fun v => asBool v (a la n call e h N X R) (b la n call e h N X R))
    (fun id _ a la n call e h N X R => a la n call e h N (fun i e h => iteE i id (N e h) (X i e h)) R)
    (fun _ a la n call e h _ X R => loopX (a la n) call 5000 e h X R)
    (fun id _ _ _ e h _ X _ => X id e h)
    (fun _ _ _ e h _ _ R => R e h)
    (fun g ps asg body _ n call e h Kn X R => runRF n g ps asg body call e h Kn X R)
    (fun _ _ _ _ _ _ _ _ => .bad 54) c la N call e h Kn X R
/-- Which functions stand for themselves: their numbers, and what they are. -/
inductive FT where
  | leaf
  | node (l : FT) (k : Nat) (f : Func) (r : FT)
noncomputable def FT.find : FT → Nat → Option Func
  | .leaf, _ => none
  | .node l k f r, n => bif Nat.beq n k then some f else bif Nat.blt n k then l.find n else r.find n
inductive XR where
  | tmp (x : XV)
  | c1 (x : XV)
  | cN (n : Nat) (x : XV)
  | bad
inductive XB where
  | code (N : Nat) (c : XC) (rs : List XR)
  | ext (k : Nat)
  | bad
noncomputable def sr (N : Nat) (ty : TT) : List ResultVar → List XR
  | [] => []
  | .tmp i :: r => .tmp (sv N (.tmp i)) :: sr N ty r
  | .cell a t :: r => (match ty.find t with | some (.plain false _ _) => .c1 (sv N (.tmp a)) | some (.plain true ks _) => .cN ks.length (sv N (.tmp a)) | _ => .bad) :: sr N ty r
noncomputable def extOf : List (Nat × Nat) → Nat → Nat
  | [], _ => 0
  | (a, b) :: r, n => bif Nat.beq a n then b else extOf r n
noncomputable def sf (ty : TT) (ft : FT) (ex : List (Nat × Nat)) (f : Nat) : XB :=
  match ft.find f with
  | none => .bad
  | some fn => (match fn.body with | none => .ext (extOf ex f) | some c => .code fn.ntmps (sc fn.ntmps ty c) (sr fn.ntmps ty fn.results.toList))
noncomputable def resX (l : List XR) (e : EV) (h : XH) (K : List AV → Rs) : Rs :=
  List.rec (motive := fun _ => EV → XH → (List AV → Rs) → Rs) (fun _ _ K => K [])
    (fun x _ ih e h K => XR.rec (motive := fun _ => (EV → XH → (List AV → Rs) → Rs) → EV → XH → (List AV → Rs) → Rs)
      (fun x ih e h K => evX x e fun v => ih e h fun r => K (v :: r))
      (fun x ih e h K => evX x e fun v => asPtr v fun b o => rd1 b o h fun v => ih e h fun r => K (v :: r))
      (fun n x ih e h K => evX x e fun v => asPtr v fun b o => rdN b o n h fun l => ih e h fun r => K (.agg l :: r))
      (fun _ _ _ _ => .bad 95) x ih e h K) l e h K
noncomputable def oneOfX (l : List AV) (K : AV → Rs) : Rs :=
  List.rec (motive := fun _ => (AV → Rs) → Rs) (fun K => K (.tuple [])) (fun a r _ K => List.rec (motive := fun _ => AV → (AV → Rs) → Rs) (fun a K => K a) (fun b r _ a K => K (.tuple (a :: b :: r))) r a K) l K
/-- The slots, from one on. -/
noncomputable def argsX (N : Nat) (l : List AV) (n : Nat) (e : EV) (K : EV → Rs) : Rs :=
  List.rec (motive := fun _ => Nat → EV → (EV → Rs) → Rs) (fun _ e K => K e) (fun v _ ih n e K => putX (sd N n) v e fun e => natK (Nat.succ n) fun n => ih n e K) l n e K
noncomputable def z1 : N16 AV := N16.all .dead
noncomputable def z2 : EV := N16.all z1
noncomputable def cntX (c : Nat) (s : Str) (n : Nat) (K : Nat → Rs) : Rs :=
  List.rec (motive := fun _ => Nat → Nat → (Nat → Rs) → Rs) (fun _ n K => K n) (fun x _ ih c n K => iteE (UInt8.toNat x) c (natK (Nat.succ n) fun n => ih c n K) (ih c n K)) s c n K
noncomputable def idxBX (c : Nat) (s : Str) (n : Nat) (Kn : Rs) (K : Nat → Rs) : Rs :=
  List.rec (motive := fun _ => Nat → Nat → Rs → (Nat → Rs) → Rs) (fun _ _ Kn _ => Kn) (fun x _ ih c n Kn K => iteE (UInt8.toNat x) c (K n) (natK (Nat.succ n) fun n => ih c n Kn K)) s c n Kn K
noncomputable def preX (c s : Str) : Bool :=
  List.rec (motive := fun _ => Str → Bool) (fun _ => true) (fun a _ ih m => List.rec (motive := fun _ => UInt8 → (Str → Bool) → Bool) (fun _ _ => false) (fun b r _ a ih => Bool.rec (motive := fun _ => Bool) false (ih r) (Nat.beq (UInt8.toNat a) (UInt8.toNat b))) m a ih) c s
noncomputable def idxSX (c s : Str) (n : Nat) (Kn : Rs) (K : Nat → Rs) : Rs :=
  List.rec (motive := fun _ => Str → Nat → Rs → (Nat → Rs) → Rs) (fun c n Kn K => iteB (preX c []) (K n) Kn) (fun x r ih c n Kn K => iteB (preX c (x :: r)) (K n) (natK (Nat.succ n) fun n => ih c n Kn K)) s c n Kn K
noncomputable def hd (l : List AV) (K : AV → List AV → Rs) : Rs := List.rec (motive := fun _ => (AV → List AV → Rs) → Rs) (fun _ => .bad 55) (fun a r _ K => K a r) l K
noncomputable def nilL (l : List AV) (R : Rs) : Rs := List.rec (motive := fun _ => Rs) R (fun _ _ _ => .bad 99) l
noncomputable def extX (k : Nat) (args : List AV) (h : XH) (K : KV) : Rs :=
  iteE k 1 (hd args fun x r => List.rec (motive := fun _ => Rs) (K x h) (fun _ _ _ => .bad 98) r)
  (iteE k 5 (hd args fun s r => asStr s fun s => hd r fun c r => asStr c fun c => nilL r (iteB (ltS s c) (K (.int .i64 (.negSucc 0)) h) (iteB (eqS s c) (K (.int .i64 (.ofNat 0)) h) (K (.int .i64 (.ofNat 1)) h)))) (.bad (1000 + k)))
noncomputable def isDfr (o : Option AObj) (R : Rs) : Rs :=
  Option.rec (motive := fun _ => Rs → Rs) (fun _ => .bad 96)
    (fun a R => AObj.rec (motive := fun _ => Rs → Rs) (fun _ _ _ _ _ => .bad 97) (fun _ _ _ => .bad 97) (fun _ _ _ _ _ => .bad 97) (fun _ _ _ _ _ _ _ _ => .bad 97) (fun b R => Bool.rec (motive := fun _ => Rs) (.bad 97) R b) (fun _ _ _ => .bad 97) a R) o R
/-- The deferred calls, and the marks, at an activation's end. -/
noncomputable def dfrsX (l : List AV) (call : Caller) (h : XH) (K : XH → Rs) : Rs :=
  List.rec (motive := fun _ => Caller → XH → (XH → Rs) → Rs) (fun _ h K => K h)
    (fun v _ ih call h K => AV.rec (motive_1 := fun _ => (Caller → XH → (XH → Rs) → Rs) → Caller → XH → (XH → Rs) → Rs) (motive_2 := fun _ => Unit)
      (fun _ _ _ _ _ => .bad 89) (fun _ _ _ _ _ _ => .bad 89) (fun _ _ _ _ _ => .bad 89) (fun _ _ _ _ _ => .bad 89) (fun _ _ _ _ => .bad 89) (fun _ _ _ _ _ _ _ => .bad 89)
      (fun r ih call h K => Option.rec (motive := fun _ => (Caller → XH → (XH → Rs) → Rs) → Caller → XH → (XH → Rs) → Rs) (fun _ _ _ _ => .bad 89) (fun d ih call h K => getO d h fun o => isDfr o (setO d (some (.dfr false)) h fun h => ih call h K)) r ih call h K)
      (fun fn a b _ _ ih call h K => call 2 (.func fn a b) [] h fun _ h => ih call h K)
      (fun _ _ _ _ => .bad 89) (fun _ _ _ _ _ _ _ => .bad 89) (fun _ _ _ _ => .bad 89) (fun _ _ _ _ _ _ => .bad 89) (fun _ _ _ _ _ _ => .bad 89) (fun _ _ _ _ => .bad 89) () (fun _ _ _ _ => ()) v ih call h K) l call h K
noncomputable def leaveX (rs : List XR) (call : Caller) (e : EV) (h : XH) (K : KV) : Rs :=
  selE .d15 e fun r => selA .d15 r fun u => dfrX u (resX rs e h fun l => oneOfX l fun v => K v h) (fun l => dfrsX l call h fun h => resX rs e h fun l => oneOfX l fun v => K v h) (fun _ => .bad 90)
noncomputable def leave0 (rs : List XR) (e : EV) (h : XH) (K : KV) : Rs :=
  selE .d15 e fun r => selA .d15 r fun u => dfrX u (resX rs e h fun l => oneOfX l fun v => K v h) (fun _ => .bad 90) (fun _ => .bad 90)
noncomputable def leaveM (md : Nat) (rs : List XR) (call : Caller) (e : EV) (h : XH) (K : KV) : Rs := iteE md 2 (leave0 rs e h K) (leaveX rs call e h K)
noncomputable def callF (la : LT) (b : XB) (md : Nat) (call : Caller) (args : List AV) (h : XH) (K : KV) : Rs :=
  XB.rec (motive := fun _ => LT → Nat → Caller → List AV → XH → KV → Rs)
    (fun N c rs la md call args h K => iteN N 240 (argsX N args 0 z2 fun e => runC la N c call e h (fun e h => leaveM md rs call e h K) (fun _ _ _ => .bad 57) (fun e h => leaveM md rs call e h K)) (.bad 61))
    (fun k _ md _ args h K => iteE md 0 (extX k args h K) (.bad 58)) (fun _ _ _ _ _ _ => .bad 58) b la md call args h K
noncomputable def parsX (N : Nat) (ps : List Tmp) (vs : List AV) (e : EV) (K : EV → Rs) : Rs :=
  List.rec (motive := fun _ => List AV → EV → (EV → Rs) → Rs) (fun vs e K => List.rec (motive := fun _ => Rs) (K e) (fun _ _ _ => .bad 91) vs)
    (fun p _ ih vs e K => List.rec (motive := fun _ => Tmp → (List AV → EV → (EV → Rs) → Rs) → EV → (EV → Rs) → Rs) (fun _ _ _ _ => .bad 91) (fun v r _ p ih e K => putX (sd N p) v e fun e => ih r e K) vs p ih e K) ps vs e K
/-- A round begins. -/
noncomputable def loopBegin (l : Nat) (h : XH) (K : XH → Rs) : Rs :=
  getO l h fun o => asLoop o fun st pend tm ps asg body d => LoopState.rec (motive := fun _ => Rs → Rs) (fun R => R) (fun _ => .bad 92) (fun _ => .bad 92) (fun _ => .bad 92) st (setO l (some (.loop .busy pend tm ps asg body d)) h K)
noncomputable def loopEnd (l : Nat) (st : LoopState) (pend : Option Code) (b : Bool) (K : KV) : KE := fun _ h =>
  getO l h fun o => asLoop o fun _ _ tm ps asg body d => setO l (some (.loop st pend tm ps asg body d)) h fun h => K (.bool b) h
noncomputable def yieldX (la : LT) (ty : TT) (call : Caller) (l : Nat) (args : List AV) (h : XH) (K : KV) : Rs :=
  getO l h fun o => asLoop o fun st _ tm ps asg body _ => LoopState.rec (motive := fun _ => Rs → Rs) (fun R => R) (fun _ => .bad 92) (fun _ => .bad 92) (fun _ => .bad 92) st
    (lenX tm 0 fun N => iteN N 240 (argsX N tm 0 z2 fun e => updA .d15 z1 (.map (some l)) fun r => updE .d15 e r fun e => parsX N ps.toList args e fun e =>
      runC la N (sc N ty asg) call e h (fun e h => loopBegin l h fun h =>
        runC la N (sc N ty body) call e h (loopEnd l .ready none true K) (fun i => loopEnd l .done (some (.exit i)) false K) (loopEnd l .done (some .ret) false K)) (fun _ _ _ => .bad 93) (fun _ _ => .bad 93)) (.bad 61))
noncomputable def xcall (la : LT) (ty : TT) (ft : FT) (ex : List (Nat × Nat)) (n : Nat) : Caller :=
  Nat.rec (motive := fun _ => Caller) (fun _ _ _ _ _ => .bad 59)
    (fun _ ih md f args h K => asCall f (fun f l1 l2 => appX args l2 fun a => appX l1 a fun a => callF la (sf ty ft ex f) md ih a h K) (fun l l1 l2 => nilL l1 (nilL l2 (iteE md 0 (yieldX la ty ih l args h K) (.bad 60))))) n
end Go.La
/- Layer X, part 4: what the small things come to. -/
namespace Go.La
open Go

theorem natK_eq (n : Nat) (K : Nat → Rs) : natK n K = K n := rfl
theorem iteB_ok {b : Bool} {x y : Rs} (h : iteB b x y = .ok) : cond b x y = .ok := by cases b <;> exact h
theorem iteN_ok {a b : Nat} {x y : Rs} (h : iteN a b x y = .ok) : (a ≤ b ∧ x = .ok) ∨ (b < a ∧ y = .ok) := by
  unfold iteN at h
  cases hb : Nat.ble a b with
  | true => rw [hb] at h; exact .inl ⟨Nat.le_of_ble_eq_true hb, h⟩
  | false => rw [hb] at h; exact .inr ⟨Nat.lt_of_not_le (fun hle => by rw [Nat.ble_eq_true_of_le hle] at hb; cases hb), h⟩
theorem iteN_bad {a b n : Nat} {x : Rs} (h : iteN a b x (.bad n) = .ok) : a ≤ b ∧ x = .ok := by
  rcases iteN_ok h with h | h
  · exact h
  · exact Rs.noConfusion h.2
theorem iteE_ok {a b : Nat} {x y : Rs} (h : iteE a b x y = .ok) : (a = b ∧ x = .ok) ∨ (a ≠ b ∧ y = .ok) := by
  unfold iteE at h
  cases hb : Nat.beq a b with
  | true => rw [hb] at h; exact .inl ⟨Nat.eq_of_beq_eq_true hb, h⟩
  | false => rw [hb] at h; exact .inr ⟨(fun e => by rw [e, Nat.beq_refl] at hb; cases hb), h⟩
theorem iteE_bad {a b n : Nat} {x : Rs} (h : iteE a b x (.bad n) = .ok) : a = b ∧ x = .ok := by
  rcases iteE_ok h with h | h
  · exact h
  · exact Rs.noConfusion h.2
theorem dropX_ok : ∀ {n : Nat} {l : List AV} {K : List AV → Rs}, dropX n l K = .ok → n ≤ l.length ∧ K (l.drop n) = .ok
  | 0, _, _, h => ⟨Nat.zero_le _, h⟩
  | _ + 1, [], _, h => Rs.noConfusion h
  | n + 1, _ :: r, K, h => let ⟨a, b⟩ := dropX_ok (n := n) (l := r) (K := K) h; ⟨Nat.succ_le_succ a, b⟩
theorem takeX_ok : ∀ {n : Nat} {l : List AV} {K : List AV → Rs}, takeX n l K = .ok → n ≤ l.length ∧ K (l.take n) = .ok
  | 0, _, _, h => ⟨Nat.zero_le _, h⟩
  | _ + 1, [], _, h => Rs.noConfusion h
  | n + 1, a :: r, K, h => let ⟨a', b⟩ := takeX_ok (n := n) (l := r) (K := fun r => K (a :: r)) h; ⟨Nat.succ_le_succ a', b⟩
theorem nthX_ok : ∀ {n : Nat} {l : List AV} {K : AV → Rs}, nthX n l K = .ok → ∃ v, l[n]? = some v ∧ K v = .ok
  | 0, [], _, h => Rs.noConfusion h
  | 0, a :: _, _, h => ⟨a, rfl, h⟩
  | _ + 1, [], _, h => Rs.noConfusion h
  | n + 1, _ :: r, K, h => nthX_ok (n := n) (l := r) (K := K) h
theorem appX_eq : ∀ (l m : List AV) (K : List AV → Rs), appX l m K = K (l ++ m)
  | [], _, _ => rfl
  | a :: r, m, K => appX_eq r m fun r => K (a :: r)
theorem overX_ok : ∀ {l c : List AV} {K : List AV → Rs}, overX l c K = .ok → l.length ≤ c.length ∧ K (l ++ c.drop l.length) = .ok
  | [], _, _, h => ⟨Nat.zero_le _, h⟩
  | _ :: _, [], _, h => Rs.noConfusion h
  | a :: r, _ :: c, K, h => let ⟨x, y⟩ := overX_ok (l := r) (c := c) (K := fun r => K (a :: r)) h; ⟨Nat.succ_le_succ x, y⟩
theorem spliceX_ok : ∀ {o : Nat} {l c : List AV} {K : List AV → Rs}, spliceX o l c K = .ok → o + l.length ≤ c.length ∧ K (splice c o l) = .ok
  | 0, l, c, K, h => by
    obtain ⟨x, y⟩ := overX_ok (l := l) (c := c) (K := K) h
    exact ⟨by omega, by simpa [splice] using y⟩
  | _ + 1, _, [], _, h => Rs.noConfusion h
  | o + 1, l, a :: c, K, h => by
    obtain ⟨x, y⟩ := spliceX_ok (o := o) (l := l) (c := c) (K := fun r => K (a :: r)) h
    refine ⟨by simp; omega, ?_⟩
    have : splice (a :: c) (o + 1) l = a :: splice c o l := by simp [splice, Nat.add_right_comm]
    rw [this]; exact y
theorem setX_ok : ∀ {o : Nat} {v : AV} {c : List AV} {K : List AV → Rs}, setX o v c K = .ok → o + 1 ≤ c.length ∧ K (splice c o [v]) = .ok
  | 0, _, [], _, h => Rs.noConfusion h
  | 0, v, a :: c, K, h => ⟨by simp, by simpa [splice] using (show K (v :: c) = .ok from h)⟩
  | _ + 1, _, [], _, h => Rs.noConfusion h
  | o + 1, v, a :: c, K, h => by
    obtain ⟨x, y⟩ := setX_ok (o := o) (v := v) (c := c) (K := fun r => K (a :: r)) h
    refine ⟨by simp; omega, ?_⟩
    have : splice (a :: c) (o + 1) [v] = a :: splice c o [v] := by simp [splice, Nat.add_right_comm]
    rw [this]; exact y
theorem lenX_eq : ∀ (l : List AV) (n : Nat) (K : Nat → Rs), lenX l n K = K (n + l.length)
  | [], _, _ => rfl
  | _ :: r, n, K => (lenX_eq r (n + 1) K).trans (by rw [List.length_cons]; congr 1; omega)
theorem lenS_eq : ∀ (l : Str) (n : Nat) (K : Nat → Rs), lenS l n K = K (n + l.length)
  | [], _, _ => rfl
  | _ :: r, n, K => (lenS_eq r (n + 1) K).trans (by rw [List.length_cons]; congr 1; omega)
theorem repX_eq : ∀ (n : Nat) (l r : List AV) (K : List AV → Rs), repX n l r K = K ((List.replicate n l).flatten ++ r)
  | 0, _, _, _ => rfl
  | n + 1, l, r, K => by
    show appX l r (fun r => repX n l r K) = _
    rw [appX_eq, repX_eq n l (l ++ r) K]
    congr 1
    have : ∀ n : Nat, (List.replicate n l).flatten ++ l = l ++ (List.replicate n l).flatten := fun n => by
      induction n with
      | zero => simp
      | succ n ih => simp [List.replicate_succ, ih]
    rw [← List.append_assoc, this, List.replicate_succ, List.flatten_cons]

/-! ### The heap -/
noncomputable def XH.obj (h : XH) (b : Nat) : Option AObj := ((h.tr.get (dig (b / 256))).get (dig (b / 16 % 16))).get (dig (b % 16))
noncomputable def XH.ah (h : XH) : AH := ⟨h.next, fun b => if b < 4096 then h.obj b else none⟩
theorem natDiv (a b : Nat) : Nat.div a b = a / b := rfl
theorem natMod (a b : Nat) : Nat.mod a b = a % b := rfl
theorem getO_ok {b : Nat} {h : XH} {K : Option AObj → Rs} (hk : getO b h K = .ok) : b < 4096 ∧ K (h.ah.get b) = .ok := by
  unfold getO at hk
  simp only [natDiv, natMod] at hk
  obtain ⟨d1, hk⟩ := selQ_ok hk
  obtain ⟨d2, hk⟩ := selP_ok hk
  obtain ⟨d3, hk⟩ := selO_ok hk
  have hb : b / 256 < 16 := dig_lt d1
  have hb : b < 4096 := by omega
  exact ⟨hb, by simpa [XH.ah, XH.obj, hb] using hk⟩
theorem putO_ok {b n : Nat} {o : Option AObj} {t : N16 (N16 (N16 (Option AObj)))} {K : XH → Rs} (hk : putO b n o t K = .ok) : ∃ t', K ⟨n, t'⟩ = .ok ∧ b < 4096 ∧ (XH.mk n t').ah = { (XH.mk n t).ah with get := fun x => if x = b then o else (XH.mk n t).ah.get x } := by
  unfold putO at hk
  simp only [natDiv, natMod] at hk
  obtain ⟨d1, hk⟩ := selQ_ok hk
  obtain ⟨d2, hk⟩ := selP_ok hk
  obtain ⟨d3, hk⟩ := updO_ok hk
  obtain ⟨-, hk⟩ := updP_ok hk
  obtain ⟨-, hk⟩ := updQ_ok hk
  have hb : b / 256 < 16 := dig_lt d1
  have hb : b < 4096 := by omega
  refine ⟨_, hk, hb, ?_⟩
  simp only [XH.ah]
  congr 1
  funext x
  by_cases hx : x < 4096
  · have e1 : dig (x / 256) ≠ .no := by
      intro e; unfold dig at e
      have : Nat.ble 16 (x / 256) = false := by
        cases hh : Nat.ble 16 (x / 256) with
        | false => rfl
        | true => have := Nat.le_of_ble_eq_true hh; omega
      rw [this] at e
      have h2 := digN_dig (n := x / 256) (by omega)
      unfold dig at h2; rw [this] at h2; simp only at h2 e; rw [e] at h2; simp [digN] at h2; omega
    have nz : ∀ y : Nat, y < 16 → dig y ≠ .no := fun y hy e => by have := digN_dig hy; rw [e] at this; simp [digN] at this; omega
    have e2 : dig (x / 16 % 16) ≠ .no := nz _ (by omega)
    have e3 : dig (x % 16) ≠ .no := nz _ (by omega)
    simp only [if_pos hx, XH.obj]
    rw [N16.get_set _ _ _ _ d1 e1]
    by_cases c1 : dig (b / 256) = dig (x / 256)
    · rw [if_pos c1, N16.get_set _ _ _ _ d2 e2]
      by_cases c2 : dig (b / 16 % 16) = dig (x / 16 % 16)
      · rw [if_pos c2, N16.get_set _ _ _ _ d3 e3]
        by_cases c3 : dig (b % 16) = dig (x % 16)
        · rw [if_pos c3]
          have i1 := dig_inj (by omega) (by omega) c1
          have i2 := dig_inj (by omega) (by omega) c2
          have i3 := dig_inj (by omega) (by omega) c3
          rw [if_pos (by omega)]
        · rw [if_neg c3, if_neg (fun e => c3 (by rw [e]))]
          rw [c1, c2]
      · rw [if_neg c2, if_neg (fun e => c2 (by rw [e]))]
        rw [c1]
    · rw [if_neg c1, if_neg (fun e => c1 (by rw [e]))]
  · simp only [if_neg hx]
    rw [if_neg (by omega)]
theorem setO_ok {b : Nat} {o : Option AObj} {h : XH} {K : XH → Rs} (hk : setO b o h K = .ok) : ∃ h' : XH, K h' = .ok ∧ h'.ah = h.ah.set b o := by
  cases h
  obtain ⟨t', h1, _, h2⟩ := putO_ok (show putO b _ o _ K = .ok from hk)
  exact ⟨_, h1, h2⟩
theorem newO_ok {o : AObj} {h : XH} {K : Nat → XH → Rs} (hk : newO o h K = .ok) : ∃ h' : XH, K h.next h' = .ok ∧ h'.ah = h.ah.new o := by
  cases h with
  | mk n t =>
  obtain ⟨t', h1, hb, h2⟩ := putO_ok (show putO n (n + 1) (some o) t (fun h => K n h) = .ok from hk)
  exact ⟨_, h1, by rw [h2]; rfl⟩
theorem asCells_ok {o : Option AObj} {K : Bool → Nat → El → List AV → Rs} (h : asCells o K = .ok) : ∃ ro fz el c, o = some (.cells ro fz el c) ∧ K ro fz el c = .ok := by
  cases o with
  | none => exact Rs.noConfusion h
  | some a => cases a <;> first | exact ⟨_, _, _, _, rfl, h⟩ | exact Rs.noConfusion h
theorem asMapO_ok {o : Option AObj} {K : List (AV × AV × Nat) → Nat → Rs} (h : asMapO o K = .ok) : ∃ es clk, o = some (.map es clk) ∧ K es clk = .ok := by
  cases o with
  | none => exact Rs.noConfusion h
  | some a => cases a <;> first | exact ⟨_, _, rfl, h⟩ | exact Rs.noConfusion h
theorem rdN_ok {b o n : Nat} {h : XH} {K : List AV → Rs} (hk : rdN b o n h K = .ok) : ∃ l, h.ah.rd ⟨b, o⟩ n = some l ∧ K l = .ok := by
  unfold rdN at hk
  obtain ⟨-, hk⟩ := getO_ok hk
  obtain ⟨ro, fz, el, c, e, hk⟩ := asCells_ok hk
  obtain ⟨h1, hk⟩ := dropX_ok hk
  obtain ⟨h2, hk⟩ := takeX_ok hk
  simp only [List.length_drop] at h2
  exact ⟨_, by simp only [AH.rd, e]; rw [if_pos (by omega)], hk⟩
theorem rd1_ok {b o : Nat} {h : XH} {K : AV → Rs} (hk : rd1 b o h K = .ok) : ∃ v, h.ah.rd ⟨b, o⟩ 1 = some [v] ∧ K v = .ok := by
  unfold rd1 at hk
  obtain ⟨-, hk⟩ := getO_ok hk
  obtain ⟨ro, fz, el, c, e, hk⟩ := asCells_ok hk
  obtain ⟨v, h1, hk⟩ := nthX_ok hk
  refine ⟨v, ?_, hk⟩
  have hlt := (List.getElem?_eq_some_iff.1 h1).1
  simp only [AH.rd, e]
  rw [if_pos (by omega)]
  congr 1
  rw [List.drop_eq_getElem_cons hlt]
  have := (List.getElem?_eq_some_iff.1 h1).2
  simp [this]
theorem wrN_ok {b o : Nat} {l : List AV} {h : XH} {K : XH → Rs} (hk : wrN b o l h K = .ok) : ∃ h' : XH, h.ah.wr ⟨b, o⟩ l = some h'.ah ∧ K h' = .ok := by
  unfold wrN at hk
  obtain ⟨-, hk⟩ := getO_ok hk
  obtain ⟨ro, fz, el, c, e, hk⟩ := asCells_ok hk
  have hk := iteB_ok hk
  cases ro with
  | true => exact Rs.noConfusion hk
  | false =>
    obtain ⟨h1, hk⟩ := iteN_bad hk
    obtain ⟨h2, hk⟩ := spliceX_ok hk
    obtain ⟨h', hk, e2⟩ := setO_ok hk
    exact ⟨h', by simp only [AH.wr, e]; rw [if_pos ⟨h2, h1⟩, e2], hk⟩
theorem wr1_ok {b o : Nat} {v : AV} {h : XH} {K : XH → Rs} (hk : wr1 b o v h K = .ok) : ∃ h' : XH, h.ah.wr ⟨b, o⟩ [v] = some h'.ah ∧ K h' = .ok := by
  unfold wr1 at hk
  obtain ⟨-, hk⟩ := getO_ok hk
  obtain ⟨ro, fz, el, c, e, hk⟩ := asCells_ok hk
  have hk := iteB_ok hk
  cases ro with
  | true => exact Rs.noConfusion hk
  | false =>
    obtain ⟨h1, hk⟩ := iteN_bad hk
    obtain ⟨h2, hk⟩ := setX_ok hk
    obtain ⟨h', hk, e2⟩ := setO_ok hk
    exact ⟨h', by simp only [AH.wr, e]; rw [if_pos ⟨h2, h1⟩, e2], hk⟩
end Go.La
/- Layer X, part 5: slots, operands, whole numbers, texts: what they come to. -/
namespace Go.La
open Go

/-! ### Slots -/
noncomputable def eget (e : EV) (i : Nat) : AV := (e.get (dig (i / 16))).get (dig (i % 16))
noncomputable def view (N : Nat) (e : EV) : List AV := (List.range N).map (eget e)
theorem view_length (N : Nat) (e : EV) : (view N e).length = N := by simp [view]
theorem view_get {N : Nat} {e : EV} {i : Nat} (h : i < N) : (view N e)[i]? = some (eget e i) := by simp [view, h]
theorem dig_ne {n : Nat} (h : n < 16) : dig n ≠ .no := fun e => by have := digN_dig h; rw [e] at this; simp [digN] at this; omega
theorem eget_upd {e : EV} {i : Nat} {v : AV} (hi : i < 256) {j : Nat} (hj : j < 256) :
    eget (e.set (dig (i / 16)) ((e.get (dig (i / 16))).set (dig (i % 16)) v)) j = if i = j then v else eget e j := by
  unfold eget
  have a1 : dig (i / 16) ≠ .no := dig_ne (by omega)
  have a2 : dig (i % 16) ≠ .no := dig_ne (by omega)
  have b1 : dig (j / 16) ≠ .no := dig_ne (by omega)
  have b2 : dig (j % 16) ≠ .no := dig_ne (by omega)
  rw [N16.get_set _ _ _ _ a1 b1]
  by_cases c1 : dig (i / 16) = dig (j / 16)
  · rw [if_pos c1, N16.get_set _ _ _ _ a2 b2]
    by_cases c2 : dig (i % 16) = dig (j % 16)
    · have i1 := dig_inj (by omega) (by omega) c1
      have i2 := dig_inj (by omega) (by omega) c2
      rw [if_pos c2, if_pos (by omega)]
    · rw [if_neg c2, if_neg (fun e => c2 (by rw [e])), c1]
  · rw [if_neg c1, if_neg (fun e => c1 (by rw [e]))]
theorem evX_tmp {a b : D16} {e : EV} {K : AV → Rs} (h : evX (.tmp a b) e K = .ok) : a ≠ .no ∧ b ≠ .no ∧ K ((e.get a).get b) = .ok := by
  obtain ⟨d1, h⟩ := selE_ok (show selE a e (fun r => selA b r K) = .ok from h)
  obtain ⟨d2, h⟩ := selA_ok h
  exact ⟨d1, d2, h⟩
theorem sv_tmp (N i : Nat) : sv N (.tmp i) = if i < N then .tmp (dig (i / 16)) (dig (i % 16)) else .tmp .no .no := by
  simp only [sv, natDiv, natMod]
  by_cases h : i < N
  · rw [if_pos h, show Nat.ble (Nat.succ i) N = true from Nat.ble_eq_true_of_le h]
  · rw [if_neg h]
    have : Nat.ble (Nat.succ i) N = false := by
      cases hb : Nat.ble (Nat.succ i) N with
      | false => rfl
      | true => exact (h (Nat.le_of_ble_eq_true hb)).elim
    rw [this]
theorem sd_eq (N i : Nat) : sd N i = if i < N then .some (dig (i / 16)) (dig (i % 16)) else .some .no .no := by
  simp only [sd, natDiv, natMod]
  by_cases h : i < N
  · rw [if_pos h, show Nat.ble (Nat.succ i) N = true from Nat.ble_eq_true_of_le h]
  · rw [if_neg h]
    have : Nat.ble (Nat.succ i) N = false := by
      cases hb : Nat.ble (Nat.succ i) N with
      | false => rfl
      | true => exact (h (Nat.le_of_ble_eq_true hb)).elim
    rw [this]
theorem evX_ok {N : Nat} {x : Operand} {e : EV} {K : AV → Rs} (h : evX (sv N x) e K = .ok) : K (ev (view N e) x) = .ok := by
  cases x with
  | tmp i =>
    rw [sv_tmp] at h
    by_cases hi : i < N
    · rw [if_pos hi] at h
      obtain ⟨_, _, h⟩ := evX_tmp h
      have : ev (view N e) (.tmp i) = eget e i := by
        simp only [ev, List.getD_eq_getElem?_getD, view_get hi, Option.getD_some]
      rw [this]; exact h
    · rw [if_neg hi] at h
      exact ((evX_tmp h).1 rfl).elim
  | const v => exact h
  | func f => exact h
  | global g => exact h
theorem evT_ok {N : Nat} {ty : TT} {t : TypeId} {x : Operand} {e : EV} {K : AV → Rs} (h : evX (svT N ty t x) e K = .ok) : K (nilOr ty t x (ev (view N e) x)) = .ok := by
  unfold svT at h
  split at h
  · have e1 : ev (view N e) (.const (.slice none 0 0)) = .slice none 0 0 := rfl
    rw [e1]
    split at h
    · rename_i sz d hf
      have : nilOr ty t (.const (.slice none 0 0)) (.slice none 0 0) = .slice none 0 sz := by simp [nilOr, hf]
      rw [this]; exact h
    · rename_i hn
      have : nilOr ty t (.const (.slice none 0 0)) (.slice none 0 0) = .slice none 0 0 := by
        unfold nilOr
        split
        · split
          · split
            · rename_i sz d hf; exact (hn _ _ hf).elim
            · rename_i h1 _ _; cases h1; rfl
          · rfl
        · rfl
      rw [this]; exact h
  · rename_i hn
    have : nilOr ty t x (ev (view N e) x) = ev (view N e) x := by
      unfold nilOr
      split
      · exact (hn rfl).elim
      · rfl
    rw [this]; exact evX_ok h
theorem evs_map {N : Nat} {e : EV} : ∀ {l : List Operand} {K : List AV → Rs}, evsX (l.map (sv N)) e K = .ok → K (l.map (ev (view N e))) = .ok
  | [], _, h => h
  | x :: r, K, h => evs_map (l := r) (K := fun y => K (ev (view N e) x :: y)) (evX_ok (x := x) (K := fun v => evsX (r.map (sv N)) e fun r => K (v :: r)) h)
theorem evs_args {N : Nat} {ty : TT} {e : EV} : ∀ {l : List Operand} {ts : List TypeId} {K : List AV → Rs}, evsX (svs N ty l ts) e K = .ok → K (argsE ty (ev (view N e)) l ts) = .ok
  | [], _, _, h => h
  | x :: r, [], K, h => evs_args (l := r) (ts := []) (K := fun y => K (ev (view N e) x :: y)) (evX_ok (x := x) (K := fun v => evsX (svs N ty r []) e fun r => K (v :: r)) h)
  | x :: r, t :: s, K, h => evs_args (l := r) (ts := s) (K := fun y => K (nilOr ty t x (ev (view N e) x) :: y)) (evT_ok (K := fun v => evsX (svs N ty r s) e fun r => K (v :: r)) h)
theorem opt_ok {N : Nat} {x : Option Operand} {e : EV} {K : Option AV → Rs} (h : optX (x.map (sv N)) e K = .ok) : K (x.map (ev (view N e))) = .ok := by
  cases x with
  | none => exact h
  | some x => exact evX_ok (K := fun v => K (some v)) h
/-- After a slot is written. -/
theorem put_some {a b : D16} {v : AV} {e : EV} {K : EV → Rs} (h : putX (.some a b) v e K = .ok) : a ≠ .no ∧ b ≠ .no ∧ K (e.set a ((e.get a).set b v)) = .ok := by
  obtain ⟨d1, h⟩ := selE_ok (show selE a e (fun r => updA b r v fun r => updE a e r K) = .ok from h)
  obtain ⟨d2, h⟩ := updA_ok h
  obtain ⟨_, h⟩ := updE_ok h
  exact ⟨d1, d2, h⟩
theorem putX_ok {N : Nat} (hN : N ≤ 240) {d : Option Tmp} {v : AV} {e : EV} {K : EV → Rs} (h : putX (sdo N d) v e K = .ok) : ∃ e', K e' = .ok ∧ view N e' = putA (view N e) d v ∧ eget e' 255 = eget e 255 := by
  cases d with
  | none => exact ⟨e, h, rfl, rfl⟩
  | some i =>
    simp only [sdo, sd_eq] at h
    by_cases hi : i < N
    · rw [if_pos hi] at h
      obtain ⟨_, _, h⟩ := put_some h
      have hi2 : i < 240 := Nat.lt_of_lt_of_le hi hN
      have hi3 : i < 256 := Nat.lt_trans hi2 (by decide)
      refine ⟨_, h, ?_, ?_⟩
      · apply List.ext_getElem?
        intro j
        by_cases hj : j < N
        · rw [view_get hj, eget_upd hi3 (by omega)]
          simp only [putA, List.getElem?_set, view_get hj, view_length]
          by_cases e1 : i = j
          · subst e1; simp [hi]
          · simp [e1]
        · rw [List.getElem?_eq_none (by rw [view_length]; omega), List.getElem?_eq_none (by rw [putA_length, view_length]; omega)]
      · rw [eget_upd hi3 (by decide), if_neg (fun e => by rw [e] at hi2; exact absurd hi2 (by decide))]
    · rw [if_neg hi] at h
      exact ((put_some h).1 rfl).elim

/-! ### Whole numbers -/
theorem subNN_eq (a b : Nat) (K : Int → Rs) : subNN a b K = K ((a : Int) - b) := by
  unfold subNN iteN
  cases hb : Nat.ble b a with
  | true =>
    have := Nat.le_of_ble_eq_true hb
    show K (.ofNat (a - b)) = _
    congr 1; show ((a - b : Nat) : Int) = _; omega
  | false =>
    have : a < b := Nat.lt_of_not_le fun hle => by rw [Nat.ble_eq_true_of_le hle] at hb; cases hb
    show K (.negSucc (Nat.pred (b - a))) = _
    congr 1
    rw [show Nat.pred (b - a) = (b - a) - 1 from rfl, Int.negSucc_eq]; omega
theorem addI_eq (x y : Int) (K : Int → Rs) : addI x y K = K (x + y) := by
  cases x with
  | ofNat a => cases y with
    | ofNat b => rfl
    | negSucc b => show subNN a (b + 1) K = _; rw [subNN_eq]; congr 1
  | negSucc a => cases y with
    | ofNat b => show subNN b (a + 1) K = _; rw [subNN_eq]; congr 1
    | negSucc b => show K (.negSucc (Nat.succ (a + b))) = _; congr 1
theorem negI_eq (x : Int) : negI x = 0 - x := by
  cases x with
  | ofNat a => cases a with
    | zero => rfl
    | succ a => show Int.negSucc a = _; rw [Int.negSucc_eq]; show -((a : Int) + 1) = 0 - ((a + 1 : Nat) : Int); omega
  | negSucc a => show ((a + 1 : Nat) : Int) = _; rw [Int.negSucc_eq]; omega
theorem eqI_eq (x y : Int) : eqI x y = (x == y) := by
  have nb : ∀ a b : Nat, Nat.beq a b = decide (a = b) := fun a b => by
    cases hb : Nat.beq a b with
    | true => simp [Nat.eq_of_beq_eq_true hb]
    | false => symm; simp; intro e; rw [e, Nat.beq_refl] at hb; cases hb
  cases x with
  | ofNat a => cases y with
    | ofNat b => show Nat.beq a b = _; rw [nb]; apply Bool.eq_iff_iff.2; simp; omega
    | negSucc b => show false = _; symm; simp
  | negSucc a => cases y with
    | ofNat b => show false = _; symm; simp
    | negSucc b => show Nat.beq a b = _; rw [nb]; apply Bool.eq_iff_iff.2; simp
theorem ltI_eq (x y : Int) : ltI x y = decide (x < y) := by
  have nb : ∀ a b : Nat, Nat.ble (Nat.succ a) b = decide (a < b) := fun a b => by
    cases hb : Nat.ble (Nat.succ a) b with
    | true => simp; exact Nat.le_of_ble_eq_true hb
    | false => symm; simp; exact Nat.le_of_not_lt fun e => by rw [Nat.ble_eq_true_of_le e] at hb; cases hb
  cases x with
  | ofNat a => cases y with
    | ofNat b => show Nat.ble (Nat.succ a) b = _; rw [nb]; apply Bool.eq_iff_iff.2; simp; try omega
    | negSucc b => show false = _; symm; simp; have := Int.negSucc_lt_zero b; omega
  | negSucc a => cases y with
    | ofNat b => show true = _; symm; simp; have := Int.negSucc_lt_zero a; omega
    | negSucc b => show Nat.ble (Nat.succ b) a = _; rw [nb]; apply Bool.eq_iff_iff.2; simp [Int.negSucc_eq]; try omega
theorem notB_eq (b : Bool) : notB b = !b := by cases b <;> rfl
theorem natI_ok {n : Int} {K : Nat → Rs} (h : natI n K = .ok) : 0 ≤ n ∧ K n.toNat = .ok := by
  cases n with
  | ofNat a => exact ⟨Int.natCast_nonneg a, h⟩
  | negSucc a => exact Rs.noConfusion h
theorem wrapU_eq (M : Nat) (hM : 0 < M) (n : Int) (K : Int → Rs) : wrapU M n K = K (n % (M : Int)) := by
  cases n with
  | ofNat a => show K (.ofNat (a % M)) = _; congr 1
  | negSucc a =>
    show K (.ofNat (Nat.pred M - a % M)) = _
    congr 1
    rw [Int.negSucc_emod _ (by omega)]
    have : a % M < M := Nat.mod_lt _ hM
    show ((M - 1 - a % M : Nat) : Int) = _
    omega
theorem wrapS2_eq (M H r : Nat) (hr : r < M) (K : Int → Rs) : wrapS2 M H r K = K (if H ≤ r then (r : Int) - M else r) := by
  unfold wrapS2 iteN
  cases hb : Nat.ble (Nat.succ r) H with
  | true =>
    have := Nat.le_of_ble_eq_true hb
    rw [if_neg (by omega)]
    rfl
  | false =>
    have : ¬ (r + 1 ≤ H) := fun e => by rw [Nat.ble_eq_true_of_le e] at hb; cases hb
    rw [if_pos (by omega)]
    show K (.negSucc (Nat.pred M - r)) = _
    congr 1
    rw [Int.negSucc_eq]
    have : Nat.pred M = M - 1 := rfl
    omega
theorem wrapS_eq (M H : Nat) (hH : 2 * H = M) (hM : 0 < M) (n : Int) (K : Int → Rs) : wrapS M H n K = K (if (H : Int) ≤ n % (M : Int) then n % (M : Int) - M else n % (M : Int)) := by
  cases n with
  | ofNat a =>
    show iteN (Nat.succ a) H (K (.ofNat a)) (wrapS2 M H (a % M) K) = _
    have hm : (Int.ofNat a) % (M : Int) = ((a % M : Nat) : Int) := rfl
    rw [hm]
    unfold iteN
    cases hb : Nat.ble (Nat.succ a) H with
    | true =>
      have := Nat.le_of_ble_eq_true hb
      have e : a % M = a := Nat.mod_eq_of_lt (by omega)
      rw [e, if_neg (by omega)]; rfl
    | false =>
      show wrapS2 M H (a % M) K = _
      rw [wrapS2_eq _ _ _ (Nat.mod_lt _ hM)]
      congr 1
      by_cases h : H ≤ a % M
      · rw [if_pos h, if_pos (by omega)]
      · rw [if_neg h, if_neg (by omega)]
  | negSucc a =>
    show iteN (Nat.succ a) H (K (.negSucc a)) (wrapS2 M H (Nat.pred M - a % M) K) = _
    have hlt : a % M < M := Nat.mod_lt _ hM
    have hm : (Int.negSucc a) % (M : Int) = ((Nat.pred M - a % M : Nat) : Int) := by
      rw [Int.negSucc_emod _ (by omega)]
      have : Nat.pred M = M - 1 := rfl
      omega
    rw [hm]
    unfold iteN
    cases hb : Nat.ble (Nat.succ a) H with
    | true =>
      have := Nat.le_of_ble_eq_true hb
      have e : a % M = a := Nat.mod_eq_of_lt (by omega)
      have : Nat.pred M = M - 1 := rfl
      rw [e, if_pos (by omega)]
      show K (.negSucc a) = _
      congr 1; rw [Int.negSucc_eq]; omega
    | false =>
      show wrapS2 M H (Nat.pred M - a % M) K = _
      have : Nat.pred M = M - 1 := rfl
      rw [wrapS2_eq _ _ _ (by omega)]
      congr 1
      by_cases h : H ≤ Nat.pred M - a % M
      · rw [if_pos h, if_pos (by omega)]
      · rw [if_neg h, if_neg (by omega)]
theorem wrapX_eq (k : IntKind) (n : Int) (K : Int → Rs) : wrapX k n K = K (k.wrap n) := by
  cases k
  · exact (wrapS_eq 256 128 rfl (by decide) n K).trans (by congr 1; simp [IntKind.wrap, IntKind.bits, IntKind.signed])
  · exact (wrapS_eq 65536 32768 rfl (by decide) n K).trans (by congr 1; simp [IntKind.wrap, IntKind.bits, IntKind.signed])
  · exact (wrapS_eq 4294967296 2147483648 rfl (by decide) n K).trans (by congr 1; simp [IntKind.wrap, IntKind.bits, IntKind.signed])
  · exact (wrapS_eq 18446744073709551616 9223372036854775808 rfl (by decide) n K).trans (by congr 1; simp [IntKind.wrap, IntKind.bits, IntKind.signed])
  · exact (wrapU_eq 256 (by decide) n K).trans (by congr 1)
  · exact (wrapU_eq 65536 (by decide) n K).trans (by congr 1)
  · exact (wrapU_eq 4294967296 (by decide) n K).trans (by congr 1)
  · exact (wrapU_eq 18446744073709551616 (by decide) n K).trans (by congr 1)
theorem kb_eq (b : Bool) (K : KA) : kb b K = K (.bool b) := by cases b <;> rfl
theorem ki_eq (k : IntKind) (n : Int) (K : KA) : ki k n K = K (.int k (k.wrap n)) := wrapX_eq _ _ _
end Go.La
