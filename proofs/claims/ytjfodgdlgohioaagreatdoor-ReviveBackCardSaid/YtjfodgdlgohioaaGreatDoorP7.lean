/- Part 7 of the proof: LaAw2. By an AI agent. -/
import Derived.Test.YtjfodgdlgohioaaGreatDoorP4
set_option linter.all false
namespace Go.La
open Go Go.RowKit
theorem ex_ok : ExOk Go.Proofs.Tryz.prog ex := by
  intro f fn hf hb
  have h1 : extOf ex f = 1 → f = 251 := by
    intro h
    simp only [ex, extOf] at h
    cases h2 : Nat.beq 251 f with
    | true => exact (Nat.eq_of_beq_eq_true h2).symm
    | false =>
      rw [h2] at h
      cases h3 : Nat.beq 335 f with
      | true => rw [h3] at h; simp at h
      | false => rw [h3] at h; simp at h
  have h5 : extOf ex f = 5 → f = 335 := by
    intro h
    simp only [ex, extOf] at h
    cases h2 : Nat.beq 251 f with
    | true => rw [h2] at h; simp at h
    | false =>
      rw [h2] at h
      cases h3 : Nat.beq 335 f with
      | true => exact (Nat.eq_of_beq_eq_true h3).symm
      | false => rw [h3] at h; simp at h
  have f251 : Go.Proofs.Tryz.prog.funcs[251]? = some Go.Proofs.Tryz.f251 := by kernel_rfl
  have f335 : Go.Proofs.Tryz.prog.funcs[335]? = some Go.Proofs.Tryz.f335 := by kernel_rfl
  refine ⟨fun h => ?_, fun h => ?_⟩
  · have := h1 h; subst this
    rw [f251] at hf; cases hf
    exact ⟨rfl, rfl⟩
  · have := h5 h; subst this
    rw [f335] at hf; cases hf
    exact ⟨rfl, rfl⟩
theorem awake_run : xcall laP tyt ft ex 100 0 (.func (.func 6) [] []) [] emptyX trueX = .ok := by kernel_rfl
theorem awake_ok (h : AH) : ACall Go.Proofs.Tryz.prog (.func (.func 6) [] []) [] h fun v h' => v = .bool true ∧ h' = h :=
  run_true tab_ok (fun _ _ _ _ h => h) follows_ok (FT.AllP.ok ft_all) ex_ok awake_run h
end Go.La
