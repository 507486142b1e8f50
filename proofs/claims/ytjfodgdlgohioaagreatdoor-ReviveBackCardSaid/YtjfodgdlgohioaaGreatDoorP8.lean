/- Part 8 of the proof: LmQ, LmB, LmC, LmD, LmE, LmF, LmG, LmT, LmH, LmI, LmJ, LmK, LmL, LmM. By an AI agent. -/
import Derived.Test.YtjfodgdlgohioaaGreatDoorP6
import Derived.Test.YtjfodgdlgohioaaGreatDoorP7
set_option linter.all false
/- Law 36, main part: a call of a function is what its normal form says. -/
namespace Go.Lm
open Go Go.La Go.RowKit Go.Proofs.Tryz

theorem byW {f : FuncId} {fn : Func} (hf : prog.funcs[f]? = some fn) (hn : (fn.name == "runtime.NumGoroutine") = false) {ann : Ann} {args : List AV} {h : AH} {R : AV → AH → Prop} {N : Prop} (e : fnW prog tyt fn ann args h R = N) (hk : N) : ACall prog (.func (.func f) [] []) args h R :=
  fnW_ok tab_ok follows_ok hf hn (by rw [List.nil_append, List.append_nil, e]; exact hk)
theorem a3 {ann : Ann} {args : List AV} {h : AH} {R : AV → AH → Prop} {N : Prop} (e : fnW prog tyt f3 ann args h R = N) (hk : N) : ACall prog (.func (.func 3) [] []) args h R :=
  byW (by kernel_rfl) (by kernel_rfl) e hk
theorem a4 {ann : Ann} {args : List AV} {h : AH} {R : AV → AH → Prop} {N : Prop} (e : fnW prog tyt f4 ann args h R = N) (hk : N) : ACall prog (.func (.func 4) [] []) args h R :=
  byW (by kernel_rfl) (by kernel_rfl) e hk
theorem a5 {ann : Ann} {args : List AV} {h : AH} {R : AV → AH → Prop} {N : Prop} (e : fnW prog tyt f5 ann args h R = N) (hk : N) : ACall prog (.func (.func 5) [] []) args h R :=
  byW (by kernel_rfl) (by kernel_rfl) e hk
theorem a7 {ann : Ann} {args : List AV} {h : AH} {R : AV → AH → Prop} {N : Prop} (e : fnW prog tyt f7 ann args h R = N) (hk : N) : ACall prog (.func (.func 7) [] []) args h R :=
  byW (by kernel_rfl) (by kernel_rfl) e hk
theorem a8 {ann : Ann} {args : List AV} {h : AH} {R : AV → AH → Prop} {N : Prop} (e : fnW prog tyt f8 ann args h R = N) (hk : N) : ACall prog (.func (.func 8) [] []) args h R :=
  byW (by kernel_rfl) (by kernel_rfl) e hk
theorem a9 {ann : Ann} {args : List AV} {h : AH} {R : AV → AH → Prop} {N : Prop} (e : fnW prog tyt f9 ann args h R = N) (hk : N) : ACall prog (.func (.func 9) [] []) args h R :=
  byW (by kernel_rfl) (by kernel_rfl) e hk
theorem a10 {ann : Ann} {args : List AV} {h : AH} {R : AV → AH → Prop} {N : Prop} (e : fnW prog tyt f10 ann args h R = N) (hk : N) : ACall prog (.func (.func 10) [] []) args h R :=
  byW (by kernel_rfl) (by kernel_rfl) e hk
theorem a11 {ann : Ann} {args : List AV} {h : AH} {R : AV → AH → Prop} {N : Prop} (e : fnW prog tyt f11 ann args h R = N) (hk : N) : ACall prog (.func (.func 11) [] []) args h R :=
  byW (by kernel_rfl) (by kernel_rfl) e hk
theorem a12 {ann : Ann} {args : List AV} {h : AH} {R : AV → AH → Prop} {N : Prop} (e : fnW prog tyt f12 ann args h R = N) (hk : N) : ACall prog (.func (.func 12) [] []) args h R :=
  byW (by kernel_rfl) (by kernel_rfl) e hk
theorem a13 {ann : Ann} {args : List AV} {h : AH} {R : AV → AH → Prop} {N : Prop} (e : fnW prog tyt f13 ann args h R = N) (hk : N) : ACall prog (.func (.func 13) [] []) args h R :=
  byW (by kernel_rfl) (by kernel_rfl) e hk
theorem a20 {ann : Ann} {args : List AV} {h : AH} {R : AV → AH → Prop} {N : Prop} (e : fnW prog tyt f20 ann args h R = N) (hk : N) : ACall prog (.func (.func 20) [] []) args h R :=
  byW (by kernel_rfl) (by kernel_rfl) e hk
theorem a23 {ann : Ann} {args : List AV} {h : AH} {R : AV → AH → Prop} {N : Prop} (e : fnW prog tyt f23 ann args h R = N) (hk : N) : ACall prog (.func (.func 23) [] []) args h R :=
  byW (by kernel_rfl) (by kernel_rfl) e hk
theorem a24 {ann : Ann} {args : List AV} {h : AH} {R : AV → AH → Prop} {N : Prop} (e : fnW prog tyt f24 ann args h R = N) (hk : N) : ACall prog (.func (.func 24) [] []) args h R :=
  byW (by kernel_rfl) (by kernel_rfl) e hk
theorem a25 {ann : Ann} {args : List AV} {h : AH} {R : AV → AH → Prop} {N : Prop} (e : fnW prog tyt f25 ann args h R = N) (hk : N) : ACall prog (.func (.func 25) [] []) args h R :=
  byW (by kernel_rfl) (by kernel_rfl) e hk
theorem a26 {ann : Ann} {args : List AV} {h : AH} {R : AV → AH → Prop} {N : Prop} (e : fnW prog tyt f26 ann args h R = N) (hk : N) : ACall prog (.func (.func 26) [] []) args h R :=
  byW (by kernel_rfl) (by kernel_rfl) e hk
theorem a27 {ann : Ann} {args : List AV} {h : AH} {R : AV → AH → Prop} {N : Prop} (e : fnW prog tyt f27 ann args h R = N) (hk : N) : ACall prog (.func (.func 27) [] []) args h R :=
  byW (by kernel_rfl) (by kernel_rfl) e hk
theorem a28 {ann : Ann} {args : List AV} {h : AH} {R : AV → AH → Prop} {N : Prop} (e : fnW prog tyt f28 ann args h R = N) (hk : N) : ACall prog (.func (.func 28) [] []) args h R :=
  byW (by kernel_rfl) (by kernel_rfl) e hk
theorem a29 {ann : Ann} {args : List AV} {h : AH} {R : AV → AH → Prop} {N : Prop} (e : fnW prog tyt f29 ann args h R = N) (hk : N) : ACall prog (.func (.func 29) [] []) args h R :=
  byW (by kernel_rfl) (by kernel_rfl) e hk
theorem a30 {ann : Ann} {args : List AV} {h : AH} {R : AV → AH → Prop} {N : Prop} (e : fnW prog tyt f30 ann args h R = N) (hk : N) : ACall prog (.func (.func 30) [] []) args h R :=
  byW (by kernel_rfl) (by kernel_rfl) e hk
theorem a31 {ann : Ann} {args : List AV} {h : AH} {R : AV → AH → Prop} {N : Prop} (e : fnW prog tyt f31 ann args h R = N) (hk : N) : ACall prog (.func (.func 31) [] []) args h R :=
  byW (by kernel_rfl) (by kernel_rfl) e hk
theorem a32 {ann : Ann} {args : List AV} {h : AH} {R : AV → AH → Prop} {N : Prop} (e : fnW prog tyt f32 ann args h R = N) (hk : N) : ACall prog (.func (.func 32) [] []) args h R :=
  byW (by kernel_rfl) (by kernel_rfl) e hk
theorem a33 {ann : Ann} {args : List AV} {h : AH} {R : AV → AH → Prop} {N : Prop} (e : fnW prog tyt f33 ann args h R = N) (hk : N) : ACall prog (.func (.func 33) [] []) args h R :=
  byW (by kernel_rfl) (by kernel_rfl) e hk
theorem a34 {ann : Ann} {args : List AV} {h : AH} {R : AV → AH → Prop} {N : Prop} (e : fnW prog tyt f34 ann args h R = N) (hk : N) : ACall prog (.func (.func 34) [] []) args h R :=
  byW (by kernel_rfl) (by kernel_rfl) e hk
theorem a35 {ann : Ann} {args : List AV} {h : AH} {R : AV → AH → Prop} {N : Prop} (e : fnW prog tyt f35 ann args h R = N) (hk : N) : ACall prog (.func (.func 35) [] []) args h R :=
  byW (by kernel_rfl) (by kernel_rfl) e hk
theorem a36 {ann : Ann} {args : List AV} {h : AH} {R : AV → AH → Prop} {N : Prop} (e : fnW prog tyt f36 ann args h R = N) (hk : N) : ACall prog (.func (.func 36) [] []) args h R :=
  byW (by kernel_rfl) (by kernel_rfl) e hk
theorem a37 {ann : Ann} {args : List AV} {h : AH} {R : AV → AH → Prop} {N : Prop} (e : fnW prog tyt f37 ann args h R = N) (hk : N) : ACall prog (.func (.func 37) [] []) args h R :=
  byW (by kernel_rfl) (by kernel_rfl) e hk
theorem a38 {ann : Ann} {args : List AV} {h : AH} {R : AV → AH → Prop} {N : Prop} (e : fnW prog tyt f38 ann args h R = N) (hk : N) : ACall prog (.func (.func 38) [] []) args h R :=
  byW (by kernel_rfl) (by kernel_rfl) e hk
theorem a39 {ann : Ann} {args : List AV} {h : AH} {R : AV → AH → Prop} {N : Prop} (e : fnW prog tyt f39 ann args h R = N) (hk : N) : ACall prog (.func (.func 39) [] []) args h R :=
  byW (by kernel_rfl) (by kernel_rfl) e hk
theorem a61 {ann : Ann} {args : List AV} {h : AH} {R : AV → AH → Prop} {N : Prop} (e : fnW prog tyt f61 ann args h R = N) (hk : N) : ACall prog (.func (.func 61) [] []) args h R :=
  byW (by kernel_rfl) (by kernel_rfl) e hk
theorem a62 {ann : Ann} {args : List AV} {h : AH} {R : AV → AH → Prop} {N : Prop} (e : fnW prog tyt f62 ann args h R = N) (hk : N) : ACall prog (.func (.func 62) [] []) args h R :=
  byW (by kernel_rfl) (by kernel_rfl) e hk
theorem a63 {ann : Ann} {args : List AV} {h : AH} {R : AV → AH → Prop} {N : Prop} (e : fnW prog tyt f63 ann args h R = N) (hk : N) : ACall prog (.func (.func 63) [] []) args h R :=
  byW (by kernel_rfl) (by kernel_rfl) e hk
theorem a64 {ann : Ann} {args : List AV} {h : AH} {R : AV → AH → Prop} {N : Prop} (e : fnW prog tyt f64 ann args h R = N) (hk : N) : ACall prog (.func (.func 64) [] []) args h R :=
  byW (by kernel_rfl) (by kernel_rfl) e hk
theorem a65 {ann : Ann} {args : List AV} {h : AH} {R : AV → AH → Prop} {N : Prop} (e : fnW prog tyt f65 ann args h R = N) (hk : N) : ACall prog (.func (.func 65) [] []) args h R :=
  byW (by kernel_rfl) (by kernel_rfl) e hk
theorem a66 {ann : Ann} {args : List AV} {h : AH} {R : AV → AH → Prop} {N : Prop} (e : fnW prog tyt f66 ann args h R = N) (hk : N) : ACall prog (.func (.func 66) [] []) args h R :=
  byW (by kernel_rfl) (by kernel_rfl) e hk
theorem a67 {ann : Ann} {args : List AV} {h : AH} {R : AV → AH → Prop} {N : Prop} (e : fnW prog tyt f67 ann args h R = N) (hk : N) : ACall prog (.func (.func 67) [] []) args h R :=
  byW (by kernel_rfl) (by kernel_rfl) e hk
theorem a68 {ann : Ann} {args : List AV} {h : AH} {R : AV → AH → Prop} {N : Prop} (e : fnW prog tyt f68 ann args h R = N) (hk : N) : ACall prog (.func (.func 68) [] []) args h R :=
  byW (by kernel_rfl) (by kernel_rfl) e hk
theorem a69 {ann : Ann} {args : List AV} {h : AH} {R : AV → AH → Prop} {N : Prop} (e : fnW prog tyt f69 ann args h R = N) (hk : N) : ACall prog (.func (.func 69) [] []) args h R :=
  byW (by kernel_rfl) (by kernel_rfl) e hk
theorem a70 {ann : Ann} {args : List AV} {h : AH} {R : AV → AH → Prop} {N : Prop} (e : fnW prog tyt f70 ann args h R = N) (hk : N) : ACall prog (.func (.func 70) [] []) args h R :=
  byW (by kernel_rfl) (by kernel_rfl) e hk
theorem a71 {ann : Ann} {args : List AV} {h : AH} {R : AV → AH → Prop} {N : Prop} (e : fnW prog tyt f71 ann args h R = N) (hk : N) : ACall prog (.func (.func 71) [] []) args h R :=
  byW (by kernel_rfl) (by kernel_rfl) e hk
theorem a72 {ann : Ann} {args : List AV} {h : AH} {R : AV → AH → Prop} {N : Prop} (e : fnW prog tyt f72 ann args h R = N) (hk : N) : ACall prog (.func (.func 72) [] []) args h R :=
  byW (by kernel_rfl) (by kernel_rfl) e hk
theorem a73 {ann : Ann} {args : List AV} {h : AH} {R : AV → AH → Prop} {N : Prop} (e : fnW prog tyt f73 ann args h R = N) (hk : N) : ACall prog (.func (.func 73) [] []) args h R :=
  byW (by kernel_rfl) (by kernel_rfl) e hk
theorem a74 {ann : Ann} {args : List AV} {h : AH} {R : AV → AH → Prop} {N : Prop} (e : fnW prog tyt f74 ann args h R = N) (hk : N) : ACall prog (.func (.func 74) [] []) args h R :=
  byW (by kernel_rfl) (by kernel_rfl) e hk
theorem a75 {ann : Ann} {args : List AV} {h : AH} {R : AV → AH → Prop} {N : Prop} (e : fnW prog tyt f75 ann args h R = N) (hk : N) : ACall prog (.func (.func 75) [] []) args h R :=
  byW (by kernel_rfl) (by kernel_rfl) e hk
theorem a76 {ann : Ann} {args : List AV} {h : AH} {R : AV → AH → Prop} {N : Prop} (e : fnW prog tyt f76 ann args h R = N) (hk : N) : ACall prog (.func (.func 76) [] []) args h R :=
  byW (by kernel_rfl) (by kernel_rfl) e hk
theorem a77 {ann : Ann} {args : List AV} {h : AH} {R : AV → AH → Prop} {N : Prop} (e : fnW prog tyt f77 ann args h R = N) (hk : N) : ACall prog (.func (.func 77) [] []) args h R :=
  byW (by kernel_rfl) (by kernel_rfl) e hk
theorem a78 {ann : Ann} {args : List AV} {h : AH} {R : AV → AH → Prop} {N : Prop} (e : fnW prog tyt f78 ann args h R = N) (hk : N) : ACall prog (.func (.func 78) [] []) args h R :=
  byW (by kernel_rfl) (by kernel_rfl) e hk
theorem a79 {ann : Ann} {args : List AV} {h : AH} {R : AV → AH → Prop} {N : Prop} (e : fnW prog tyt f79 ann args h R = N) (hk : N) : ACall prog (.func (.func 79) [] []) args h R :=
  byW (by kernel_rfl) (by kernel_rfl) e hk
theorem a120 {ann : Ann} {args : List AV} {h : AH} {R : AV → AH → Prop} {N : Prop} (e : fnW prog tyt f120 ann args h R = N) (hk : N) : ACall prog (.func (.func 120) [] []) args h R :=
  byW (by kernel_rfl) (by kernel_rfl) e hk
theorem a121 {ann : Ann} {args : List AV} {h : AH} {R : AV → AH → Prop} {N : Prop} (e : fnW prog tyt f121 ann args h R = N) (hk : N) : ACall prog (.func (.func 121) [] []) args h R :=
  byW (by kernel_rfl) (by kernel_rfl) e hk
theorem a122 {ann : Ann} {args : List AV} {h : AH} {R : AV → AH → Prop} {N : Prop} (e : fnW prog tyt f122 ann args h R = N) (hk : N) : ACall prog (.func (.func 122) [] []) args h R :=
  byW (by kernel_rfl) (by kernel_rfl) e hk
theorem a123 {ann : Ann} {args : List AV} {h : AH} {R : AV → AH → Prop} {N : Prop} (e : fnW prog tyt f123 ann args h R = N) (hk : N) : ACall prog (.func (.func 123) [] []) args h R :=
  byW (by kernel_rfl) (by kernel_rfl) e hk
theorem a124 {ann : Ann} {args : List AV} {h : AH} {R : AV → AH → Prop} {N : Prop} (e : fnW prog tyt f124 ann args h R = N) (hk : N) : ACall prog (.func (.func 124) [] []) args h R :=
  byW (by kernel_rfl) (by kernel_rfl) e hk
theorem a125 {ann : Ann} {args : List AV} {h : AH} {R : AV → AH → Prop} {N : Prop} (e : fnW prog tyt f125 ann args h R = N) (hk : N) : ACall prog (.func (.func 125) [] []) args h R :=
  byW (by kernel_rfl) (by kernel_rfl) e hk
theorem a126 {ann : Ann} {args : List AV} {h : AH} {R : AV → AH → Prop} {N : Prop} (e : fnW prog tyt f126 ann args h R = N) (hk : N) : ACall prog (.func (.func 126) [] []) args h R :=
  byW (by kernel_rfl) (by kernel_rfl) e hk
theorem a127 {ann : Ann} {args : List AV} {h : AH} {R : AV → AH → Prop} {N : Prop} (e : fnW prog tyt f127 ann args h R = N) (hk : N) : ACall prog (.func (.func 127) [] []) args h R :=
  byW (by kernel_rfl) (by kernel_rfl) e hk
theorem a128 {ann : Ann} {args : List AV} {h : AH} {R : AV → AH → Prop} {N : Prop} (e : fnW prog tyt f128 ann args h R = N) (hk : N) : ACall prog (.func (.func 128) [] []) args h R :=
  byW (by kernel_rfl) (by kernel_rfl) e hk
theorem a129 {ann : Ann} {args : List AV} {h : AH} {R : AV → AH → Prop} {N : Prop} (e : fnW prog tyt f129 ann args h R = N) (hk : N) : ACall prog (.func (.func 129) [] []) args h R :=
  byW (by kernel_rfl) (by kernel_rfl) e hk
theorem a130 {ann : Ann} {args : List AV} {h : AH} {R : AV → AH → Prop} {N : Prop} (e : fnW prog tyt f130 ann args h R = N) (hk : N) : ACall prog (.func (.func 130) [] []) args h R :=
  byW (by kernel_rfl) (by kernel_rfl) e hk
theorem a131 {ann : Ann} {args : List AV} {h : AH} {R : AV → AH → Prop} {N : Prop} (e : fnW prog tyt f131 ann args h R = N) (hk : N) : ACall prog (.func (.func 131) [] []) args h R :=
  byW (by kernel_rfl) (by kernel_rfl) e hk
theorem a132 {ann : Ann} {args : List AV} {h : AH} {R : AV → AH → Prop} {N : Prop} (e : fnW prog tyt f132 ann args h R = N) (hk : N) : ACall prog (.func (.func 132) [] []) args h R :=
  byW (by kernel_rfl) (by kernel_rfl) e hk
theorem a133 {ann : Ann} {args : List AV} {h : AH} {R : AV → AH → Prop} {N : Prop} (e : fnW prog tyt f133 ann args h R = N) (hk : N) : ACall prog (.func (.func 133) [] []) args h R :=
  byW (by kernel_rfl) (by kernel_rfl) e hk
theorem a134 {ann : Ann} {args : List AV} {h : AH} {R : AV → AH → Prop} {N : Prop} (e : fnW prog tyt f134 ann args h R = N) (hk : N) : ACall prog (.func (.func 134) [] []) args h R :=
  byW (by kernel_rfl) (by kernel_rfl) e hk
theorem a135 {ann : Ann} {args : List AV} {h : AH} {R : AV → AH → Prop} {N : Prop} (e : fnW prog tyt f135 ann args h R = N) (hk : N) : ACall prog (.func (.func 135) [] []) args h R :=
  byW (by kernel_rfl) (by kernel_rfl) e hk
theorem a136 {ann : Ann} {args : List AV} {h : AH} {R : AV → AH → Prop} {N : Prop} (e : fnW prog tyt f136 ann args h R = N) (hk : N) : ACall prog (.func (.func 136) [] []) args h R :=
  byW (by kernel_rfl) (by kernel_rfl) e hk
theorem a137 {ann : Ann} {args : List AV} {h : AH} {R : AV → AH → Prop} {N : Prop} (e : fnW prog tyt f137 ann args h R = N) (hk : N) : ACall prog (.func (.func 137) [] []) args h R :=
  byW (by kernel_rfl) (by kernel_rfl) e hk
theorem a178 {ann : Ann} {args : List AV} {h : AH} {R : AV → AH → Prop} {N : Prop} (e : fnW prog tyt f178 ann args h R = N) (hk : N) : ACall prog (.func (.func 178) [] []) args h R :=
  byW (by kernel_rfl) (by kernel_rfl) e hk
theorem a179 {ann : Ann} {args : List AV} {h : AH} {R : AV → AH → Prop} {N : Prop} (e : fnW prog tyt f179 ann args h R = N) (hk : N) : ACall prog (.func (.func 179) [] []) args h R :=
  byW (by kernel_rfl) (by kernel_rfl) e hk
theorem a180 {ann : Ann} {args : List AV} {h : AH} {R : AV → AH → Prop} {N : Prop} (e : fnW prog tyt f180 ann args h R = N) (hk : N) : ACall prog (.func (.func 180) [] []) args h R :=
  byW (by kernel_rfl) (by kernel_rfl) e hk
theorem a181 {ann : Ann} {args : List AV} {h : AH} {R : AV → AH → Prop} {N : Prop} (e : fnW prog tyt f181 ann args h R = N) (hk : N) : ACall prog (.func (.func 181) [] []) args h R :=
  byW (by kernel_rfl) (by kernel_rfl) e hk
theorem a182 {ann : Ann} {args : List AV} {h : AH} {R : AV → AH → Prop} {N : Prop} (e : fnW prog tyt f182 ann args h R = N) (hk : N) : ACall prog (.func (.func 182) [] []) args h R :=
  byW (by kernel_rfl) (by kernel_rfl) e hk
theorem a252 {ann : Ann} {args : List AV} {h : AH} {R : AV → AH → Prop} {N : Prop} (e : fnW prog tyt f252 ann args h R = N) (hk : N) : ACall prog (.func (.func 252) [] []) args h R :=
  byW (by kernel_rfl) (by kernel_rfl) e hk
end Go.Lm
/- Law 36, main part: numbers to bytes. -/
namespace Go.Lm
open Go Go.La Go.RowKit Go.Proofs.Tryz

theorem or_128 (r : Nat) (h : r < 128) : r ||| 128 = 128 + r := by
  rw [Nat.or_comm]
  have := Nat.two_pow_add_eq_or_of_lt (i := 7) (b := r) (by omega) 1
  rw [show 2 ^ 7 * 1 = 128 from rfl] at this
  exact this.symm
theorem b127 (b : Nat) (hb : b < 256) : (BitVec.ofNat 8 b ||| 128#8).toNat = b % 128 + 128 := by
  rw [BitVec.toNat_or, BitVec.toNat_ofNat, BitVec.toNat_ofNat]
  rw [show b % 2 ^ 8 = b by omega, show 128 % 2 ^ 8 = 128 from rfl]
  by_cases h : b < 128
  · rw [or_128 b h]; omega
  · have e : b = 128 + (b - 128) := by omega
    rw [e, ← or_128 (b - 128) (by omega), Nat.or_assoc, Nat.or_self, or_128 _ (by omega)]; omega
theorem or128 (n : Nat) : IntKind.u8.wrap (↑(BitVec.ofInt IntKind.u8.bits (IntKind.u8.wrap (n : Int)) ||| BitVec.ofInt IntKind.u8.bits (128 : Int)).toNat : Int) = ((n % 128 + 128 : Nat) : Int) := by
  have e1 : IntKind.u8.wrap (n : Int) = ((n % 256 : Nat) : Int) := by rw [wrap_u8]; omega
  have e2 : BitVec.ofInt IntKind.u8.bits ((n % 256 : Nat) : Int) = BitVec.ofNat 8 (n % 256) := by rw [BitVec.ofInt_natCast]; rfl
  have e3 : BitVec.ofInt IntKind.u8.bits (128 : Int) = 128#8 := rfl
  rw [e1, e2, e3]
  have := b127 (n % 256) (Nat.mod_lt _ (by omega))
  rw [wrap_u8]
  have e4 : (BitVec.ofNat 8 (n % 256) ||| 128#8).toNat = n % 256 % 128 + 128 := this
  show ((BitVec.ofNat 8 (n % 256) ||| 128#8).toNat : Int) % 256 = _
  rw [e4]; omega
theorem byteA_ofNat {n : Nat} (h : n < 256) : byteA (UInt8.ofNat n) = .int .u8 n := by
  simp only [byteA]; congr 1; simp; omega
theorem shr7 (n : Nat) : ((n : Int)).fdiv ((2 : Int) ^ Min.min (Int.toNat (7 : Int)) IntKind.u64.bits) = ((n / 128 : Nat) : Int) := by
  have : (2 : Int) ^ Min.min (Int.toNat (7 : Int)) IntKind.u64.bits = 128 := by decide
  rw [this, Int.fdiv_eq_ediv_of_nonneg _ (by omega)]; omega

/-- A row of bytes, in a block that is not older than lo. -/
def BS (h : AH) (lo : Nat) (sl : Sl) (t : Str) : Prop :=
  sl.len = t.length ∧ match sl.1 with
    | none => t = []
    | some p => p.o = 0 ∧ lo ≤ p.b ∧ p.b < h.next ∧ ∃ fz cl, h.get p.b = some (.cells false fz ⟨5, false, cl⟩ (t.map byteA)) ∧ fz ≤ t.length
theorem BS.none (h : AH) (lo : Nat) : BS h lo ⟨none, 0⟩ [] := ⟨rfl, rfl⟩
theorem BS.mono {h h' : AH} {lo : Nat} {sl : Sl} {t : Str} (b : BS h lo sl t) (he : Ext h h') : BS h' lo sl t := by
  obtain ⟨a, n⟩ := sl
  cases a with
  | none => exact b
  | some p => exact ⟨b.1, b.2.1, b.2.2.1, Nat.lt_of_lt_of_le b.2.2.2.1 he.1, by obtain ⟨_, _, _, h4, fz, cl, h5, h6⟩ := b; exact ⟨fz, cl, (he.2 _ h4).trans h5, h6⟩⟩

theorem c121 {n : Nat} (hn : n < 2 ^ 64) {h : AH} {R : AV → AH → Prop} (hk : R (.str (dig n)) h) : ACall prog (.func (.func 121) [] []) [.int .u64 n] h R := by
  refine ACall.pure (a121 (w121 _ _ _) ?_)
  refine ⟨fun (x, sl, _) h1 => Ext h h1 ∧ ∃ (m : Nat) (done : Str), x = m ∧ m < 2 ^ 64 ∧ dig n = done ++ dig m ∧ BS h1 h.next sl done, fun (x, _, _) _ => x.toNat, ⟨Ext.refl h, n, [], rfl, hn, rfl, BS.none _ _⟩, ?_⟩
  rintro x sl h1 ⟨he, m, done, rfl, hm, hd, hl, hb⟩
  have hlen : done.length + (dig m).length ≤ 10 := by rw [← List.length_append, ← hd]; exact dig_len10 hn
  refine ⟨fun hx => ?_, fun hx => ?_⟩
  · have hx : ¬ m < 128 := by have := of_decide_eq_true hx; omega
    rw [dig_ge hx] at hd hlen
    rw [or128 m]
    have hstep : dig n = (done ++ [UInt8.ofNat (m % 128 + 128)]) ++ dig (m / 128) := by rw [hd]; simp
    have hmap : ∀ t : Str, (t.map byteA ++ [AV.int .u8 ((m % 128 + 128 : Nat) : Int)]) = (t ++ [UInt8.ofNat (m % 128 + 128)]).map byteA := fun t => by rw [List.map_append, List.map_cons, List.map_nil, byteA_ofNat (by omega)]
    refine ⟨[.int .u8 ((m % 128 + 128 : Nat) : Int)], rdg (get_new _ _) (by simp), by rw [hl]; simp only [List.length_cons] at hlen; omega, ?_⟩
    obtain ⟨a, k⟩ := sl
    simp only at hl hb
    subst hl
    cases a with
    | none =>
      subst hb
      refine ⟨by decide, ⟨(he.new _).new _, m / 128, [UInt8.ofNat (m % 128 + 128)], shr7 m, by omega, by simpa using hstep, rfl, rfl, ?_, ?_, 0, true, ?_, Nat.zero_le _⟩, ?_⟩
      · exact Nat.le_succ_of_le he.1
      · simp
      · rw [← AH.new_next h1, get_new, show [AV.int .u8 ((m % 128 + 128 : Nat) : Int)] = _ from hmap []]; rfl
      · simp only [shr7]; omega
    | some p =>
      obtain ⟨po, plo, pn, fz, cl, hg, hfz⟩ := hb
      obtain ⟨pb, _⟩ := p
      simp only at po plo pn hg
      subst po
      refine ⟨fz, false, cl, done.map byteA, get_new' hg pn, by simp, by simpa using hfz, by decide, ⟨((he.new _).set plo _).new _, m / 128, done ++ [UInt8.ofNat (m % 128 + 128)], shr7 m, by omega, hstep, by simp, rfl, ?_, ?_, fz - 0, cl && Nat.beq 0 0, ?_, ?_⟩, ?_⟩
      · exact Nat.le_succ_of_le he.1
      · simp
      · rw [show h1.next + 1 = ((h1.new (AObj.cells false 0 ⟨5, false, true⟩ [AV.int .u8 ((m % 128 + 128 : Nat) : Int)])).set pb none).next from rfl, get_new]
        rw [← hmap]; simp [List.take_of_length_le]
      · simp; omega
      · simp only [shr7]; omega
  · have hx : m < 128 := by have := of_decide_eq_false hx; omega
    rw [dig_lt hx] at hd
    have e0 : IntKind.u8.wrap (m : Int) = m := by rw [wrap_u8]; omega
    rw [e0]
    have hmap : ∀ t : Str, (t.map byteA ++ [AV.int .u8 (m : Int)]) = (t ++ [UInt8.ofNat m]).map byteA := fun t => by rw [List.map_append, List.map_cons, List.map_nil, byteA_ofNat (by omega)]
    refine ⟨[.int .u8 (m : Int)], rdg (get_new _ _) (by simp), by rw [hl]; have := hlen; rw [dig_lt hx] at this; simp only [List.length_cons, List.length_nil] at this; omega, ?_⟩
    obtain ⟨a, k⟩ := sl
    simp only at hl hb
    subst hl
    cases a with
    | none =>
      subst hb
      refine ⟨[UInt8.ofNat m], ?_, (he.new _).new _, Low.str _ _, ?_⟩
      · rw [show [UInt8.ofNat m].map byteA = [AV.int .u8 (m : Int)] from (hmap []).symm]
        exact rdg (get_new _ _) (by simp)
      · rw [hd] at hk; exact hk
    | some p =>
      obtain ⟨po, plo, pn, fz, cl, hg, hfz⟩ := hb
      obtain ⟨pb, _⟩ := p
      simp only at po plo pn hg
      subst po
      refine ⟨fz, false, cl, done.map byteA, get_new' hg pn, by simp, by simpa using hfz, done ++ [UInt8.ofNat m], ?_, ((he.new _).set plo _).new _, Low.str _ _, by rw [hd] at hk; exact hk⟩
      rw [← hmap]
      refine (rdg (get_new _ _) (by simp)).trans ?_
      simp [List.take_of_length_le]
theorem c62 {n : Int} (hn : I64 n) {h : AH} {R : AV → AH → Prop} (hk : R (.str (num n)) h) : ACall prog (.func (.func 62) [] []) [.int .i64 n] h R := by
  refine a62 (w62 _ _ _) ⟨fun hx => ?_, fun hx => ?_⟩
  · rw [num, if_pos (of_decide_eq_true hx)] at hk; exact hk
  · have hx : ¬ n < 0 := of_decide_eq_false hx
    rw [num, if_neg hx] at hk
    unfold I64 at hn
    rw [wrap_u64 (by omega) (by omega), show n = (n.toNat : Int) by omega]
    exact c121 (by omega) ⟨_, rfl, hk⟩
theorem tmod128 (m : Nat) : (m : Int).tmod (128 : Int) = ((m % 128 : Nat) : Int) := rfl
theorem tdiv128 (m : Nat) : (m : Int).tdiv (128 : Int) = ((m / 128 : Nat) : Int) := rfl
theorem c69 {n : Nat} (hn : n < 2 ^ 64) {h : AH} {R : AV → AH → Prop} (hk : R (.str (dig n)) h) : ACall prog (.func (.func 69) [] []) [.int .u64 n] h R := by
  refine ACall.pure (a69 (w69 _ _ _) ?_)
  refine ⟨fun (s, x, _) h1 => Ext h h1 ∧ ∃ m : Nat, x = m ∧ m < 2 ^ 64 ∧ dig n = s ++ dig m, fun (_, x, _) _ => x.toNat, ⟨Ext.refl h, n, rfl, hn, rfl⟩, ?_⟩
  rintro s x h1 ⟨he, m, rfl, hm, hd⟩
  have hlen : s.length + (dig m).length ≤ 10 := by rw [← List.length_append, ← hd]; exact dig_len10 hn
  simp only [tmod128, tdiv128]
  have e0 : IntKind.u8.wrap ((m % 128 : Nat) : Int) = ((m % 128 : Nat) : Int) := by rw [wrap_u8]; omega
  have e1 : IntKind.u8.wrap (((m % 128 : Nat) : Int) + 128) = ((m % 128 + 128 : Nat) : Int) := by rw [wrap_u8]; omega
  have e2 : IntKind.u64.wrap ((m / 128 : Nat) : Int) = ((m / 128 : Nat) : Int) := wrap_u64 (by omega) (by omega)
  rw [e0, e1, e2]
  refine ⟨by decide, by decide, fun hx => ?_, fun hx => ?_⟩
  · have hx : m < 128 := by have := eq_of_beq hx; omega
    rw [dig_lt hx] at hd hlen
    refine ⟨[UInt8.ofNat m], ?_, by simp only [List.length_cons, List.length_nil] at hlen ⊢; omega, he.new _, Low.str _ _, by rw [hd] at hk; exact hk⟩
    rw [Nat.mod_eq_of_lt hx, show [UInt8.ofNat m].map byteA = [AV.int .u8 (m : Int)] by rw [List.map_cons, byteA_ofNat (by omega)]; rfl]
    exact rdg (get_new _ _) (by simp)
  · have hx : ¬ m < 128 := fun h => by rw [show m / 128 = 0 by omega] at hx; exact absurd hx (by decide)
    rw [dig_ge hx] at hd hlen
    refine ⟨[UInt8.ofNat (m % 128 + 128)], ?_, by simp only [List.length_cons, List.length_nil] at hlen ⊢; omega, ⟨he.new _, m / 128, rfl, by omega, by rw [hd]; simp⟩, ?_⟩
    · rw [show [UInt8.ofNat (m % 128 + 128)].map byteA = [AV.int .u8 ((m % 128 + 128 : Nat) : Int)] by rw [List.map_cons, byteA_ofNat (by omega)]; rfl]
      exact rdg (get_new _ _) (Nat.le_refl _)
    · show ((m / 128 : Nat) : Int).toNat < ((m : Nat) : Int).toNat; omega
theorem c67 {n : Int} (hn : I64 n) {h : AH} {R : AV → AH → Prop} (hk : R (.str (num n)) h) : ACall prog (.func (.func 67) [] []) [.int .i64 n] h R := by
  refine a67 (w67 _ _ _) ⟨fun hx => ?_, fun hx => ?_⟩
  · rw [num, if_pos (of_decide_eq_true hx)] at hk; exact hk
  · have hx : ¬ n < 0 := of_decide_eq_false hx
    rw [num, if_neg hx] at hk
    unfold I64 at hn
    rw [wrap_u64 (by omega) (by omega), show n = (n.toNat : Int) by omega]
    exact c69 (by omega) ⟨_, rfl, hk⟩
theorem zig_lt {n : Int} (hn : I64 n) : zig n < 2 ^ 64 := by unfold I64 at hn; unfold zig; split <;> omega
theorem c70 {n : Int} (hn : I64 n) {h : AH} {R : AV → AH → Prop} (hk : R (.int .u64 (zig n)) h) : ACall prog (.func (.func 70) [] []) [.int .i64 n] h R := by
  refine a70 (w70 _ _ _) ⟨fun hx => ?_, fun hx => ?_⟩
  · have hx : 0 ≤ n := of_decide_eq_true hx
    rw [zig, if_pos hx] at hk
    unfold I64 at hn
    rw [wrap_u64 (n := n) (by omega) (by omega), wrap_u64 (by omega) (by omega), show (2 * n : Int) = ((2 * n).toNat : Int) by omega]; exact hk
  · have hx : ¬ 0 ≤ n := of_decide_eq_false hx
    rw [zig, if_neg hx] at hk
    have hn' := hn
    unfold I64 at hn
    rw [wrap_i64 (n := n + 1) (by unfold I64; omega), wrap_i64 (n := 0 - (n + 1)) (by unfold I64; omega), wrap_u64 (n := 0 - (n + 1)) (by omega) (by omega), wrap_u64 (n := 2 * (0 - (n + 1))) (by omega) (by omega), wrap_u64 (by omega) (by omega), show (2 * (0 - (n + 1)) + 1 : Int) = ((2 * (-(n + 1)) + 1).toNat : Int) by omega]; exact hk
theorem c28 {n : Int} (hn : I64 n) {h : AH} {R : AV → AH → Prop} (hk : R (.str (sgn n)) h) : ACall prog (.func (.func 28) [] []) [.int .i64 n] h R :=
  a28 (w28 _ _ _) (c70 hn ⟨_, rfl, c69 (zig_lt hn) ⟨_, rfl, hk⟩⟩)
theorem xorW (w a b : Nat) : (BitVec.ofInt w (a : Int) ^^^ BitVec.ofInt w (b : Int)).toNat = (a % 2 ^ w) ^^^ (b % 2 ^ w) := by
  rw [BitVec.toNat_xor, BitVec.ofInt_natCast, BitVec.ofInt_natCast, BitVec.toNat_ofNat, BitVec.toNat_ofNat]
theorem xor1 (a : Nat) (h : a < 2 ^ 64) : a ^^^ 18446744073709551615 = 18446744073709551615 - a := by
  have := congrArg BitVec.toNat (BitVec.xor_allOnes (x := BitVec.ofNat 64 a))
  rw [BitVec.toNat_xor, BitVec.toNat_not, BitVec.toNat_ofNat, BitVec.toNat_allOnes, Nat.mod_eq_of_lt h] at this
  exact this
theorem bits64 : IntKind.u64.bits = 64 := rfl
theorem c66 {n : Int} (hn : I64 n) {h : AH} {R : AV → AH → Prop} (hk : R (.str (sgn n)) h) : ACall prog (.func (.func 66) [] []) [.int .i64 n] h R := by
  refine a66 (w66 _ _ _) ⟨by decide, by decide, ?_⟩
  have hn' := hn
  unfold I64 at hn
  have p1 : (2 : Int) ^ Min.min (Int.toNat (1 : Int)) IntKind.u64.bits = 2 := by decide
  have p2 : (2 : Int) ^ Min.min (Int.toNat (63 : Int)) IntKind.i64.bits = 9223372036854775808 := by decide
  have key : ∃ a b : Nat, IntKind.u64.wrap (IntKind.u64.wrap n * 2) = a ∧ IntKind.u64.wrap (n / 9223372036854775808) = b ∧ (a % 2 ^ 64) ^^^ (b % 2 ^ 64) = zig n := by
    by_cases h0 : 0 ≤ n
    · refine ⟨(2 * n).toNat, 0, ?_, ?_, ?_⟩
      · rw [wrap_u64 (n := n) (by omega) (by omega), wrap_u64 (by omega) (by omega)]; omega
      · rw [show n / 9223372036854775808 = 0 by omega]; decide
      · rw [zig, if_pos h0, show 0 % 2 ^ 64 = 0 from rfl, Nat.xor_zero]; omega
    · refine ⟨(2 * n + 2 ^ 64).toNat, 18446744073709551615, ?_, ?_, ?_⟩
      · have e1 : IntKind.u64.wrap n = n + 2 ^ 64 := by simp only [IntKind.wrap, IntKind.signed, IntKind.bits]; simp; omega
        rw [e1]; simp only [IntKind.wrap, IntKind.signed, IntKind.bits]; simp; omega
      · rw [show n / 9223372036854775808 = -1 by omega]; decide
      · rw [show 18446744073709551615 % 2 ^ 64 = 18446744073709551615 from rfl, xor1 _ (Nat.mod_lt _ (by decide)), zig, if_neg h0]; omega
  obtain ⟨a, b, e1, e2, e3⟩ := key
  rw [p1, p2, Int.fdiv_eq_ediv_of_nonneg _ (by omega), e1, e2, xorW, bits64, e3, wrap_u64 (by omega) (by have := zig_lt hn'; omega)]
  exact c121 (zig_lt hn') ⟨_, rfl, hk⟩
end Go.Lm
/- Law 36, main part: bytes to numbers. -/
namespace Go.Lm
open Go Go.La Go.RowKit Go.Proofs.Tryz

/-- Where the first byte below 128 is, among the first n. -/
def lst : Nat → Str → Option Nat
  | 0, _ => none
  | _ + 1, [] => none
  | n + 1, b :: r => if b.toNat < 128 then some 0 else (lst n r).map (· + 1)
def val : Str → Nat
  | [] => 0
  | b :: r => b.toNat % 128 + 128 * val r
def bad (s : Str) (k : Nat) : Prop := (0 < k ∧ (s.getD k 0).toNat = 0) ∨ (k = 9 ∧ 1 < (s.getD k 0).toNat)
instance (s : Str) (k : Nat) : Decidable (bad s k) := inferInstanceAs (Decidable (_ ∨ _))
def tk (lim : Nat) (s : Str) : Nat × Nat × Int :=
  match lst lim s with
  | none => (0, 0, if lim ≤ s.length then 2 else 3)
  | some k => if bad s k then (0, 0, 2) else (val (s.take (k + 1)), k + 1, 0)

theorem drop_get {s : Str} {i : Nat} (h : i < s.length) : s.drop i = s.getD i 0 :: s.drop (i + 1) := by
  rw [List.drop_eq_getElem_cons h, List.getD_eq_getElem?_getD, List.getElem?_eq_getElem h]; rfl
theorem val_append : ∀ (a b : Str), val (a ++ b) = val a + 128 ^ a.length * val b
  | [], b => by simp [val]
  | x :: a, b => by
    simp only [List.cons_append, val, val_append a b, List.length_cons, Nat.pow_succ]
    rw [Nat.mul_add, Nat.mul_comm (128 ^ a.length) 128, Nat.mul_assoc, Nat.add_assoc]
theorem val_lt : ∀ (a : Str), val a < 128 ^ a.length
  | [] => by simp [val]
  | x :: a => by have := val_lt a; simp only [val, List.length_cons, Nat.pow_succ]; omega
theorem val_take {s : Str} {i : Nat} (h : i < s.length) : val (s.take (i + 1)) = val (s.take i) + 128 ^ i * ((s.getD i 0).toNat % 128) := by
  have e : s.take (i + 1) = s.take i ++ [s.getD i 0] := by
    rw [List.take_add, drop_get h]; simp
  rw [e, val_append, List.length_take, Nat.min_eq_left (by omega)]
  simp [val]
theorem val_take_lt (s : Str) (i : Nat) : val (s.take i) < 128 ^ i := by
  refine Nat.lt_of_lt_of_le (val_lt _) (Nat.pow_le_pow_right (by omega) ?_)
  rw [List.length_take]; omega
theorem lst_step {lim i : Nat} {s : Str} (hi : i < lim) (hs : i < s.length) : lst (lim - i) (s.drop i) = if (s.getD i 0).toNat < 128 then some 0 else (lst (lim - (i + 1)) (s.drop (i + 1))).map (· + 1) := by
  rw [drop_get hs, show lim - i = (lim - (i + 1)) + 1 by omega, lst]
theorem lst_end {lim i : Nat} {s : Str} (h : lim ≤ i ∨ s.length ≤ i) : lst (lim - i) (s.drop i) = none := by
  rcases h with h | h
  · rw [show lim - i = 0 by omega, lst]
  · rw [List.drop_of_length_le h]
    cases lim - i <;> rfl
theorem lst_lt : ∀ {lim : Nat} {s : Str} {k : Nat}, lst lim s = some k → k < lim ∧ k < s.length ∧ (s.getD k 0).toNat < 128
  | 0, _, _, h => by cases h
  | _ + 1, [], _, h => by cases h
  | n + 1, b :: r, k, h => by
    simp only [lst] at h
    split at h
    · cases h; exact ⟨by omega, by simp, by simpa⟩
    · cases e : lst n r with
      | none => rw [e] at h; cases h
      | some j =>
        rw [e] at h
        have hk : j + 1 = k := Option.some.inj h
        subst hk
        have := lst_lt e
        exact ⟨by omega, by simp; omega, by simpa using this.2.2⟩
theorem wrapN {n : Nat} (h : n < 2 ^ 62) : IntKind.i64.wrap (n : Int) = n := wrap_i64 (by unfold I64; omega)

def lstI (o : Option Nat) : Int := match o with | none => -1 | some k => k
theorem c133 {s : Str} {lim : Nat} (hl : lim < 2 ^ 60) {h : AH} {R : AV → AH → Prop} (hk : R (.int .i64 (lstI (lst lim s))) h) : ACall prog (.func (.func 133) [] []) [.str s, .int .i64 lim] h R := by
  refine a133 (w133 _ _ _ _) ⟨fun (x, _) h1 => h1 = h ∧ ∃ i : Nat, x = i ∧ i ≤ lim ∧ lst lim s = (lst (lim - i) (s.drop i)).map (· + i), fun (x, _) _ => (lim - x).toNat, ⟨rfl, 0, rfl, Nat.zero_le _, by simp⟩, ?_⟩
  rintro x h1 ⟨rfl, i, rfl, hi, he⟩
  have rest : ∀ (hs : i < s.length) (hl' : i < lim), (0 : Int) ≤ (i : Int) ∧ (i : Int) < (↑(List.length s) : Int) ∧
          (Decidable.decide ((↑(List.getD s (i : Int).toNat (0 : UInt8)).toNat : Int) < (128 : Int)) = true → R (AV.int IntKind.i64 i) h1) ∧
           (Decidable.decide ((↑(List.getD s (i : Int).toNat (0 : UInt8)).toNat : Int) < (128 : Int)) = false →
            (h1 = h1 ∧ ∃ j : Nat, IntKind.i64.wrap ((i : Int) + (1 : Int)) = j ∧ j ≤ lim ∧ lst lim s = (lst (lim - j) (s.drop j)).map (· + j)) ∧
             ((lim : Int) - IntKind.i64.wrap ((i : Int) + (1 : Int))).toNat < ((lim : Int) - (i : Int)).toNat) := by
    intro hs hl'
    have e1 : IntKind.i64.wrap ((i : Int) + (1 : Int)) = ((i + 1 : Nat) : Int) := wrapN (n := i + 1) (by omega)
    rw [e1, Int.toNat_natCast]
    refine ⟨by omega, by omega, fun hx => ?_, fun hx => ⟨⟨rfl, i + 1, rfl, by omega, ?_⟩, by omega⟩⟩
    · have hx : (s.getD i 0).toNat < 128 := by have := of_decide_eq_true hx; omega
      rw [he, lst_step hl' hs, if_pos hx] at hk
      simpa [lstI] using hk
    · have hx : ¬ (s.getD i 0).toNat < 128 := by have := of_decide_eq_false hx; omega
      rw [he, lst_step hl' hs, if_neg hx, Option.map_map]
      refine congrArg (fun f => Option.map f _) (funext fun a => ?_)
      show a + 1 + i = a + (i + 1); omega
  have done : (lim ≤ i ∨ s.length ≤ i) → R (AV.int IntKind.i64 (-1 : Int)) h1 := fun h => by
    rw [he, lst_end h] at hk; exact hk
  by_cases hs : i < s.length
  · rw [show Decidable.decide ((i : Int) < (↑(List.length s) : Int)) = true from decide_eq_true (by omega)]
    show (_ = true → _) ∧ (_ = false → _)
    by_cases hl' : i < lim
    · exact ⟨fun _ => rest hs hl', fun hx => absurd (of_decide_eq_false hx) (by omega)⟩
    · exact ⟨fun hx => absurd (of_decide_eq_true hx) (by omega), fun _ => done (.inl (by omega))⟩
  · rw [show Decidable.decide ((i : Int) < (↑(List.length s) : Int)) = false from decide_eq_false (by omega)]
    exact ⟨fun hx => (by cases hx), fun _ => done (.inr (by omega))⟩
theorem c134 {s : Str} (hs : s.length ≤ 10) (hv : val s < 2 ^ 64) {h : AH} {R : AV → AH → Prop} (hk : R (.int .u64 (val s)) h) : ACall prog (.func (.func 134) [] []) [.str s] h R := by
  refine a134 (w134 _ _ _) ⟨fun (x, u, _) h1 => h1 = h ∧ ∃ i : Nat, x = (i : Int) - 1 ∧ i ≤ s.length ∧ u = val (s.drop i), fun (x, _, _) _ => (x + 1).toNat, ⟨rfl, s.length, wrap_i64 (by unfold I64; omega), Nat.le_refl _, by simp [val]⟩, ?_⟩
  rintro x u h1 ⟨rfl, i, rfl, hi, rfl⟩
  refine ⟨fun hx => ?_, fun hx => ?_⟩
  · have hx : 0 < i := by have := of_decide_eq_true hx; omega
    have e1 : ((i : Int) - 1).toNat = i - 1 := by omega
    have hd := drop_get (s := s) (i := i - 1) (by omega)
    rw [show i - 1 + 1 = i by omega] at hd
    have hv2 : val (s.drop (i - 1)) = (s.getD (i - 1) 0).toNat % 128 + 128 * val (s.drop i) := by rw [hd, val]
    have hle : val (s.drop (i - 1)) ≤ val s := by
      have := val_append (s.take (i - 1)) (s.drop (i - 1))
      rw [List.take_append_drop] at this
      rw [this]
      exact Nat.le_trans (Nat.le_mul_of_pos_left _ (Nat.pow_pos (by omega))) (Nat.le_add_left _ _)
    have e3 : IntKind.u64.wrap (IntKind.u64.wrap (((val (s.drop i) : Nat) : Int) * 128) + IntKind.u64.wrap ((↑(s.getD ((i : Int) - 1).toNat 0).toNat : Int).tmod 128)) = ((val (s.drop (i - 1)) : Nat) : Int) := by
      rw [e1, tmod128, wrap_u64 (n := ((val (s.drop i) : Nat) : Int) * 128) (by omega) (by omega), wrap_u64 (n := (((s.getD (i - 1) 0).toNat % 128 : Nat) : Int)) (by omega) (by omega), wrap_u64 (by omega) (by omega)]
      omega
    rw [e3, wrap_i64 (n := (i : Int) - 1 - 1) (by unfold I64; omega)]
    exact ⟨by omega, by omega, by decide, ⟨rfl, i - 1, by omega, by omega, rfl⟩, by simp only; omega⟩
  · have hx : i = 0 := by have := of_decide_eq_false hx; omega
    subst hx
    exact hk
end Go.Lm
/- Law 36, main part: a number that bytes begin with. -/
namespace Go.Lm
open Go Go.La Go.RowKit Go.Proofs.Tryz

theorem byte_lt (s : Str) (i : Nat) : (s.getD i 0).toNat < 256 := (s.getD i 0).toNat_lt
theorem pow128 (i : Nat) (h : i ≤ 9) : (128 : Nat) ^ i ≤ 2 ^ 63 := Nat.le_trans (Nat.pow_le_pow_right (by omega) h) (by decide)
theorem and127 (c : Nat) (hc : c < 256) : (BitVec.ofInt IntKind.u8.bits (c : Int) &&& ~~~BitVec.ofInt IntKind.u8.bits (128 : Int)).toNat = c % 128 := by
  have e1 : BitVec.ofInt IntKind.u8.bits (c : Int) = BitVec.ofNat 8 c := by rw [BitVec.ofInt_natCast]; rfl
  have e2 : ~~~BitVec.ofInt IntKind.u8.bits (128 : Int) = 127#8 := rfl
  rw [e1, e2]
  show (BitVec.ofNat 8 c &&& 127#8).toNat = c % 128
  rw [BitVec.toNat_and, BitVec.toNat_ofNat, Nat.mod_eq_of_lt hc, show (127#8).toNat = 2 ^ 7 - 1 from rfl, Nat.and_two_pow_sub_one_eq_mod]
theorem or_at {u c i : Nat} (hu : u < 128 ^ i) (hc : c < 256) (hi : i ≤ 9) (hb : 128 ^ i * (c % 128) < 2 ^ 64) :
    IntKind.u64.wrap (↑(BitVec.ofInt IntKind.u64.bits (u : Int) ||| BitVec.ofInt IntKind.u64.bits (IntKind.u64.wrap (IntKind.u64.wrap (IntKind.u8.wrap (↑(BitVec.ofInt IntKind.u8.bits (c : Int) &&& ~~~BitVec.ofInt IntKind.u8.bits (128 : Int)).toNat : Int)) * (2 : Int) ^ Min.min (IntKind.i64.wrap ((7 : Int) * (i : Int))).toNat IntKind.u64.bits))).toNat : Int) = ((u + 128 ^ i * (c % 128) : Nat) : Int) := by
  have a1 := and127 c hc
  have a2 : IntKind.u8.wrap ((c % 128 : Nat) : Int) = ((c % 128 : Nat) : Int) := by rw [wrap_u8]; omega
  have a3 : IntKind.u64.wrap ((c % 128 : Nat) : Int) = ((c % 128 : Nat) : Int) := wrap_u64 (by omega) (by omega)
  have a4 : IntKind.i64.wrap ((7 : Int) * (i : Int)) = ((7 * i : Nat) : Int) := by rw [show (7 : Int) * (i : Int) = ((7 * i : Nat) : Int) by omega]; exact wrapN (by omega)
  have a5 : (2 : Int) ^ Min.min (((7 * i : Nat) : Int)).toNat IntKind.u64.bits = ((128 ^ i : Nat) : Int) := by
    rw [show Min.min (((7 * i : Nat) : Int)).toNat IntKind.u64.bits = 7 * i by simp [IntKind.bits]; omega, Int.pow_mul]; simp
  have hp := pow128 i hi
  rw [a1, a2, a3, a4, a5, show ((c % 128 : Nat) : Int) * ((128 ^ i : Nat) : Int) = ((128 ^ i * (c % 128) : Nat) : Int) by rw [Nat.mul_comm]; exact (Int.natCast_mul _ _).symm, wrap_u64 (n := ((128 ^ i * (c % 128) : Nat) : Int)) (by omega) (by omega)]
  have b1 : (BitVec.ofInt IntKind.u64.bits (u : Int) ||| BitVec.ofInt IntKind.u64.bits ((128 ^ i * (c % 128) : Nat) : Int)).toNat = u + 128 ^ i * (c % 128) := by
    rw [BitVec.toNat_or, BitVec.ofInt_natCast, BitVec.ofInt_natCast, BitVec.toNat_ofNat, BitVec.toNat_ofNat, bits64, Nat.mod_eq_of_lt (by omega), Nat.mod_eq_of_lt hb, Nat.or_comm]
    have := Nat.two_pow_add_eq_or_of_lt (i := 7 * i) (b := u) (by rw [Nat.pow_mul]; exact hu) (c % 128)
    rw [Nat.pow_mul, show (2 : Nat) ^ 7 = 128 from rfl] at this
    rw [← this]; omega
  have b2 := (BitVec.ofInt IntKind.u64.bits (u : Int) ||| BitVec.ofInt IntKind.u64.bits ((128 ^ i * (c % 128) : Nat) : Int)).isLt
  rw [b1] at b2 ⊢
  exact wrap_u64 (by omega) (by rw [bits64] at b2; omega)

theorem tk_none {lim : Nat} {s : Str} (h : lst lim s = none) : tk lim s = (0, 0, if lim ≤ s.length then 2 else 3) := by rw [tk, h]
theorem tk_some {lim k : Nat} {s : Str} (h : lst lim s = some k) : tk lim s = if bad s k then (0, 0, 2) else (val (s.take (k + 1)), k + 1, 0) := by rw [tk, h]
theorem c130 {s : Str} {lim : Nat} (hl : lim ≤ 10) {h : AH} {R : AV → AH → Prop} (hk : R (.tuple [.int .u64 (tk lim s).1, .int .i64 (tk lim s).2.1, .int .i64 (tk lim s).2.2]) h) : ACall prog (.func (.func 130) [] []) [.str s, .int .i64 lim] h R := by
  refine a130 (w130 _ _ _ _) ⟨fun (z, u, _) h1 => h1 = h ∧ (if z = 0 then tk lim s = (0, 0, 2) else ∃ n m : Nat, u = n ∧ z = m ∧ tk lim s = (n, m, 0)), ⟨fun (x, u, z, _) h1 => h1 = h ∧ z = 0 ∧ ∃ i : Nat, x = i ∧ i ≤ lim ∧ i ≤ s.length ∧ (i < 10 → u = val (s.take i)) ∧ lst lim s = (lst (lim - i) (s.drop i)).map (· + i), fun (x, _, _, _) _ => (lim - x).toNat, ⟨rfl, rfl, 0, rfl, Nat.zero_le _, Nat.zero_le _, fun _ => by simp [val], by simp⟩, ?_⟩, ?_⟩
  · rintro x u z h1 ⟨rfl, rfl, i, rfl, hi, hs, hu, he⟩
    refine ⟨fun hx => ?_, fun hx => ?_⟩
    · have hx : i < lim := by have := of_decide_eq_true hx; omega
      have hu := hu (by omega)
      subst hu
      refine ⟨fun hy => ?_, fun hy => ?_⟩
      · have hy : s.length ≤ i := by have := of_decide_eq_true hy; omega
        rw [lst_end (.inr hy)] at he
        rw [tk_none he, if_neg (by omega)] at hk
        exact hk
      · have hy : i < s.length := by have := of_decide_eq_false hy; omega
        have e1 : IntKind.i64.wrap ((i : Int) + (1 : Int)) = ((i + 1 : Nat) : Int) := wrapN (n := i + 1) (by omega)
        have e2 : (0 : Int) ≤ IntKind.i64.wrap ((7 : Int) * i) := by rw [show (7 : Int) * (i : Int) = ((7 * i : Nat) : Int) by omega, wrapN (by omega)]; omega
        have hc := byte_lt s i
        have hp := pow128 i (by omega)
        have hv := val_take_lt s i
        refine ⟨by omega, by omega, e2, ?_⟩
        rw [Int.toNat_natCast, e1]
        refine ⟨fun hc1 => ⟨⟨rfl, rfl, i + 1, rfl, by omega, by omega, fun hi2 => ?_, ?_⟩, ?_⟩, fun hc1 => ?_⟩
        · rw [val_take hy]
          refine or_at hv hc (by omega) ?_
          have : (128 : Nat) ^ i ≤ 128 ^ 8 := Nat.pow_le_pow_right (by omega) (by omega)
          exact Nat.lt_of_le_of_lt (Nat.mul_le_mul this (Nat.le_of_lt_succ (Nat.mod_lt _ (by omega)))) (by decide)
        · have hc1 : ¬ (s.getD i 0).toNat < 128 := by have := of_decide_eq_true hc1; omega
          rw [he, lst_step hx hy, if_neg hc1, Option.map_map]
          refine congrArg (fun f => Option.map f _) (funext fun a => ?_)
          show a + 1 + i = a + (i + 1); omega
        · show ((lim : Int) - ((i + 1 : Nat) : Int)).toNat < ((lim : Int) - (i : Int)).toNat; omega
        · have hc1 : (s.getD i 0).toNat < 128 := by have := of_decide_eq_false hc1; omega
          rw [lst_step hx hy, if_pos hc1] at he
          have he : lst lim s = some i := by simpa using he
          have ht := tk_some he
          have fin : ∀ (b : Bool) (h' : AH), (b = decide (bad s i) ∧ h' = h1) → (b = true → R (.tuple [.int .u64 (0 : Int), .int .i64 (0 : Int), .int .i64 (2 : Int)]) h') ∧ (b = false → h' = h1 ∧ (if ((i + 1 : Nat) : Int) = 0 then tk lim s = (0, 0, 2) else ∃ n m : Nat, IntKind.u64.wrap (↑(BitVec.ofInt IntKind.u64.bits (val (s.take i) : Int) ||| BitVec.ofInt IntKind.u64.bits (IntKind.u64.wrap (IntKind.u64.wrap (IntKind.u8.wrap (↑(BitVec.ofInt IntKind.u8.bits ((s.getD i 0).toNat : Int) &&& ~~~BitVec.ofInt IntKind.u8.bits (128 : Int)).toNat : Int)) * (2 : Int) ^ Min.min (IntKind.i64.wrap ((7 : Int) * (i : Int))).toNat IntKind.u64.bits))).toNat : Int) = n ∧ ((i + 1 : Nat) : Int) = m ∧ tk lim s = (n, m, 0))) := by
            rintro b h' ⟨rfl, rfl⟩
            refine ⟨fun hb => ?_, fun hb => ⟨rfl, ?_⟩⟩
            · rw [if_pos (of_decide_eq_true hb)] at ht
              rw [ht] at hk; exact hk
            · have hb := of_decide_eq_false hb
              rw [if_neg hb, val_take hy] at ht
              rw [if_neg (by omega)]
              refine ⟨_, _, or_at hv hc (by omega) ?_, rfl, ht⟩
              by_cases h9 : i = 9
              · subst h9
                have : (s.getD 9 0).toNat ≤ 1 := Nat.le_of_not_lt fun h => hb (.inr ⟨rfl, h⟩)
                exact Nat.lt_of_le_of_lt (Nat.mul_le_mul_left _ (show (s.getD 9 0).toNat % 128 ≤ 1 by omega)) (by decide)
              · have : (128 : Nat) ^ i ≤ 128 ^ 8 := Nat.pow_le_pow_right (by omega) (by omega)
                exact Nat.lt_of_le_of_lt (Nat.mul_le_mul this (Nat.le_of_lt_succ (Nat.mod_lt _ (by omega)))) (by decide)
          cases h0 : ((↑(s.getD i 0).toNat : Int) == (0 : Int)) with
          | true =>
            have h0 : (s.getD i 0).toNat = 0 := by have := eq_of_beq h0; omega
            refine ⟨fun (b, _) h' => b = decide (bad s i) ∧ h' = h1, fun hb => ⟨?_, rfl⟩, fun hb => ?_, fun b h' hbh => fin b h' hbh⟩
            · have hb' : decide ((i : Int) > 0) = true := hb
              rw [show (bif true then decide ((i : Int) > 0) else false) = true from hb]
              exact (decide_eq_true (.inl ⟨by have := of_decide_eq_true hb'; omega, h0⟩)).symm
            · have hb : ¬ 0 < i := by have := of_decide_eq_false (show decide ((i : Int) > 0) = false from hb); omega
              have : ((i : Int) == 9) = false := by rw [beq_eq_false_iff_ne]; omega
              rw [this]
              exact ⟨(decide_eq_false (by rintro (⟨h, _⟩ | ⟨h, _⟩) <;> omega)).symm, rfl⟩
          | false =>
            have h0 : (s.getD i 0).toNat ≠ 0 := by have := (beq_eq_false_iff_ne.1 h0); omega
            refine ⟨fun (b, _) h' => b = decide (bad s i) ∧ h' = h1, fun hb => (by cases hb), fun _ => ?_, fun b h' hbh => fin b h' hbh⟩
            cases h9 : ((i : Int) == 9) with
            | true =>
              have h9 : i = 9 := by have := eq_of_beq h9; omega
              subst h9
              refine ⟨?_, rfl⟩
              show decide _ = decide _
              exact decide_eq_decide.2 ⟨fun h => .inr ⟨rfl, by omega⟩, by rintro (⟨_, h⟩ | ⟨_, h⟩) <;> omega⟩
            | false =>
              have h9 : i ≠ 9 := by have := (beq_eq_false_iff_ne.1 h9); omega
              exact ⟨(decide_eq_false (by rintro (⟨_, h⟩ | ⟨h, _⟩) <;> omega)).symm, rfl⟩
    · have hx : lim = i := by have := of_decide_eq_false hx; omega
      refine ⟨rfl, ?_⟩
      rw [if_pos rfl]
      rw [lst_end (.inl (by omega))] at he
      rw [tk_none he, if_pos (by omega)]
  · rintro z u h' ⟨rfl, hz⟩
    refine ⟨fun hb => ?_, fun hb => ?_⟩
    · have hb := eq_of_beq hb
      rw [if_pos hb] at hz
      rw [hz] at hk; exact hk
    · have hb : z ≠ 0 := beq_eq_false_iff_ne.1 hb
      rw [if_neg hb] at hz
      obtain ⟨n, m, rfl, rfl, hz⟩ := hz
      rw [hz] at hk; exact hk

theorem tk_size (lim : Nat) (s : Str) : (tk lim s).2.1 ≤ s.length ∧ (tk lim s).2.1 ≤ lim := by
  cases h : lst lim s with
  | none => rw [tk_none h]; exact ⟨Nat.zero_le _, Nat.zero_le _⟩
  | some k =>
    have := lst_lt h
    rw [tk_some h]
    split
    · exact ⟨Nat.zero_le _, Nat.zero_le _⟩
    · exact ⟨this.2.1, this.1⟩
theorem tk_err {lim : Nat} {s : Str} (h : (tk lim s).2.2 ≠ 0) : (tk lim s).1 = 0 ∧ (tk lim s).2.1 = 0 := by
  cases e : lst lim s with
  | none => rw [tk_none e]; exact ⟨rfl, rfl⟩
  | some k =>
    rw [tk_some e] at h ⊢
    split
    · exact ⟨rfl, rfl⟩
    · rename_i hb; rw [if_neg hb] at h; exact absurd rfl h
theorem tk_lt9 (s : Str) : (tk 9 s).1 < 2 ^ 63 := by
  cases h : lst 9 s with
  | none => rw [tk_none h]; exact (by decide : 0 < 2 ^ 63)
  | some k =>
    have := lst_lt h
    rw [tk_some h]
    split
    · exact (by decide : 0 < 2 ^ 63)
    · exact Nat.lt_of_lt_of_le (val_take_lt s (k + 1)) (pow128 _ (by omega))
theorem tk_lt10 (s : Str) : (tk 10 s).1 < 2 ^ 64 := by
  cases h : lst 10 s with
  | none => rw [tk_none h]; exact (by decide : 0 < 2 ^ 64)
  | some k =>
    have hk := lst_lt h
    rw [tk_some h]
    split
    · exact (by decide : 0 < 2 ^ 64)
    · rename_i hb
      by_cases h9 : k = 9
      · subst h9
        have h1 : (s.getD 9 0).toNat ≤ 1 := Nat.le_of_not_lt fun h => hb (.inr ⟨rfl, h⟩)
        have h2 := val_take_lt s 9
        rw [val_take hk.2.1]
        have : 128 ^ 9 * ((s.getD 9 0).toNat % 128) ≤ 128 ^ 9 * 1 := Nat.mul_le_mul_left _ (by omega)
        have p : (128 : Nat) ^ 9 = 2 ^ 63 := by decide
        omega
      · have := Nat.lt_of_lt_of_le (val_take_lt s (k + 1)) (pow128 _ (by omega))
        show val (s.take (k + 1)) < 2 ^ 64
        omega
def unz (n : Nat) : Int := if n % 2 = 0 then ((n / 2 : Nat) : Int) else -((n / 2 : Nat) : Int) - 1
theorem unz_i64 {n : Nat} (h : n < 2 ^ 64) : I64 (unz n) := by unfold I64 unz; split <;> omega
theorem unz_zig (n : Int) : unz (zig n) = n := by unfold unz zig; split <;> split <;> omega
theorem zig_unz (n : Nat) : zig (unz n) = n := by unfold unz zig; split <;> split <;> omega
theorem c72 {s : Str} {h : AH} {R : AV → AH → Prop} (hk : R (.tuple [.int .i64 (tk 9 s).1, .int .i64 (tk 9 s).2.1, .int .i64 (tk 9 s).2.2]) h) : ACall prog (.func (.func 72) [] []) [.str s] h R := by
  refine a72 (w72 _ _ _) (c130 (lim := 9) (by omega) ⟨(_, _, _, ()), rfl, ?_⟩)
  have := tk_lt9 s
  show R (.tuple [.int .i64 (IntKind.i64.wrap ((tk 9 s).1 : Int)), _, _]) h
  rw [wrap_i64 (by unfold I64; omega)]; exact hk
theorem xor_neg (x : Nat) (h : x < 2 ^ 63) : IntKind.i64.wrap (↑(BitVec.ofInt IntKind.i64.bits (x : Int) ^^^ BitVec.ofInt IntKind.i64.bits (-1 : Int)).toNat : Int) = -(x : Int) - 1 := by
  have e : BitVec.ofInt IntKind.i64.bits (-1 : Int) = BitVec.allOnes IntKind.i64.bits := rfl
  have e2 : (BitVec.ofInt IntKind.i64.bits (x : Int) ^^^ BitVec.allOnes IntKind.i64.bits).toNat = 2 ^ 64 - 1 - x := by
    rw [BitVec.ofInt_natCast]
    show (BitVec.ofNat 64 x ^^^ BitVec.allOnes 64).toNat = _
    rw [BitVec.xor_allOnes, BitVec.toNat_not, BitVec.toNat_ofNat, Nat.mod_eq_of_lt (by omega)]
  rw [e, e2]
  simp only [IntKind.wrap, IntKind.signed, IntKind.bits]; simp; omega
theorem xor_zero (x : Nat) (h : x < 2 ^ 63) : IntKind.i64.wrap (↑(BitVec.ofInt IntKind.i64.bits (x : Int) ^^^ BitVec.ofInt IntKind.i64.bits (0 : Int)).toNat : Int) = (x : Int) := by
  have e2 : (BitVec.ofInt IntKind.i64.bits (x : Int) ^^^ BitVec.ofInt IntKind.i64.bits (0 : Int)).toNat = x := by
    rw [BitVec.ofInt_natCast, show BitVec.ofInt IntKind.i64.bits (0 : Int) = 0#64 from rfl]
    show (BitVec.ofNat 64 x ^^^ 0#64).toNat = _
    rw [BitVec.xor_zero, BitVec.toNat_ofNat, Nat.mod_eq_of_lt (by omega)]
  rw [e2]; exact wrap_i64 (by unfold I64; omega)
theorem unz_run {v : Nat} (hv : v < 2 ^ 64) : IntKind.i64.wrap (↑(BitVec.ofInt IntKind.i64.bits (IntKind.i64.wrap (Int.fdiv v ((2 : Int) ^ Min.min (Int.toNat (1 : Int)) IntKind.u64.bits))) ^^^ BitVec.ofInt IntKind.i64.bits (IntKind.i64.wrap ((0 : Int) - IntKind.i64.wrap (IntKind.u64.wrap (↑(BitVec.ofInt IntKind.u64.bits v &&& BitVec.ofInt IntKind.u64.bits (1 : Int)).toNat : Int))))).toNat : Int) = unz v := by
  have p1 : (2 : Int) ^ Min.min (Int.toNat (1 : Int)) IntKind.u64.bits = 2 := by decide
  have e1 : (BitVec.ofInt IntKind.u64.bits (v : Int) &&& BitVec.ofInt IntKind.u64.bits (1 : Int)).toNat = v % 2 := by
    rw [BitVec.ofInt_natCast, show BitVec.ofInt IntKind.u64.bits (1 : Int) = 1#64 from rfl]
    show (BitVec.ofNat 64 v &&& 1#64).toNat = _
    rw [BitVec.toNat_and, BitVec.toNat_ofNat, Nat.mod_eq_of_lt hv, show (1#64).toNat = 2 ^ 1 - 1 from rfl, Nat.and_two_pow_sub_one_eq_mod]
  have e2 : Int.fdiv (v : Int) 2 = ((v / 2 : Nat) : Int) := by rw [Int.fdiv_eq_ediv_of_nonneg _ (by omega)]; omega
  rw [p1, e1, e2, wrap_i64 (n := ((v / 2 : Nat) : Int)) (by unfold I64; omega), wrap_u64 (by omega) (by omega), wrap_i64 (n := ((v % 2 : Nat) : Int)) (by unfold I64; omega)]
  by_cases h : v % 2 = 0
  · rw [h, unz, if_pos h]
    exact xor_zero _ (by omega)
  · rw [show v % 2 = 1 by omega, unz, if_neg h]
    exact xor_neg _ (by omega)
theorem c74 {s : Str} {h : AH} {R : AV → AH → Prop} (hk : R (.tuple [.int .i64 (unz (tk 10 s).1), .int .i64 (tk 10 s).2.1, .int .i64 (tk 10 s).2.2]) h) : ACall prog (.func (.func 74) [] []) [.str s] h R := by
  refine a74 (w74 _ _ _) (c130 (lim := 10) (by omega) ⟨(_, _, _, ()), rfl, by decide, ?_⟩)
  have := unz_run (tk_lt10 s)
  rw [show ((((tk 10 s).1 : Nat) : Int), (((tk 10 s).2.1 : Nat) : Int), (tk 10 s).2.2, ()).1 = (((tk 10 s).1 : Nat) : Int) from rfl, this]
  exact hk
theorem cut_eq (s : Str) (k : Nat) : List.drop 0 (s.take k) = s.take k := rfl
theorem c75 {s : Str} {h : AH} {R : AV → AH → Prop} (hk : R (.tuple [.int .i64 (tk 9 s).1, .int .i64 (tk 9 s).2.1, .int .i64 (tk 9 s).2.2]) h) : ACall prog (.func (.func 75) [] []) [.str s] h R := by
  refine a75 (w75 _ _ _) (c133 (lim := 9) (by omega) ⟨_, rfl, ?_⟩)
  have hv := tk_lt9 s
  cases hl : lst 9 s with
  | none =>
    rw [tk_none hl] at hk
    have f1 : decide (lstI none < (0 : Int)) = true := rfl
    have f2 : decide (lstI none > (0 : Int)) = false := rfl
    by_cases h9 : 9 ≤ s.length
    · rw [if_pos h9] at hk
      have f3 : decide ((s.length : Int) ≥ (9 : Int)) = true := decide_eq_true (by omega)
      simp only [f1, f3, cond_true]
      exact ⟨fun _ => hk, fun h => by cases h⟩
    · rw [if_neg h9] at hk
      have f3 : decide ((s.length : Int) ≥ (9 : Int)) = false := decide_eq_false (by omega)
      simp only [f1, f2, f3, cond_true]
      exact ⟨fun h => (by cases h), fun _ => ⟨fun _ => hk, fun h => by cases h⟩⟩
  | some k =>
    have hk' := lst_lt hl
    have ht := tk_some hl
    have f1 : decide (lstI (some k) < (0 : Int)) = false := decide_eq_false (by simp only [lstI]; omega)
    have e1 : IntKind.i64.wrap (lstI (some k) + (1 : Int)) = ((k + 1 : Nat) : Int) := wrapN (n := k + 1) (by omega)
    have e2 : (lstI (some k)).toNat = k := rfl
    have tail : ¬ bad s k → (decide (lstI (some k) < (0 : Int)) = true → R (AV.tuple [AV.int IntKind.i64 (0 : Int), AV.int IntKind.i64 (0 : Int), AV.int IntKind.i64 (3 : Int)]) h) ∧
        (decide (lstI (some k) < (0 : Int)) = false → (0 : Int) ≤ IntKind.i64.wrap (lstI (some k) + (1 : Int)) ∧ IntKind.i64.wrap (lstI (some k) + (1 : Int)) ≤ (s.length : Int) ∧
          ACall prog (AV.func (Fn.func 134) [] []) [AV.str (List.drop 0 (List.take (IntKind.i64.wrap (lstI (some k) + (1 : Int))).toNat s))] h fun (v : AV) (h : AH) => ∃ (x_1 : Int), v = AV.int IntKind.u64 x_1 ∧ R (AV.tuple [AV.int IntKind.i64 (IntKind.i64.wrap x_1), AV.int IntKind.i64 (IntKind.i64.wrap (lstI (some k) + (1 : Int))), AV.int IntKind.i64 (0 : Int)]) h) := by
      intro hb
      rw [if_neg hb] at ht
      rw [ht] at hk hv
      refine ⟨fun h => (by rw [f1] at h; cases h), fun _ => ?_⟩
      rw [e1, cut_eq, Int.toNat_natCast]
      refine ⟨by omega, by omega, c134 (by rw [List.length_take]; omega) (Nat.lt_trans hv (by decide)) ⟨_, rfl, ?_⟩⟩
      rw [wrap_i64 (n := ((val (s.take (k + 1)) : Nat) : Int)) (by unfold I64; simp only at hv; omega)]
      exact hk
    simp only [f1]
    by_cases h0 : 0 < k
    · have f2 : decide (lstI (some k) > (0 : Int)) = true := decide_eq_true (by simp only [lstI]; omega)
      simp only [f2, cond_true, cond_false]
      refine ⟨by simp only [lstI]; omega, by simp only [lstI]; omega, fun hb => ?_, fun hb => ?_⟩
      · rw [e2] at hb
        have hb := eq_of_beq hb
        rw [if_pos (.inl ⟨h0, by omega⟩)] at ht
        rw [ht] at hk; exact hk
      · rw [e2] at hb
        have hb := beq_eq_false_iff_ne.1 hb
        simp only [f1] at tail
        exact tail (by rintro (⟨_, h⟩ | ⟨h, _⟩) <;> omega)
    · have f2 : decide (lstI (some k) > (0 : Int)) = false := decide_eq_false (by simp only [lstI]; omega)
      simp only [f2]
      simp only [f1] at tail
      exact ⟨fun h => (by cases h), fun _ => tail (by rintro (⟨h, _⟩ | ⟨h, _⟩) <;> omega)⟩

theorem c79 {s : Str} {h : AH} {R : AV → AH → Prop} (hk : R (.tuple [.int .i64 (unz (tk 10 s).1), .int .i64 (tk 10 s).2.1, .int .i64 (tk 10 s).2.2]) h) : ACall prog (.func (.func 79) [] []) [.str s] h R := by
  refine a79 (w79 _ _ _) (c133 (lim := 10) (by omega) ⟨_, rfl, ?_⟩)
  have hv := tk_lt10 s
  have hu0 : unz 0 = 0 := rfl
  cases hl : lst 10 s with
  | none =>
    rw [tk_none hl] at hk
    have f1 : decide (lstI none < (0 : Int)) = true := rfl
    have f2 : decide (lstI none > (0 : Int)) = false := rfl
    have f4 : (lstI none == (9 : Int)) = false := rfl
    by_cases h9 : 10 ≤ s.length
    · rw [if_pos h9] at hk
      have f3 : decide ((s.length : Int) ≥ (10 : Int)) = true := decide_eq_true (by omega)
      simp only [f1, f3, cond_true]
      exact ⟨fun _ => hk, fun h => by cases h⟩
    · rw [if_neg h9] at hk
      have f3 : decide ((s.length : Int) ≥ (10 : Int)) = false := decide_eq_false (by omega)
      simp only [f1, f2, f3, f4, cond_true]
      exact ⟨fun h => (by cases h), fun _ => ⟨fun _ => hk, fun h => by cases h⟩⟩
  | some k =>
    have hk' := lst_lt hl
    have ht := tk_some hl
    have f1 : decide (lstI (some k) < (0 : Int)) = false := decide_eq_false (by simp only [lstI]; omega)
    have e1 : IntKind.i64.wrap (lstI (some k) + (1 : Int)) = ((k + 1 : Nat) : Int) := wrapN (n := k + 1) (by omega)
    have e2 : (lstI (some k)).toNat = k := rfl
    have tail : ¬ bad s k → (decide (lstI (some k) < (0 : Int)) = true → R (AV.tuple [AV.int IntKind.i64 (0 : Int), AV.int IntKind.i64 (0 : Int), AV.int IntKind.i64 (3 : Int)]) h) ∧
        (decide (lstI (some k) < (0 : Int)) = false → (0 : Int) ≤ IntKind.i64.wrap (lstI (some k) + (1 : Int)) ∧ IntKind.i64.wrap (lstI (some k) + (1 : Int)) ≤ (s.length : Int) ∧
          ACall prog (AV.func (Fn.func 134) [] []) [AV.str (List.drop 0 (List.take (IntKind.i64.wrap (lstI (some k) + (1 : Int))).toNat s))] h fun (v : AV) (h : AH) => ∃ (x_1 : Int), v = AV.int IntKind.u64 x_1 ∧ (2 : Int) ≠ (0 : Int) ∧ (2 : Int) ≠ (0 : Int) ∧ ∃ (J : Int × Unit → AH → Prop),
                 ((x_1.tmod (2 : Int) == (1 : Int)) = true → J (IntKind.i64.wrap (IntKind.i64.wrap ((0 : Int) - IntKind.i64.wrap (IntKind.u64.wrap (x_1.tdiv (2 : Int)))) - (1 : Int)), ()) h) ∧
                  ((x_1.tmod (2 : Int) == (1 : Int)) = false → J (IntKind.i64.wrap (IntKind.u64.wrap (x_1.tdiv (2 : Int))), ()) h) ∧
                   ∀ (x_2 : Int) (h' : AH), J (x_2, ()) h' → R (AV.tuple [AV.int IntKind.i64 x_2, AV.int IntKind.i64 (IntKind.i64.wrap (lstI (some k) + (1 : Int))), AV.int IntKind.i64 (0 : Int)]) h') := by
      intro hb
      rw [if_neg hb] at ht
      rw [ht] at hk hv
      refine ⟨fun h => (by rw [f1] at h; cases h), fun _ => ?_⟩
      rw [e1, cut_eq, Int.toNat_natCast]
      refine ⟨by omega, by omega, c134 (by rw [List.length_take]; omega) hv ⟨_, rfl, by decide, by decide, fun (x, _) h' => h' = h ∧ x = unz (val (s.take (k + 1))), ?_, ?_, ?_⟩⟩
      · intro h1
        have h1 := eq_of_beq h1
        have h1 : val (s.take (k + 1)) % 2 = 1 := by have : ((val (s.take (k + 1)) : Nat) : Int).tmod 2 = ((val (s.take (k + 1)) % 2 : Nat) : Int) := rfl; omega
        refine ⟨rfl, ?_⟩
        simp only at hv
        show IntKind.i64.wrap (IntKind.i64.wrap ((0 : Int) - IntKind.i64.wrap (IntKind.u64.wrap ((val (s.take (k + 1)) / 2 : Nat) : Int))) - (1 : Int)) = _
        rw [unz, if_neg (by omega), wrap_u64 (n := ((val (s.take (k + 1)) / 2 : Nat) : Int)) (by omega) (by omega), wrap_i64 (n := ((val (s.take (k + 1)) / 2 : Nat) : Int)) (by unfold I64; omega), wrap_i64 (n := 0 - ((val (s.take (k + 1)) / 2 : Nat) : Int)) (by unfold I64; omega), wrap_i64 (by unfold I64; omega)]
        omega
      · intro h1
        have h1 := beq_eq_false_iff_ne.1 h1
        have h1 : val (s.take (k + 1)) % 2 = 0 := by have : ((val (s.take (k + 1)) : Nat) : Int).tmod 2 = ((val (s.take (k + 1)) % 2 : Nat) : Int) := rfl; omega
        refine ⟨rfl, ?_⟩
        simp only at hv
        show IntKind.i64.wrap (IntKind.u64.wrap ((val (s.take (k + 1)) / 2 : Nat) : Int)) = _
        rw [unz, if_pos h1, wrap_u64 (n := ((val (s.take (k + 1)) / 2 : Nat) : Int)) (by omega) (by omega), wrap_i64 (n := ((val (s.take (k + 1)) / 2 : Nat) : Int)) (by unfold I64; omega)]
      · rintro x h' ⟨rfl, rfl⟩
        exact hk
    simp only [f1]
    simp only [f1] at tail
    have last : (x9 : (lstI (some k) == (9 : Int)) = decide (k = 9)) → True := fun _ => trivial
    have x9 : (lstI (some k) == (9 : Int)) = decide (k = 9) := by
      by_cases h9 : k = 9
      · subst h9; rfl
      · rw [decide_eq_false h9]; exact beq_eq_false_iff_ne.2 (by simp only [lstI]; omega)
    by_cases h0 : 0 < k
    · have f2 : decide (lstI (some k) > (0 : Int)) = true := decide_eq_true (by simp only [lstI]; omega)
      simp only [f2, cond_true, cond_false]
      refine ⟨by simp only [lstI]; omega, by simp only [lstI]; omega, ?_⟩
      rw [e2]
      cases hz : ((↑(s.getD k 0).toNat : Int) == (0 : Int)) with
      | true =>
        have hz := eq_of_beq hz
        rw [if_pos (.inl ⟨h0, by omega⟩)] at ht
        rw [ht] at hk; exact ⟨fun _ => hk, fun h => by cases h⟩
      | false =>
        have hz := beq_eq_false_iff_ne.1 hz
        rw [x9]
        by_cases h9 : k = 9
        · subst h9
          simp only [decide_true]
          refine ⟨by simp only [lstI]; omega, by simp only [lstI]; omega, fun hb => ?_, fun hb => ?_⟩
          · have hb := of_decide_eq_true hb
            rw [if_pos (.inr ⟨rfl, by omega⟩)] at ht
            rw [ht] at hk; exact hk
          · have hb := of_decide_eq_false hb
            exact tail (by rintro (⟨_, h⟩ | ⟨_, h⟩) <;> omega)
        · simp only [decide_eq_false h9]
          exact ⟨fun h => (by cases h), fun _ => tail (by rintro (⟨_, h⟩ | ⟨h, _⟩) <;> omega)⟩
    · have f2 : decide (lstI (some k) > (0 : Int)) = false := decide_eq_false (by simp only [lstI]; omega)
      have f4 : (lstI (some k) == (9 : Int)) = false := by rw [x9]; exact decide_eq_false (by omega)
      simp only [f2, f4]
      exact ⟨fun h => (by cases h), fun _ => tail (by rintro (⟨h, _⟩ | ⟨h, _⟩) <;> omega)⟩
end Go.Lm
/- Law 36, main part: readers. -/
namespace Go.Lm
open Go Go.La Go.RowKit Go.Proofs.Tryz

/-- The cells of a reader. -/
abbrev RB (el : El) (st : Str × Int) : Option AObj := some (.cells false 0 el [.str st.1, .int .i64 st.2])
theorem rdS {h : AH} {b : Nat} {el : El} {st : Str × Int} (hb : h.get b = RB el st) : h.rd ⟨b, 0⟩ 1 = some [.str st.1] := rdg hb (by simp)
theorem rdE {h : AH} {b : Nat} {el : El} {st : Str × Int} (hb : h.get b = RB el st) : h.rd ⟨b, 1⟩ 1 = some [.int .i64 st.2] := rdg hb (by simp)
theorem wrS {h : AH} {b : Nat} {el : El} {st : Str × Int} (hb : h.get b = RB el st) (t : Str) : h.wr ⟨b, 0⟩ [.str t] = some (h.set b (RB el (t, st.2))) := wrg hb (by simp) (Nat.zero_le _)
theorem wrE {h : AH} {b : Nat} {el : El} {st : Str × Int} (hb : h.get b = RB el st) (e : Int) : h.wr ⟨b, 1⟩ [.int .i64 e] = some (h.set b (RB el (st.1, e))) := wrg hb (by simp) (Nat.zero_le _)

def rfail (x : Int) (st : Str × Int) : Str × Int := (st.1, if st.2 = 0 then x else st.2)
def rnum (st : Str × Int) : Int × (Str × Int) := if st.2 = 0 then ((tk 9 st.1).1, (st.1.drop (tk 9 st.1).2.1, (tk 9 st.1).2.2)) else (0, st)
def rsig (st : Str × Int) : Int × (Str × Int) := if st.2 = 0 then (unz (tk 10 st.1).1, (st.1.drop (tk 10 st.1).2.1, (tk 10 st.1).2.2)) else (0, st)
def rerr (most : Int) (s : Str) (n k : Nat) (e : Int) : Int :=
  if e = 0 ∧ most < n then 12 else if e = 0 ∧ s.length < k + n then 3 else e
def rtext (most : Int) (st : Str × Int) : Str × (Str × Int) :=
  if st.2 = 0 then
    if rerr most st.1 (tk 9 st.1).1 (tk 9 st.1).2.1 (tk 9 st.1).2.2 = 0 then ((st.1.drop (tk 9 st.1).2.1).take (tk 9 st.1).1, (st.1.drop ((tk 9 st.1).2.1 + (tk 9 st.1).1), 0))
    else ([], (st.1, rerr most st.1 (tk 9 st.1).1 (tk 9 st.1).2.1 (tk 9 st.1).2.2))
  else ([], st)
def rflag (st : Str × Int) : Bool × (Str × Int) :=
  if st.2 = 0 then match st.1 with
    | [] => (false, ([], 3))
    | c :: r => if 1 < c.toNat then (false, (c :: r, 2)) else (c == 1, (r, 0))
  else (false, st)
def rend (st : Str × Int) : Int := if st.2 = 0 ∧ st.1 ≠ [] then 2 else st.2

theorem c29 {s : Str} {h : AH} {R : AV → AH → Prop} (hk : R (.ptr (some ⟨h.next, 0⟩)) (h.new (.cells false 0 ⟨163, true, true⟩ [.str s, .int .i64 0]))) : ACall prog (.func (.func 29) [] []) [.str s] h R :=
  a29 (w29 _ _ _) hk
section
variable {b : Nat} {el : El} {st : Str × Int} {h : AH} {R : AV → AH → Prop}
theorem c31 (hb : h.get b = RB el st) (hk : R (.int .i64 st.2) h) : ACall prog (.func (.func 31) [] []) [.ptr (some ⟨b, 0⟩)] h R :=
  a31 (w31 _ _ _) ⟨fun h => (by cases h), fun _ => ⟨_, rdE hb, hk⟩⟩
theorem c33 (hb : h.get b = RB el st) (hk : R (.int .i64 st.1.length) h) : ACall prog (.func (.func 33) [] []) [.ptr (some ⟨b, 0⟩)] h R :=
  a33 (w33 _ _ _) ⟨fun h => (by cases h), fun _ => ⟨_, rdS hb, hk⟩⟩
theorem c35 (hb : h.get b = RB el st) (hk : R (.int .i64 (rend st)) h) : ACall prog (.func (.func 35) [] []) [.ptr (some ⟨b, 0⟩)] h R := by
  refine a35 (w35 _ _ _) (c31 hb ⟨_, rfl, ?_⟩)
  cases h0 : (st.2 == (0 : Int)) with
  | true =>
    have h0 := eq_of_beq h0
    refine c33 hb ⟨_, rfl, fun h1 => ?_, fun h1 => c31 hb ⟨_, rfl, ?_⟩⟩
    · have h1 := of_decide_eq_true (show decide ((st.1.length : Int) > 0) = true from h1)
      rw [rend, if_pos ⟨h0, by intro h; rw [h] at h1; exact absurd h1 (by decide)⟩] at hk; exact hk
    · have h1 := of_decide_eq_false (show decide ((st.1.length : Int) > 0) = false from h1)
      rw [rend, if_neg (by rintro ⟨_, h⟩; exact h (List.eq_nil_of_length_eq_zero (by omega)))] at hk; exact hk
  | false =>
    have h0 := beq_eq_false_iff_ne.1 h0
    refine ⟨fun h => (by cases h), fun _ => c31 hb ⟨_, rfl, ?_⟩⟩
    rw [rend, if_neg (fun h => h0 h.1)] at hk; exact hk
theorem c128 {x : Int} (hb : h.get b = RB el st) (hk : R (.tuple []) (h.set b (RB el (rfail x st)))) : ACall prog (.func (.func 128) [] []) [.ptr (some ⟨b, 0⟩), .int .i64 x] h R := by
  refine a128 (w128 _ _ _ _) ⟨_, rdE hb, fun h0 => ⟨_, wrE hb _, ?_⟩, fun h0 => ?_⟩
  · have h0 : st.2 = 0 := eq_of_beq h0
    rw [rfail, if_pos h0] at hk; exact hk
  · have h0 : st.2 ≠ 0 := beq_eq_false_iff_ne.1 h0
    rw [rfail, if_neg h0, AH.set_at hb] at hk; exact hk
theorem c129 {k : Nat} (hb : h.get b = RB el st) (hl : k ≤ st.1.length) (hk : R (.str (st.1.take k)) (h.set b (RB el (st.1.drop k, st.2)))) : ACall prog (.func (.func 129) [] []) [.ptr (some ⟨b, 0⟩), .int .i64 k] h R := by
  refine a129 (w129 _ _ _ _) ⟨_, rdS hb, by omega, by omega, _, rdS hb, by omega, by omega, _, wrS hb _, ?_⟩
  rw [List.take_length, Int.toNat_natCast]; exact hk
theorem gset (h : AH) (b : Nat) (el : El) (st : Str × Int) : (h.set b (RB el st)).get b = RB el st := get_set _ _ _
theorem c71 {g : AV} {v : Int} {k : Nat} {e : Int} (hb : h.get b = RB el st) (hl : k ≤ st.1.length) (hg : ∀ R' : AV → AH → Prop, R' (.tuple [.int .i64 v, .int .i64 k, .int .i64 e]) h → ACall prog g [.str st.1] h R')
    (h1 : st.2 = 0 → R (.int .i64 v) (h.set b (RB el (st.1.drop k, e)))) (h2 : st.2 ≠ 0 → R (.int .i64 0) h) : ACall prog (.func (.func 71) [] []) [.ptr (some ⟨b, 0⟩), g] h R := by
  refine a71 (w71 _ _ _ _) (c31 hb ⟨_, rfl, ?_⟩)
  cases h0 : (st.2 != (0 : Int)) with
  | true => exact ⟨fun _ => h2 (by simpa using h0), fun h => by cases h⟩
  | false =>
    have h0 : st.2 = 0 := by simpa using h0
    refine ⟨fun h => (by cases h), fun _ => ⟨_, rdS hb, hg _ ⟨(v, k, e, ()), rfl, c128 hb ⟨(), rfl, c129 (gset _ _ _ _) hl ⟨_, rfl, ?_⟩⟩⟩⟩⟩
    rw [AH.set_set, rfail, if_pos h0]; exact h1 h0
theorem c30 (hb : h.get b = RB el st) (hk : R (.int .i64 (rnum st).1) (h.set b (RB el (rnum st).2))) : ACall prog (.func (.func 30) [] []) [.ptr (some ⟨b, 0⟩)] h R := by
  refine a30 (w30 _ _ _) (c71 (v := (tk 9 st.1).1) (k := (tk 9 st.1).2.1) (e := (tk 9 st.1).2.2) hb (tk_size 9 st.1).1 (fun R' hR => c72 hR) (fun h0 => ⟨_, rfl, ?_⟩) (fun h0 => ⟨_, rfl, ?_⟩))
  · rw [rnum, if_pos h0] at hk; exact hk
  · rw [rnum, if_neg h0, AH.set_at hb] at hk; exact hk
theorem c34 (hb : h.get b = RB el st) (hk : R (.int .i64 (rsig st).1) (h.set b (RB el (rsig st).2))) : ACall prog (.func (.func 34) [] []) [.ptr (some ⟨b, 0⟩)] h R := by
  refine a34 (w34 _ _ _) (c71 (v := unz (tk 10 st.1).1) (k := (tk 10 st.1).2.1) (e := (tk 10 st.1).2.2) hb (tk_size 10 st.1).1 (fun R' hR => c74 hR) (fun h0 => ⟨_, rfl, ?_⟩) (fun h0 => ⟨_, rfl, ?_⟩))
  · rw [rsig, if_pos h0] at hk; exact hk
  · rw [rsig, if_neg h0, AH.set_at hb] at hk; exact hk
theorem beqnil (s : Str) : (s == (#[] : Array UInt8).toList) = decide (s = []) := by cases s <;> rfl
theorem c132 (hb : h.get b = RB el st) (hk : R (.bool (rflag st).1) (h.set b (RB el (rflag st).2))) : ACall prog (.func (.func 132) [] []) [.ptr (some ⟨b, 0⟩)] h R := by
  obtain ⟨s, e⟩ := st
  refine a132 (w132 _ _ _) ⟨_, rdE hb, fun h0 => ?_, fun h0 => ⟨_, rdS hb, ?_, ?_⟩⟩
  · have h0 : e ≠ 0 := by simpa using h0
    rw [rflag, if_neg h0, AH.set_at hb] at hk; exact hk
  · intro h1
    obtain rfl : e = 0 := by simpa using h0
    rw [beqnil] at h1
    obtain rfl : s = [] := of_decide_eq_true h1
    exact c128 hb ⟨(), rfl, hk⟩
  · intro h1
    obtain rfl : e = 0 := by simpa using h0
    rw [beqnil] at h1
    obtain ⟨c, r, rfl⟩ := List.exists_cons_of_ne_nil (show s ≠ [] from of_decide_eq_false h1)
    refine ⟨_, rdS hb, by decide, by simp only [List.length_cons]; omega, fun h2 => ?_, fun h2 => ?_⟩
    · have h2 : 1 < c.toNat := by have := of_decide_eq_true (show decide ((c.toNat : Int) > 1) = true from h2); omega
      simp only [rflag, if_true, if_pos h2] at hk
      exact c128 hb ⟨(), rfl, hk⟩
    · have h2 : ¬ 1 < c.toNat := by have := of_decide_eq_false (show decide ((c.toNat : Int) > 1) = false from h2); omega
      simp only [rflag, if_true, if_neg h2] at hk
      refine c129 (k := 1) hb (by simp) ⟨_, rfl, ?_⟩
      have : (([c] : Str) == (#[(1 : UInt8)] : Array UInt8).toList) = (c == 1) := by simp
      show R (.bool (([c] : Str) == (#[(1 : UInt8)] : Array UInt8).toList)) _
      rw [this]; exact hk
theorem c76 {v x : Int} {k : Nat} (hb : h.get b = RB el st) (hl : k ≤ st.1.length) (h0 : st.2 ≠ 0 → R (.int .i64 0) h) (h1 : st.2 = 0 → x ≠ 0 → R (.int .i64 0) (h.set b (RB el (st.1, x)))) (h2 : st.2 = 0 → x = 0 → R (.int .i64 v) (h.set b (RB el (st.1.drop k, st.2)))) : ACall prog (.func (.func 76) [] []) [.ptr (some ⟨b, 0⟩), .int .i64 v, .int .i64 k, .int .i64 x] h R := by
  refine a76 (w76 _ _ _ _ _ _) ⟨_, rdE hb, fun e0 => h0 (by simpa using e0), fun e0 => ⟨fun e1 => ⟨_, wrE hb _, h1 (by simpa using e0) (by simpa using e1)⟩, fun e1 => ⟨_, rdS hb, by omega, by omega, _, wrS hb _, ?_⟩⟩⟩
  rw [List.take_length, Int.toNat_natCast]; exact h2 (by simpa using e0) (by simpa using e1)
theorem c36 (hb : h.get b = RB el st) (hk : R (.int .i64 (rnum st).1) (h.set b (RB el (rnum st).2))) : ACall prog (.func (.func 36) [] []) [.ptr (some ⟨b, 0⟩)] h R := by
  refine a36 (w36 _ _ _) ⟨_, rdS hb, c75 ⟨(_, _, _, ()), rfl, c76 hb (tk_size 9 st.1).1 (fun h0 => ⟨_, rfl, ?_⟩) (fun h0 h1 => ⟨_, rfl, ?_⟩) (fun h0 h1 => ⟨_, rfl, ?_⟩)⟩⟩
  · rw [rnum, if_neg h0, AH.set_at hb] at hk; exact hk
  · rw [rnum, if_pos h0, (tk_err h1).1, (tk_err h1).2] at hk; exact hk
  · have h1 : (tk 9 st.1).2.2 = 0 := h1
    rw [rnum, if_pos h0, h1] at hk; rw [h0]; exact hk
theorem c38 (hb : h.get b = RB el st) (hk : R (.int .i64 (rsig st).1) (h.set b (RB el (rsig st).2))) : ACall prog (.func (.func 38) [] []) [.ptr (some ⟨b, 0⟩)] h R := by
  refine a38 (w38 _ _ _) ⟨_, rdS hb, c79 ⟨(_, _, _, ()), rfl, c76 hb (tk_size 10 st.1).1 (fun h0 => ⟨_, rfl, ?_⟩) (fun h0 h1 => ⟨_, rfl, ?_⟩) (fun h0 h1 => ⟨_, rfl, ?_⟩)⟩⟩
  · rw [rsig, if_neg h0, AH.set_at hb] at hk; exact hk
  · rw [rsig, if_pos h0, (tk_err h1).1, (tk_err h1).2] at hk; exact hk
  · have h1 : (tk 10 st.1).2.2 = 0 := h1
    rw [rsig, if_pos h0, h1] at hk; rw [h0]; exact hk
theorem c39 (hb : h.get b = RB el st) (hk : R (.int .i64 (rend st)) h) : ACall prog (.func (.func 39) [] []) [.ptr (some ⟨b, 0⟩)] h R := by
  refine a39 (w39 _ _ _) ⟨_, rdE hb, ?_⟩
  cases h0 : (st.2 == (0 : Int)) with
  | true =>
    have h0 := eq_of_beq h0
    refine ⟨_, rdS hb, fun h1 => ?_, fun h1 => ⟨_, rdE hb, ?_⟩⟩
    · rw [beqnil] at h1
      rw [rend, if_pos ⟨h0, by simpa using h1⟩] at hk; exact hk
    · rw [beqnil] at h1
      rw [rend, if_neg (by rintro ⟨_, h⟩; exact h (by simpa using h1))] at hk; exact hk
  | false =>
    have h0 := beq_eq_false_iff_ne.1 h0
    refine ⟨fun h => (by cases h), fun _ => ⟨_, rdE hb, ?_⟩⟩
    rw [rend, if_neg (fun h => h0 h.1)] at hk; exact hk
theorem c136 (hb : h.get b = RB el st) (hk : R (.bool (rflag st).1) (h.set b (RB el (rflag st).2))) : ACall prog (.func (.func 136) [] []) [.ptr (some ⟨b, 0⟩)] h R := by
  obtain ⟨s, e⟩ := st
  refine a136 (w136 _ _ _) ⟨_, rdE hb, fun h0 => ?_, fun h0 => ⟨_, rdS hb, ?_, ?_⟩⟩
  · have h0 : e ≠ 0 := by simpa using h0
    rw [rflag, if_neg h0, AH.set_at hb] at hk; exact hk
  · intro h1
    obtain rfl : e = 0 := by simpa using h0
    rw [beqnil] at h1
    obtain rfl : s = [] := of_decide_eq_true h1
    exact ⟨_, wrE hb _, hk⟩
  · intro h1
    obtain rfl : e = 0 := by simpa using h0
    rw [beqnil] at h1
    obtain ⟨c, r, rfl⟩ := List.exists_cons_of_ne_nil (show s ≠ [] from of_decide_eq_false h1)
    refine ⟨_, rdS hb, by decide, by simp only [List.length_cons]; omega, fun h2 => ⟨_, wrE hb _, ?_⟩, fun h2 => ⟨_, rdS hb, by decide, by simp only [List.length_cons]; omega, _, wrS hb _, ?_⟩⟩
    · have h2 : 1 < c.toNat := by have := of_decide_eq_true (show decide ((c.toNat : Int) > 1) = true from h2); omega
      simp only [rflag, if_true, if_pos h2] at hk
      exact hk
    · have h2 : ¬ 1 < c.toNat := by have := of_decide_eq_false (show decide ((c.toNat : Int) > 1) = false from h2); omega
      simp only [rflag, if_true, if_neg h2] at hk
      have : ((c.toNat : Int) == (1 : Int)) = (c == 1) := by
        by_cases h : c = 1
        · subst h; rfl
        · rw [beq_eq_false_iff_ne.2 h]
          refine beq_eq_false_iff_ne.2 fun h' => h ?_
          exact UInt8.toNat_inj.1 (by show c.toNat = 1; omega)
      rw [List.take_length]
      show R (.bool ((c.toNat : Int) == (1 : Int))) _
      rw [this]; exact hk
theorem take_drop_eq (s : Str) (k n : Nat) : (s.take (k + n)).drop k = (s.drop k).take n := by rw [List.drop_take]; congr 1; omega
theorem c135 {most : Int} (hs : st.1.length < 2 ^ 60) (hb : h.get b = RB el st) (hk : R (.str (rtext most st).1) (h.set b (RB el (rtext most st).2))) : ACall prog (.func (.func 135) [] []) [.ptr (some ⟨b, 0⟩), .int .i64 most] h R := by
  refine a135 (w135 _ _ _ _) ⟨_, rdE hb, fun h0 => ?_, fun h0 => ⟨_, rdS hb, c75 ⟨(_, _, _, ()), rfl, ?_⟩⟩⟩
  · have h0 : st.2 ≠ 0 := by simpa using h0
    rw [rtext, if_neg h0, AH.set_at hb] at hk; exact hk
  have h0 : st.2 = 0 := by simpa using h0
  have hsz := (tk_size 9 st.1).1
  have hlt := tk_lt9 st.1
  rw [rtext, if_pos h0] at hk
  generalize tk 9 st.1 = t at *
  obtain ⟨n, k, e⟩ := t
  dsimp only at hsz hlt hk ⊢
  have fin : ∀ (x : Int) (h' : AH), x = rerr most st.1 n k e ∧ h' = h → ((x != (0 : Int)) = true → ∃ (h'_1 : AH), h'.wr ⟨b, 1⟩ [AV.int IntKind.i64 x] = some h'_1 ∧ R (AV.str []) h'_1) ∧
      ((x != (0 : Int)) = false → ∃ (x_4 : List UInt8), h'.rd (Pt.mk b 0) 1 = some [AV.str x_4] ∧ (0 : Int) ≤ (k : Int) ∧ (k : Int) ≤ IntKind.i64.wrap ((k : Int) + n) ∧ IntKind.i64.wrap ((k : Int) + n) ≤ (↑x_4.length : Int) ∧
        ∃ (x_5 : List UInt8), h'.rd (Pt.mk b 0) 1 = some [AV.str x_5] ∧ (0 : Int) ≤ IntKind.i64.wrap ((k : Int) + n) ∧ IntKind.i64.wrap ((k : Int) + n) ≤ (↑x_5.length : Int) ∧
          ∃ (h'_1 : AH), h'.wr ⟨b, 0⟩ [AV.str (List.drop (IntKind.i64.wrap ((k : Int) + n)).toNat (List.take x_5.length x_5))] = some h'_1 ∧
            R (AV.str (List.drop (Int.toNat k) (List.take (IntKind.i64.wrap ((k : Int) + n)).toNat x_4))) h'_1) := by
    rintro x h' ⟨rfl, rfl⟩
    refine ⟨fun hx => ⟨_, wrE hb _, ?_⟩, fun hx => ?_⟩
    · have hx : rerr most st.1 n k e ≠ 0 := by simpa using hx
      rw [if_neg hx] at hk; exact hk
    · have hx : rerr most st.1 n k e = 0 := by simpa using hx
      rw [if_pos hx] at hk
      have hn : k + n ≤ st.1.length := by
        unfold rerr at hx
        split at hx
        · exact absurd hx (by decide)
        · split at hx
          · exact absurd hx (by decide)
          · rename_i h1; exact Nat.le_of_not_lt fun h2 => h1 ⟨hx, h2⟩
      have ew : IntKind.i64.wrap ((k : Int) + n) = ((k + n : Nat) : Int) := wrapN (n := k + n) (by omega)
      rw [ew]
      refine ⟨_, rdS hb, by omega, by omega, by omega, _, rdS hb, by omega, by omega, _, wrS hb _, ?_⟩
      rw [List.take_length, Int.toNat_natCast, Int.toNat_natCast, take_drop_eq, h0]; exact hk
  have rest : ∀ (x : Int) (h' : AH), h' = h → x = (if e = 0 ∧ most < n then 12 else e) → match x == (0 : Int) with
      | true => ∃ (x_2 : List UInt8), h'.rd ⟨b, 0⟩ 1 = some [AV.str x_2] ∧ ∃ (J : Int × Unit → AH → Prop),
          ((bif true then decide ((n : Int) > IntKind.i64.wrap ((↑x_2.length : Int) - k)) else false) = true → J ((3 : Int), ()) h') ∧ ((bif true then decide ((n : Int) > IntKind.i64.wrap ((↑x_2.length : Int) - k)) else false) = false → J (x, ()) h') ∧
          ∀ (x : Int) (h' : AH), J (x, ()) h' → ((x != (0 : Int)) = true → ∃ (h'_1 : AH), h'.wr ⟨b, 1⟩ [AV.int IntKind.i64 x] = some h'_1 ∧ R (AV.str []) h'_1) ∧
      ((x != (0 : Int)) = false → ∃ (x_4 : List UInt8), h'.rd (Pt.mk b 0) 1 = some [AV.str x_4] ∧ (0 : Int) ≤ (k : Int) ∧ (k : Int) ≤ IntKind.i64.wrap ((k : Int) + n) ∧ IntKind.i64.wrap ((k : Int) + n) ≤ (↑x_4.length : Int) ∧
        ∃ (x_5 : List UInt8), h'.rd (Pt.mk b 0) 1 = some [AV.str x_5] ∧ (0 : Int) ≤ IntKind.i64.wrap ((k : Int) + n) ∧ IntKind.i64.wrap ((k : Int) + n) ≤ (↑x_5.length : Int) ∧
          ∃ (h'_1 : AH), h'.wr ⟨b, 0⟩ [AV.str (List.drop (IntKind.i64.wrap ((k : Int) + n)).toNat (List.take x_5.length x_5))] = some h'_1 ∧
            R (AV.str (List.drop (Int.toNat k) (List.take (IntKind.i64.wrap ((k : Int) + n)).toNat x_4))) h'_1)
      | false => ∃ (J : Int × Unit → AH → Prop), (false = true → J ((3 : Int), ()) h') ∧ (false = false → J (x, ()) h') ∧
          ∀ (x : Int) (h' : AH), J (x, ()) h' → ((x != (0 : Int)) = true → ∃ (h'_1 : AH), h'.wr ⟨b, 1⟩ [AV.int IntKind.i64 x] = some h'_1 ∧ R (AV.str []) h'_1) ∧
      ((x != (0 : Int)) = false → ∃ (x_4 : List UInt8), h'.rd (Pt.mk b 0) 1 = some [AV.str x_4] ∧ (0 : Int) ≤ (k : Int) ∧ (k : Int) ≤ IntKind.i64.wrap ((k : Int) + n) ∧ IntKind.i64.wrap ((k : Int) + n) ≤ (↑x_4.length : Int) ∧
        ∃ (x_5 : List UInt8), h'.rd (Pt.mk b 0) 1 = some [AV.str x_5] ∧ (0 : Int) ≤ IntKind.i64.wrap ((k : Int) + n) ∧ IntKind.i64.wrap ((k : Int) + n) ≤ (↑x_5.length : Int) ∧
          ∃ (h'_1 : AH), h'.wr ⟨b, 0⟩ [AV.str (List.drop (IntKind.i64.wrap ((k : Int) + n)).toNat (List.take x_5.length x_5))] = some h'_1 ∧
            R (AV.str (List.drop (Int.toNat k) (List.take (IntKind.i64.wrap ((k : Int) + n)).toNat x_4))) h'_1) := by
    rintro x h' rfl hx
    have ew : IntKind.i64.wrap ((↑st.1.length : Int) - k) = ((st.1.length - k : Nat) : Int) := by rw [show (↑st.1.length : Int) - k = ((st.1.length - k : Nat) : Int) by omega]; exact wrapN (by omega)
    cases h1 : (x == (0 : Int)) with
    | true =>
      have h1 := eq_of_beq h1
      have h2 : ¬ (e = 0 ∧ most < n) := fun h => by rw [if_pos h] at hx; omega
      rw [if_neg h2] at hx
      refine ⟨_, rdS hb, fun (x, _) h2 => x = rerr most st.1 n k e ∧ h2 = h', fun h3 => ?_, fun h3 => ?_, fun x h'' hj => fin x h'' hj⟩
      · rw [ew] at h3
        have h3 := of_decide_eq_true (show decide ((n : Int) > _) = true from h3)
        rw [rerr, if_neg h2, if_pos ⟨by omega, by omega⟩]; exact ⟨rfl, rfl⟩
      · rw [ew] at h3
        have h3 := of_decide_eq_false (show decide ((n : Int) > _) = false from h3)
        rw [rerr, if_neg h2, if_neg (by rintro ⟨_, h⟩; omega)]; exact ⟨hx, rfl⟩
    | false =>
      have h1 := beq_eq_false_iff_ne.1 h1
      refine ⟨fun (x, _) h2 => x = rerr most st.1 n k e ∧ h2 = h', fun h3 => (by cases h3), fun _ => ⟨?_, rfl⟩, fun x h'' hj => fin x h'' hj⟩
      unfold rerr
      split at hx
      · rename_i h2; rw [if_pos h2]; exact hx
      · rename_i h2; rw [if_neg h2, if_neg (by rintro ⟨h, _⟩; omega)]; exact hx
  cases h1 : (e == (0 : Int)) with
  | true =>
    have h1 := eq_of_beq h1
    refine ⟨fun (x, _) h2 => h2 = h ∧ x = (if e = 0 ∧ most < n then 12 else e), fun h2 => ⟨rfl, ?_⟩, fun h2 => ⟨rfl, ?_⟩, fun x h' hj => rest x h' hj.1 hj.2⟩
    · have h2 := of_decide_eq_true (show decide ((n : Int) > most) = true from h2)
      rw [if_pos ⟨h1, by omega⟩]
    · have h2 := of_decide_eq_false (show decide ((n : Int) > most) = false from h2)
      rw [if_neg (by rintro ⟨_, h⟩; omega)]
  | false =>
    have h1 := beq_eq_false_iff_ne.1 h1
    refine ⟨fun (x, _) h2 => h2 = h ∧ x = (if e = 0 ∧ most < n then 12 else e), fun h2 => (by cases h2), fun h2 => ⟨rfl, ?_⟩, fun x h' hj => rest x h' hj.1 hj.2⟩
    rw [if_neg (by rintro ⟨h, _⟩; omega)]
theorem c131 {most : Int} (hs : st.1.length < 2 ^ 60) (hb : h.get b = RB el st) (hk : R (.str (rtext most st).1) (h.set b (RB el (rtext most st).2))) : ACall prog (.func (.func 131) [] []) [.ptr (some ⟨b, 0⟩), .int .i64 most] h R := by
  refine a131 (w131 _ _ _ _) ⟨fun h => (by cases h), fun _ => ⟨_, rdS hb, c30 hb ⟨_, rfl, ?_⟩⟩⟩
  obtain ⟨s, e0⟩ := st
  have hg := gset h b el (rnum (s, e0)).2
  -- the state in the end, ahead of the taking
  refine ⟨fun _ h' => h' = h.set b (RB el ((rnum (s, e0)).2.1, if e0 = 0 then rerr most s (tk 9 s).1 (tk 9 s).2.1 (tk 9 s).2.2 else e0)), ?_, ?_⟩
  · refine ⟨_, rdE hg, ?_⟩
    by_cases h0 : e0 = 0
    · subst h0
      have hsz := (tk_size 9 s).1
      have hlt := tk_lt9 s
      have hr : rnum (s, 0) = (((tk 9 s).1 : Int), (s.drop (tk 9 s).2.1, (tk 9 s).2.2)) := by rw [rnum, if_pos rfl]
      rw [hr] at hg ⊢
      rw [if_pos rfl]
      generalize tk 9 s = t at *
      obtain ⟨n, k, e⟩ := t
      dsimp only at hsz hlt hg ⊢
      have two : ¬ (e = 0 ∧ most < n) → ∃ (x : Int), (h.set b (RB el (s.drop k, e))).rd ⟨b, 1⟩ 1 = some [AV.int IntKind.i64 x] ∧
          match x == (0 : Int) with
          | true => ∃ (x : List UInt8), (h.set b (RB el (s.drop k, e))).rd ⟨b, 0⟩ 1 = some [AV.str x] ∧
            ((bif true then decide ((n : Int) > (↑x.length : Int)) else false) = true →
              ACall prog (AV.func (Fn.func 128) [] []) [AV.ptr (some ⟨b, 0⟩), AV.int IntKind.i64 (3 : Int)] (h.set b (RB el (s.drop k, e))) fun (v : AV) (h' : AH) => ∃ (x : Unit), v = AV.tuple [] ∧ h' = h.set b (RB el (s.drop k, rerr most s n k e))) ∧
            ((bif true then decide ((n : Int) > (↑x.length : Int)) else false) = false → h.set b (RB el (s.drop k, e)) = h.set b (RB el (s.drop k, rerr most s n k e)))
          | false => (false = true → ACall prog (AV.func (Fn.func 128) [] []) [AV.ptr (some ⟨b, 0⟩), AV.int IntKind.i64 (3 : Int)] (h.set b (RB el (s.drop k, e))) fun (v : AV) (h' : AH) => ∃ (x : Unit), v = AV.tuple [] ∧ h' = h.set b (RB el (s.drop k, rerr most s n k e))) ∧
            (false = false → h.set b (RB el (s.drop k, e)) = h.set b (RB el (s.drop k, rerr most s n k e))) := by
        intro h2
        refine ⟨_, rdE hg, ?_⟩
        dsimp only
        cases h1 : (e == (0 : Int)) with
        | true =>
          obtain rfl := eq_of_beq h1
          refine ⟨_, rdS hg, fun h3 => c128 hg ⟨(), rfl, ?_⟩, fun h3 => ?_⟩
          · have h3 := of_decide_eq_true (show decide ((n : Int) > ((s.drop k).length : Int)) = true from h3)
            rw [List.length_drop] at h3
            rw [AH.set_set, rerr, if_neg h2, if_pos ⟨rfl, by omega⟩]; rfl
          · have h3 := of_decide_eq_false (show decide ((n : Int) > ((s.drop k).length : Int)) = false from h3)
            rw [List.length_drop] at h3
            rw [rerr, if_neg h2, if_neg (by rintro ⟨_, h⟩; omega)]
        | false =>
          have h1 := beq_eq_false_iff_ne.1 h1
          refine ⟨fun h => (by cases h), fun _ => ?_⟩
          rw [rerr, if_neg h2, if_neg (fun h => h1 h.1)]
      cases h1 : (e == (0 : Int)) with
      | true =>
        have h1 := eq_of_beq h1
        refine ⟨fun h2 => c128 hg ⟨(), rfl, ?_⟩, fun h2 => ?_⟩
        · have h2 := of_decide_eq_true (show decide ((n : Int) > most) = true from h2)
          rw [AH.set_set, rfail, if_pos h1, rerr, if_pos ⟨h1, by omega⟩]
        · have h2 := of_decide_eq_false (show decide ((n : Int) > most) = false from h2)
          exact two (by rintro ⟨_, h⟩; omega)
      | false =>
        have h1 := beq_eq_false_iff_ne.1 h1
        exact ⟨fun h => (by cases h), fun _ => two fun h => h1 h.1⟩
    · have hr : rnum (s, e0) = (0, (s, e0)) := by rw [rnum, if_neg h0]
      rw [hr] at hg ⊢
      have h1 : (e0 == (0 : Int)) = false := beq_eq_false_iff_ne.2 h0
      dsimp only
      rw [h1, if_neg h0]
      refine ⟨fun h => (by cases h), fun _ => ⟨_, rdE hg, ?_⟩⟩
      dsimp only
      rw [h1]
      exact ⟨fun h => (by cases h), fun _ => rfl⟩
  · rintro h' rfl
    generalize he : (if e0 = 0 then rerr most s (tk 9 s).1 (tk 9 s).2.1 (tk 9 s).2.2 else e0) = e1
    have hg2 := gset h b el ((rnum (s, e0)).2.1, e1)
    refine ⟨_, rdE hg2, fun h1 => ⟨_, wrS hg2 _, ?_⟩, fun h1 => ?_⟩
    · have h1 : e1 ≠ 0 := by simpa using h1
      rw [AH.set_set]
      by_cases h0 : e0 = 0
      · rw [if_pos h0] at he
        rw [rtext, if_pos h0, if_neg (by rw [he]; exact h1), he] at hk; exact hk
      · rw [if_neg h0] at he
        rw [rtext, if_neg h0] at hk
        rw [← he]; exact hk
    · have h1 : e1 = 0 := by simpa using h1
      subst h1
      have h0 : e0 = 0 := by
        by_cases h0 : e0 = 0
        · exact h0
        · rw [if_neg h0] at he; exact he
      subst h0
      rw [if_pos rfl] at he
      rw [rtext, if_pos rfl, if_pos he] at hk
      have hr : rnum (s, 0) = (((tk 9 s).1 : Int), (s.drop (tk 9 s).2.1, (tk 9 s).2.2)) := by rw [rnum, if_pos rfl]
      rw [hr] at hg2 ⊢
      have hn : (tk 9 s).2.1 + (tk 9 s).1 ≤ s.length := by
        unfold rerr at he
        split at he
        · exact absurd he (by decide)
        · split at he
          · exact absurd he (by decide)
          · rename_i h1; exact Nat.le_of_not_lt fun h2 => h1 ⟨he, h2⟩
      refine c129 hg2 (by rw [List.length_drop]; omega) ⟨_, rfl, ?_⟩
      rw [AH.set_set, List.drop_drop]; exact hk
end
end Go.Lm
/- Law 36, main part: records. -/
namespace Go.Lm
open Go Go.La Go.RowKit Go.Proofs.Tryz

structure Sp where
  t : Int
  i : Int
  p : Int
  r : Int
  s : Str
  o : Str
  b : Int
  d : Int
  g : Bool
  deriving DecidableEq
def Sp.zero : Sp := ⟨0, 0, 0, 0, [], [], 0, 0, false⟩
abbrev sc (x : Sp) : List AV := [.int .i64 x.t, .int .i64 x.i, .int .i64 x.p, .int .i64 x.r, .str x.s, .str x.o, .int .i64 x.b, .int .i64 x.d, .bool x.g]
abbrev SB (x : Sp) : Option AObj := some (.cells false 0 ⟨37, true, true⟩ (sc x))
def okC (c : UInt8) : Bool := decide (33 ≤ c.toNat) && decide (c.toNat ≤ 126)
def nm (s : Str) : Bool := s.all okC && (decide (s ≠ []) && decide (s.length ≤ 24))
def okS (x : Sp) : Bool := decide (0 < x.t) && decide (0 < x.i) && decide (0 ≤ x.p) && decide (0 ≤ x.r) && nm x.s && nm x.o && decide (-4611686018427387904 ≤ x.b) && decide (x.b < 4611686018427387904)
def may (x : Sp) : Int := if okS x then 0 else 1

theorem all_take {s : Str} {i : Nat} (h : i < s.length) (p : UInt8 → Bool) : (s.take (i + 1)).all p = ((s.take i).all p && p (s.getD i 0)) := by
  have e : s.take (i + 1) = s.take i ++ [s.getD i 0] := by
    rw [List.take_add, drop_get h]; simp
  rw [e, List.all_append]; simp
theorem all_not {s : Str} {i : Nat} (h : i < s.length) {p : UInt8 → Bool} (hp : p (s.getD i 0) = false) : s.all p = false := by
  have e : s = s.take i ++ (s.getD i 0 :: s.drop (i + 1)) := by rw [← drop_get h, List.take_append_drop]
  rw [e, List.all_append, List.all_cons, hp, Bool.false_and, Bool.and_false]
theorem nm_end {s : Str} (h : s.all okC = true) : nm s = (decide (s ≠ []) && decide (s.length ≤ 24)) := by rw [nm, h, Bool.true_and]
theorem nm_not {s : Str} {i : Nat} (h : i < s.length) (hp : okC (s.getD i 0) = false) : nm s = false := by rw [nm, all_not h hp, Bool.false_and]
theorem c137 {s : Str} (hs : s.length < 2 ^ 60) {h : AH} {R : AV → AH → Prop} (hk : R (.bool (nm s)) h) : ACall prog (.func (.func 137) [] []) [.str s] h R := by
  refine a137 (w137 _ _ _) ⟨fun (x, _) h1 => h1 = h ∧ ∃ i : Nat, x = i ∧ i ≤ s.length ∧ (s.take i).all okC = true, fun (x, _) _ => (s.length - x).toNat, ⟨rfl, 0, rfl, Nat.zero_le _, rfl⟩, ?_⟩
  rintro x h1 ⟨rfl, i, rfl, hi, ha⟩
  refine ⟨fun hx => ?_, fun hx => ?_⟩
  · have hx : i < s.length := by have := of_decide_eq_true hx; omega
    have e1 : IntKind.i64.wrap ((i : Int) + (1 : Int)) = ((i + 1 : Nat) : Int) := wrapN (n := i + 1) (by omega)
    refine ⟨by omega, by omega, ?_⟩
    rw [Int.toNat_natCast, e1]
    cases hc : decide ((↑(s.getD i 0).toNat : Int) < (33 : Int)) with
    | true =>
      have hc : (s.getD i 0).toNat < 33 := by have := of_decide_eq_true hc; omega
      rw [nm_not hx (by rw [okC, decide_eq_false (by omega), Bool.false_and])] at hk
      exact ⟨fun _ => hk, fun h => by cases h⟩
    | false =>
      have hc : 33 ≤ (s.getD i 0).toNat := by have := of_decide_eq_false hc; omega
      refine ⟨by omega, by omega, fun hd => ?_, fun hd => ⟨⟨rfl, i + 1, rfl, by omega, ?_⟩, ?_⟩⟩
      · have hd := of_decide_eq_true (show decide ((↑(s.getD i 0).toNat : Int) > 126) = true from hd)
        rw [nm_not hx (by rw [okC, decide_eq_false (p := (s.getD i 0).toNat ≤ 126) (by omega), Bool.and_false])] at hk
        exact hk
      · have hd := of_decide_eq_false (show decide ((↑(s.getD i 0).toNat : Int) > 126) = false from hd)
        rw [all_take hx, ha, okC, decide_eq_true hc, decide_eq_true (p := (s.getD i 0).toNat ≤ 126) (by omega)]; rfl
      · show ((s.length : Int) - ((i + 1 : Nat) : Int)).toNat < ((s.length : Int) - (i : Int)).toNat; omega
  · have hx : i = s.length := by have := of_decide_eq_false hx; omega
    subst hx
    rw [List.take_length] at ha
    rw [nm_end ha] at hk
    cases hl : decide ((s.length : Int) ≥ (1 : Int)) with
    | true =>
      have hl := of_decide_eq_true hl
      rw [decide_eq_true (p := s ≠ []) (by intro h; rw [h] at hl; exact absurd hl (by decide)), Bool.true_and] at hk
      have : decide ((s.length : Int) ≤ 24) = decide (s.length ≤ 24) := decide_eq_decide.2 (by omega)
      show R (.bool (decide ((s.length : Int) ≤ 24))) h1
      rw [this]; exact hk
    | false =>
      have hl := of_decide_eq_false hl
      rw [decide_eq_false (p := s ≠ []) (by rw [Classical.not_not]; exact List.eq_nil_of_length_eq_zero (by omega)), Bool.false_and] at hk
      exact hk
theorem c180 {s : Str} (hs : s.length < 2 ^ 60) {h : AH} {R : AV → AH → Prop} (hk : R (.bool (nm s)) h) : ACall prog (.func (.func 180) [] []) [.str s] h R := by
  refine ACall.pure (a180 (w180 _ _ _) ?_)
  refine ⟨fun (x, _) h1 => h1 = h.new (.cells false 0 ⟨5, false, false⟩ (s.map byteA)) ∧ ∃ i : Nat, x = i ∧ i ≤ s.length ∧ (s.take i).all okC = true, fun (x, _) _ => (s.length - x).toNat, ⟨rfl, 0, rfl, Nat.zero_le _, rfl⟩, ?_⟩
  rintro x h1 ⟨rfl, i, rfl, hi, ha⟩
  have he : Ext h (h.new (.cells false 0 ⟨5, false, false⟩ (s.map byteA))) := (Ext.refl h).new _
  refine ⟨fun hx => ?_, fun hx => ?_⟩
  · have hx : i < s.length := by have := of_decide_eq_true hx; omega
    have e1 : IntKind.i64.wrap ((i : Int) + (1 : Int)) = ((i + 1 : Nat) : Int) := wrapN (n := i + 1) (by omega)
    refine ⟨by omega, by omega, (s.getD i 0).toNat, ?_, ?_⟩
    · have : (h.new (.cells false 0 ⟨5, false, false⟩ (s.map byteA))).rd ⟨h.next, 0 + (i : Int).toNat * 1⟩ 1 = some (((s.map byteA).drop (0 + (i : Int).toNat * 1)).take 1) := rdg (get_new _ _) (by simp; omega)
      rw [this, Int.toNat_natCast, show 0 + i * 1 = i by omega, ← List.map_drop, drop_get hx]; rfl
    rw [e1]
    cases hc : decide ((↑(s.getD i 0).toNat : Int) ≤ (32 : Int)) with
    | true =>
      have hc : (s.getD i 0).toNat ≤ 32 := by have := of_decide_eq_true hc; omega
      rw [nm_not hx (by rw [okC, decide_eq_false (by omega), Bool.false_and])] at hk
      exact ⟨fun _ => ⟨he, Low.bool _ _, hk⟩, fun h => by cases h⟩
    | false =>
      have hc : 33 ≤ (s.getD i 0).toNat := by have := of_decide_eq_false hc; omega
      refine ⟨fun hd => ?_, fun hd => ⟨⟨rfl, i + 1, rfl, by omega, ?_⟩, ?_⟩⟩
      · have hd := of_decide_eq_true (show decide ((↑(s.getD i 0).toNat : Int) > 126) = true from hd)
        rw [nm_not hx (by rw [okC, decide_eq_false (p := (s.getD i 0).toNat ≤ 126) (by omega), Bool.and_false])] at hk
        exact ⟨he, Low.bool _ _, hk⟩
      · have hd := of_decide_eq_false (show decide ((↑(s.getD i 0).toNat : Int) > 126) = false from hd)
        rw [all_take hx, ha, okC, decide_eq_true hc, decide_eq_true (p := (s.getD i 0).toNat ≤ 126) (by omega)]; rfl
      · show ((s.length : Int) - ((i + 1 : Nat) : Int)).toNat < ((s.length : Int) - (i : Int)).toNat; omega
  · have hx : i = s.length := by have := of_decide_eq_false hx; omega
    subst hx
    rw [List.take_length] at ha
    rw [nm_end ha] at hk
    rw [show (!s == (#[] : Array UInt8).toList) = decide (s ≠ []) by rw [beqnil]; simp]
    cases hl : decide (s ≠ []) with
    | true =>
      rw [hl, Bool.true_and] at hk
      have : decide ((s.length : Int) ≤ 24) = decide (s.length ≤ 24) := decide_eq_decide.2 (by omega)
      show _ ∧ _ ∧ R (.bool (decide ((s.length : Int) ≤ 24))) h
      rw [this]; exact ⟨he, Low.bool _ _, hk⟩
    | false =>
      rw [hl, Bool.false_and] at hk
      exact ⟨he, Low.bool _ _, hk⟩
/-- A part of what is read. -/
theorem rd_sub {h : AH} {a : Pt} {N o k : Nat} {cs : List AV} (hr : h.rd a N = some cs) (hl : o + k ≤ N) : h.rd ⟨a.b, a.o + o⟩ k = some ((cs.drop o).take k) := by
  unfold AH.rd at hr ⊢
  cases hg : h.get a.b with
  | none => rw [hg] at hr; cases hr
  | some ob =>
    rw [hg] at hr
    cases ob with
    | cells ro fz el c =>
      simp only at hr ⊢
      split at hr
      · rename_i h1
        cases hr
        rw [if_pos (by omega)]
        congr 1
        rw [List.drop_take, List.take_take, List.drop_drop, Nat.min_eq_left (by omega)]
      · cases hr
    | _ => cases hr
theorem rd_len {h : AH} {a : Pt} {N : Nat} {cs : List AV} (hr : h.rd a N = some cs) : cs.length = N := by
  unfold AH.rd at hr
  cases hg : h.get a.b with
  | none => rw [hg] at hr; cases hr
  | some ob =>
    rw [hg] at hr
    cases ob with
    | cells ro fz el c =>
      simp only at hr
      split at hr
      · cases hr; simp; omega
      · cases hr
    | _ => cases hr
theorem rd_ext {h h' : AH} {a : Pt} {N : Nat} {cs : List AV} (hr : h.rd a N = some cs) (he : h'.get a.b = h.get a.b) : h'.rd a N = some cs := by
  unfold AH.rd at hr ⊢; rw [he]; exact hr
theorem flat_len (l : List Sp) : (l.flatMap sc).length = l.length * 9 := by
  induction l with
  | nil => rfl
  | cons x r ih => rw [List.flatMap_cons, List.length_append, ih]; simp; omega
theorem flat_el : ∀ {l : List Sp} {i : Nat} (h : i < l.length), ((l.flatMap sc).drop (i * 9)).take 9 = sc l[i]
  | x :: r, 0, _ => rfl
  | x :: r, i + 1, h => by
    have e : (List.flatMap sc (x :: r)).drop ((i + 1) * 9) = (List.flatMap sc r).drop (i * 9) := by
      rw [List.flatMap_cons, List.drop_append, List.drop_of_length_le (by simp; omega), List.nil_append]
      congr 1; simp; omega
    rw [e]; exact flat_el (by simpa using h)
/-- A row of records, in any block. -/
def SL (h : AH) (a : Option Pt) (l : List Sp) : Prop := SlAt h a (l.length * 9) (l.flatMap sc)
theorem SL.el {h : AH} {a : Option Pt} {l : List Sp} (hs : SL h a l) {i : Nat} (hi : i < l.length) : ∃ p, a = some p ∧ h.rd ⟨p.b, p.o + i * 9⟩ 9 = some (sc l[i]) := by
  cases a with
  | none => have := hs.1; omega
  | some p =>
    refine ⟨p, rfl, ?_⟩
    have hs : h.rd p (l.length * 9) = some (l.flatMap sc) := hs
    rw [rd_sub hs (show i * 9 + 9 ≤ l.length * 9 by omega), flat_el hi]
theorem wB {b : Bool} (p : Prop) [Decidable p] (h : decide p = b) : (b = true → p) ∧ (b = false → ¬ p) := ⟨fun e => of_decide_eq_true (h.trans e), fun e => of_decide_eq_false (h.trans e)⟩
theorem may_ok {x : Sp} (h : okS x = true) : may x = 0 := by rw [may, if_pos h]
theorem may_no {x : Sp} (h : okS x = false) : may x = 1 := by rw [may, if_neg (by rw [h]; decide)]
section
variable {x : Sp} {h : AH} {R : AV → AH → Prop}
theorem gx (h : AH) (x : Sp) : (h.new (AObj.cells false 0 ⟨37, true, true⟩ (sc x))).get h.next = SB x := get_new _ _
theorem rx {h1 : AH} {b : Nat} (hg : h1.get b = SB x) (o k : Nat) (ho : o + k ≤ 9) : h1.rd ⟨b, o⟩ k = some (((sc x).drop o).take k) := rdg hg ho
theorem c78 (h1 : x.s.length < 2 ^ 60) (h2 : x.o.length < 2 ^ 60) (hk : R (.int .i64 (may x)) h) : ACall prog (.func (.func 78) [] []) [.agg (sc x)] h R := by
  refine ACall.pure (a78 (w78 _ _ _ _ _ _ _ _ _ _ _) ⟨_, rx (gx h x) 0 1 (by omega), ?_⟩)
  have he : Ext h (h.new (.cells false 0 ⟨37, true, true⟩ (sc x))) := (Ext.refl h).new _
  have no : okS x = false → Ext h (h.new (.cells false 0 ⟨37, true, true⟩ (sc x))) ∧ Low h.next (.int .i64 (1 : Int)) ∧ R (.int .i64 1) h := fun e => ⟨he, Low.int _ _ _, by rw [may_no e] at hk; exact hk⟩
  cases e1 : decide (x.t < (1 : Int)) with
  | true => exact ⟨fun _ => no (by have := of_decide_eq_true e1; simp [okS]; omega), fun h => by cases h⟩
  | false =>
  refine ⟨_, rx (gx h x) 1 1 (by omega), ?_⟩
  cases e2 : decide (x.i < (1 : Int)) with
  | true => exact ⟨fun _ => no (by have := of_decide_eq_true e2; simp [okS]; omega), fun h => by cases h⟩
  | false =>
  refine ⟨_, rx (gx h x) 2 1 (by omega), ?_⟩
  cases e3 : decide (x.p < (0 : Int)) with
  | true => exact ⟨fun _ => no (by have := of_decide_eq_true e3; simp [okS]; omega), fun h => by cases h⟩
  | false =>
  refine ⟨_, rx (gx h x) 3 1 (by omega), ?_⟩
  cases e4 : decide (x.r < (0 : Int)) with
  | true => exact ⟨fun _ => no (by have := of_decide_eq_true e4; simp [okS]; omega), fun h => by cases h⟩
  | false =>
  refine ⟨_, rx (gx h x) 4 1 (by omega), c137 h1 ⟨_, rfl, ?_⟩⟩
  cases e5 : nm x.s with
  | false => exact ⟨fun _ => no (by simp [okS, e5]), fun h => by cases h⟩
  | true =>
  refine ⟨_, rx (gx h x) 5 1 (by omega), c137 h2 ⟨_, rfl, ?_⟩⟩
  cases e6 : nm x.o with
  | false => exact ⟨fun _ => no (by simp [okS, e6]), fun h => by cases h⟩
  | true =>
  refine ⟨_, rx (gx h x) 6 1 (by omega), ?_⟩
  cases e7 : decide (x.b < (-4611686018427387904 : Int)) with
  | true => exact ⟨fun _ => no (by have := of_decide_eq_true e7; simp [okS]; omega), fun h => by cases h⟩
  | false =>
  refine ⟨_, rx (gx h x) 6 1 (by omega), fun e8 => no ?_, fun e8 => ⟨he, Low.int _ _ _, ?_⟩⟩
  · have := of_decide_eq_true (show decide (x.b ≥ 4611686018427387904) = true from e8)
    simp [okS]; omega
  · have := of_decide_eq_false (show decide (x.b ≥ 4611686018427387904) = false from e8)
    have e1 := of_decide_eq_false e1
    have e2 := of_decide_eq_false e2
    have e3 := of_decide_eq_false e3
    have e4 := of_decide_eq_false e4
    have e7 := of_decide_eq_false e7
    rw [may_ok (by simp [okS, e5, e6]; omega)] at hk; exact hk
theorem c124 (h1 : x.s.length < 2 ^ 60) (h2 : x.o.length < 2 ^ 60) (hk : R (.int .i64 (may x)) h) : ACall prog (.func (.func 124) [] []) [.agg (sc x)] h R := by
  refine ACall.pure (a124 (w124 _ _ _ _ _ _ _ _ _ _ _) ⟨_, rx (gx h x) 0 1 (by omega), ?_⟩)
  have he : Ext h (h.new (.cells false 0 ⟨37, true, true⟩ (sc x))) := (Ext.refl h).new _
  have no : okS x = false → Ext h (h.new (.cells false 0 ⟨37, true, true⟩ (sc x))) ∧ Low h.next (.int .i64 (1 : Int)) ∧ R (.int .i64 1) h := fun e => ⟨he, Low.int _ _ _, by rw [may_no e] at hk; exact hk⟩
  cases e1 : decide (x.t > (0 : Int)) with
  | false => exact ⟨fun _ => no (by have := of_decide_eq_false e1; simp [okS]; omega), fun h => by cases h⟩
  | true =>
  refine ⟨_, rx (gx h x) 1 1 (by omega), ?_⟩
  cases e2 : decide (x.i > (0 : Int)) with
  | false =>
    exact ⟨fun _ => no (by have := of_decide_eq_false e2; simp [okS]; omega), fun h => by cases h⟩
  | true =>
  refine ⟨_, rx (gx h x) 2 1 (by omega), ?_⟩
  cases e3 : decide (x.p ≥ (0 : Int)) with
  | false =>
    exact ⟨fun _ => no (by have := of_decide_eq_false e3; simp [okS]; omega), fun h => by cases h⟩
  | true =>
  refine ⟨_, rx (gx h x) 3 1 (by omega), ?_⟩
  cases e4 : decide (x.r ≥ (0 : Int)) with
  | false =>
    exact ⟨fun _ => no (by have := of_decide_eq_false e4; simp [okS]; omega), fun h => by cases h⟩
  | true =>
  refine ⟨_, rx (gx h x) 4 1 (by omega), c180 h1 ⟨_, rfl, ?_⟩⟩
  cases e5 : nm x.s with
  | false => exact ⟨fun _ => no (by simp [okS, e5]), fun h => by cases h⟩
  | true =>
  refine ⟨_, rx (gx h x) 5 1 (by omega), c180 h2 ⟨_, rfl, ?_⟩⟩
  cases e6 : nm x.o with
  | false => exact ⟨fun _ => no (by simp [okS, e6]), fun h => by cases h⟩
  | true =>
  refine ⟨_, rx (gx h x) 6 1 (by omega), ?_⟩
  cases e7 : decide (x.b < (-4611686018427387904 : Int)) with
  | true => exact ⟨fun _ => no (by have := of_decide_eq_true e7; simp [okS]; omega), fun h => by cases h⟩
  | false =>
  refine ⟨_, rx (gx h x) 6 1 (by omega), fun e8 => no ?_, fun e8 => ⟨he, Low.int _ _ _, ?_⟩⟩
  · have := of_decide_eq_true (show decide (x.b > 4611686018427387903) = true from e8)
    simp [okS]; omega
  · have := of_decide_eq_false (show decide (x.b > 4611686018427387903) = false from e8)
    have e1 := of_decide_eq_true e1
    have e2 := of_decide_eq_true e2
    have e3 := of_decide_eq_true e3
    have e4 := of_decide_eq_true e4
    have e7 := of_decide_eq_false e7
    rw [may_ok (by simp [okS, e5, e6]; omega)] at hk; exact hk
theorem c123 (h1 : x.s.length < 2 ^ 60) (h2 : x.o.length < 2 ^ 60) (hk : R (.bool (!okS x)) h) : ACall prog (.func (.func 123) [] []) [.agg (sc x)] h R := by
  refine ACall.pure (a123 (w123 _ _ _ _ _ _ _ _ _ _ _) ⟨(x.t, x.i, x.p, x.r, x.s, x.o, x.b, x.d, x.g), rx (gx h x) 0 9 (by omega), c124 h1 h2 ⟨_, rfl, (Ext.refl h).new _, Low.bool _ _, ?_⟩⟩)
  have : (may x != (0 : Int)) = !okS x := by unfold may; cases okS x <;> rfl
  rw [this]; exact hk
end
/-- The texts are not too long. -/
def ShortS (x : Sp) : Prop := x.s.length < 2 ^ 60 ∧ x.o.length < 2 ^ 60
section
variable {l : List Sp} {a : Option Pt} {h : AH} {R : AV → AH → Prop}
theorem c179 (hs : SL h a l) (hl : ∀ x ∈ l, ShortS x) (hn : l.length < 2 ^ 60) (hk : ∀ k : Int, decide (k ≥ 0) = !l.all okS → R (.int .i64 k) h) : ACall prog (.func (.func 179) [] []) [.slice a l.length 9, .func (.func 123) [] []] h R := by
  refine a179 (w179 _ _ _ _ _) ⟨fun (x, _) h1 => h1 = h ∧ ∃ i : Nat, x = i ∧ i ≤ l.length ∧ (l.take i).all okS = true, fun (x, _) _ => (l.length - x).toNat, ⟨rfl, 0, rfl, Nat.zero_le _, rfl⟩, ?_⟩
  rintro x h1 ⟨rfl, i, rfl, hi, ha⟩
  refine ⟨fun hx => ?_, fun hx => ?_⟩
  · have hx : i < l.length := by have := of_decide_eq_true hx; omega
    have e1 : IntKind.i64.wrap ((i : Int) + (1 : Int)) = ((i + 1 : Nat) : Int) := wrapN (n := i + 1) (by omega)
    obtain ⟨p, rfl, hr⟩ := hs.el hx
    refine ⟨by omega, by omega, (l[i].t, l[i].i, l[i].p, l[i].r, l[i].s, l[i].o, l[i].b, l[i].d, l[i].g), hr, ?_⟩
    have hsh := hl _ (List.getElem_mem hx)
    refine c123 (x := l[i]) hsh.1 hsh.2 ⟨_, rfl, fun hb => ?_, fun hb => ⟨⟨rfl, i + 1, e1, by omega, ?_⟩, ?_⟩⟩
    · refine hk _ ?_
      have : l.all okS = false := by
        rw [List.all_eq_false]
        exact ⟨l[i], List.getElem_mem hx, by simpa using hb⟩
      rw [this]; exact decide_eq_true (by omega)
    · rw [List.take_add, List.drop_eq_getElem_cons hx, List.all_append, ha, Bool.true_and]
      show ([l[i]]).all okS = true
      simpa using hb
    · show ((l.length : Int) - IntKind.i64.wrap ((i : Int) + (1 : Int))).toNat < ((l.length : Int) - (i : Int)).toNat
      rw [e1]; omega
  · have hx : i = l.length := by have := of_decide_eq_false hx; omega
    subst hx
    rw [List.take_length] at ha
    exact hk _ (by rw [ha]; rfl)
theorem c63 (hs : SL h a l) (hl : ∀ x ∈ l, ShortS x) (hn : l.length < 2 ^ 60) (hk : R (.bool (l.all okS)) h) : ACall prog (.func (.func 63) [] []) [.slice a l.length 9] h R := by
  refine a63 (w63 _ _ _ _) (a122 (w122 _ _ _ _ _) (c179 hs hl hn fun k hk' => ⟨_, rfl, _, rfl, ?_⟩))
  rw [hk', Bool.not_not]; exact hk
end
end Go.Lm
/- Law 36, main part: records that are read. -/
namespace Go.Lm
open Go Go.La Go.RowKit Go.Proofs.Tryz

theorem rnum_len (st : Str × Int) : (rnum st).2.1.length ≤ st.1.length := by unfold rnum; split <;> simp
theorem rsig_len (st : Str × Int) : (rsig st).2.1.length ≤ st.1.length := by unfold rsig; split <;> simp
theorem rtext_len (m : Int) (st : Str × Int) : (rtext m st).2.1.length ≤ st.1.length := by
  unfold rtext; split
  · split <;> simp
  · simp
theorem rtext_short (m : Int) (st : Str × Int) : (rtext m st).1.length ≤ st.1.length := by
  unfold rtext; split
  · split
    · simp; omega
    · simp
  · simp
theorem rflag_len (st : Str × Int) : (rflag st).2.1.length ≤ st.1.length := by
  unfold rflag; split
  · split
    · simp
    · rename_i e; rw [e]; split <;> simp
  · simp
theorem rnum_i64 (st : Str × Int) : 0 ≤ (rnum st).1 ∧ (rnum st).1 < 2 ^ 63 := by
  unfold rnum; split
  · have := tk_lt9 st.1; simp only; omega
  · simp
theorem rsig_i64 (st : Str × Int) : I64 (rsig st).1 := by
  unfold rsig; split
  · exact unz_i64 (tk_lt10 _)
  · unfold I64; simp

def rs1 (st : Str × Int) : Str × Int := (rnum st).2
def rs2 (st : Str × Int) : Str × Int := (rnum (rs1 st)).2
def rs3 (st : Str × Int) : Str × Int := (rnum (rs2 st)).2
def rs4 (st : Str × Int) : Str × Int := (rnum (rs3 st)).2
def rs5 (st : Str × Int) : Str × Int := (rtext 24 (rs4 st)).2
def rs6 (st : Str × Int) : Str × Int := (rtext 24 (rs5 st)).2
def rs7 (st : Str × Int) : Str × Int := (rsig (rs6 st)).2
def rs8 (st : Str × Int) : Str × Int := (rsig (rs7 st)).2
def rs9 (st : Str × Int) : Str × Int := (rflag (rs8 st)).2
def rsp (st : Str × Int) : Sp := ⟨(rnum st).1, (rnum (rs1 st)).1, (rnum (rs2 st)).1, (rnum (rs3 st)).1, (rtext 24 (rs4 st)).1, (rtext 24 (rs5 st)).1, (rsig (rs6 st)).1, (rsig (rs7 st)).1, (rflag (rs8 st)).1⟩
/-- The record that bytes begin with, and what is left. -/
def rspan (st : Str × Int) : Sp × (Str × Int) := (if (rs9 st).2 = 0 then rsp st else Sp.zero, rs9 st)
theorem rs4_len (st : Str × Int) : (rs4 st).1.length ≤ st.1.length := Nat.le_trans (rnum_len _) (Nat.le_trans (rnum_len _) (Nat.le_trans (rnum_len _) (rnum_len _)))
theorem rs5_len (st : Str × Int) : (rs5 st).1.length ≤ st.1.length := Nat.le_trans (rtext_len _ _) (rs4_len _)
theorem rs9_len (st : Str × Int) : (rs9 st).1.length ≤ st.1.length := Nat.le_trans (rflag_len _) (Nat.le_trans (rsig_len _) (Nat.le_trans (rsig_len _) (Nat.le_trans (rtext_len _ _) (rs5_len _))))
theorem rspan_len (st : Str × Int) : (rspan st).2.1.length ≤ st.1.length := rs9_len st
/-- All numbers of the record are of 64 bits, and its texts are short. -/
def FitS (x : Sp) : Prop := I64 x.t ∧ I64 x.i ∧ I64 x.p ∧ I64 x.r ∧ I64 x.b ∧ I64 x.d ∧ ShortS x
theorem rspan_fit {st : Str × Int} (hs : st.1.length < 2 ^ 60) : FitS (rspan st).1 := by
  unfold rspan; dsimp only; split
  · have n : ∀ st, I64 (rnum st).1 := fun st => by have := rnum_i64 st; unfold I64; omega
    exact ⟨n _, n _, n _, n _, rsig_i64 _, rsig_i64 _, Nat.lt_of_le_of_lt (Nat.le_trans (rtext_short _ _) (rs4_len _)) hs, Nat.lt_of_le_of_lt (Nat.le_trans (rtext_short _ _) (rs5_len _)) hs⟩
  · unfold FitS I64 ShortS Sp.zero; simp

section
variable {b : Nat} {el : El} {st : Str × Int} {h : AH} {R : AV → AH → Prop}
/-- The cells of the reader are st, the new block k holds xs, and all else that is old is as it was. -/
structure RI (h : AH) (b : Nat) (el : El) (h1 : AH) (st : Str × Int) (k : Nat) (xs : List AV) : Prop where
  nx : h.next ≤ k ∧ k < h1.next
  rd : h1.get b = RB el st
  gx : h1.get k = some (.cells false 0 ⟨37, true, true⟩ xs)
  old : ∀ c, c < h.next → c ≠ b → h1.get c = h.get c
theorem RI.setb {h1 : AH} {k : Nat} {xs : List AV} {st' : Str × Int} (hb : b < h.next) (i : RI h b el h1 st k xs) : RI h b el (h1.set b (RB el st')) st' k xs :=
  ⟨i.nx, gset _ _ _ _, get_set' i.gx (by have := i.nx; omega), fun c hc hn => get_set' (i.old c hc hn) hn⟩
theorem RI.setk {h1 : AH} {k : Nat} {xs xs' : List AV} (hb : b < h.next) (i : RI h b el h1 st k xs) : RI h b el (h1.set k (some (.cells false 0 ⟨37, true, true⟩ xs'))) st k xs' :=
  ⟨i.nx, get_set' i.rd (by have := i.nx; omega), get_set _ _ _, fun c hc hn => get_set' (i.old c hc hn) (by have := i.nx; omega)⟩
theorem RI.wr {h1 : AH} {k : Nat} {xs : List AV} {o : Nat} {l : List AV} (i : RI h b el h1 st k xs) (ho : o + l.length ≤ xs.length) : h1.wr ⟨k, o⟩ l = some (h1.set k (some (.cells false 0 ⟨37, true, true⟩ (splice xs o l)))) := wrg i.gx ho (Nat.zero_le _)
theorem RI.ext {h1 : AH} {k : Nat} {xs : List AV} (hb : b < h.next) (i : RI h b el h1 st k xs) : Ext (h.set b (RB el st)) h1 :=
  ⟨Nat.le_of_lt (Nat.lt_of_le_of_lt i.nx.1 i.nx.2), fun c hc => by
    by_cases e : c = b
    · subst e; rw [i.rd, gset]
    · rw [AH.set_get, if_neg e]; exact i.old c hc e⟩
theorem Low.sc {n : Nat} (x : Sp) : ∀ u ∈ Lm.sc x, Low n u := by
  intro u hu
  simp only [Lm.sc, List.mem_cons, List.not_mem_nil, or_false] at hu
  rcases hu with h | h | h | h | h | h | h | h | h <;> subst h <;> first | exact Low.int _ _ _ | exact Low.str _ _ | exact Low.bool _ _
theorem Low.RB {n : Nat} (st : Str × Int) : ∀ u ∈ [AV.str st.1, AV.int .i64 st.2], Low n u := by
  intro u hu
  simp only [List.mem_cons, List.not_mem_nil, or_false] at hu
  rcases hu with h | h <;> subst h <;> first | exact Low.int _ _ _ | exact Low.str _ _
theorem c77 (hs : st.1.length < 2 ^ 60) (hn : b < h.next) (hb : h.get b = RB el st) (hk : R (.agg (sc (rspan st).1)) (h.set b (RB el (rspan st).2))) : ACall prog (.func (.func 77) [] []) [.ptr (some ⟨b, 0⟩)] h R := by
  refine ACall.pureAt hn (a77 (w77 _ _ _) ?_)
  have i0 : RI h b el (h.new (.cells false 0 ⟨37, true, true⟩ (sc Sp.zero))) st h.next (sc Sp.zero) := ⟨⟨Nat.le_refl _, Nat.lt_succ_self _⟩, get_new' hb hn, get_new _ _, fun c hc _ => get_new' rfl hc⟩
  refine c36 i0.rd ⟨_, rfl, ?_⟩
  have i1 : RI h b el _ (rs1 st) h.next (sc Sp.zero) := i0.setb hn
  refine c36 i1.rd ⟨_, rfl, ?_⟩
  have i2 : RI h b el _ (rs2 st) h.next (sc Sp.zero) := i1.setb hn
  refine c36 i2.rd ⟨_, rfl, ?_⟩
  have i3 : RI h b el _ (rs3 st) h.next (sc Sp.zero) := i2.setb hn
  refine c36 i3.rd ⟨_, rfl, ?_⟩
  have i4 : RI h b el _ (rs4 st) h.next (sc Sp.zero) := i3.setb hn
  refine c135 (Nat.lt_of_le_of_lt (rs4_len st) hs) i4.rd ⟨_, rfl, ?_⟩
  have i5 : RI h b el _ (rs5 st) h.next (sc Sp.zero) := i4.setb hn
  refine c135 (Nat.lt_of_le_of_lt (rs5_len st) hs) i5.rd ⟨_, rfl, ?_⟩
  have i6 : RI h b el _ (rs6 st) h.next (sc Sp.zero) := i5.setb hn
  refine c38 i6.rd ⟨_, rfl, ?_⟩
  have i7 : RI h b el _ (rs7 st) h.next (sc Sp.zero) := i6.setb hn
  refine c38 i7.rd ⟨_, rfl, ?_⟩
  have i8 : RI h b el _ (rs8 st) h.next (sc Sp.zero) := i7.setb hn
  refine c136 i8.rd ⟨_, rfl, ?_⟩
  have i9 : RI h b el _ (rs9 st) h.next (sc Sp.zero) := i8.setb hn
  refine ⟨_, rdE i9.rd, fun h0 => ⟨_, i9.wr (by simp), (0, 0, 0, 0, [], [], 0, 0, false), rx (x := Sp.zero) (get_set _ _ _) 0 9 (by omega), false, 0, el, [.str (rs9 st).1, .int .i64 (rs9 st).2], ?_, Low.RB _, Low.agg (Low.sc Sp.zero), ?_⟩, fun h0 => ⟨_, i9.wr (by simp), ((rsp st).t, (rsp st).i, (rsp st).p, (rsp st).r, (rsp st).s, (rsp st).o, (rsp st).b, (rsp st).d, (rsp st).g), rx (x := rsp st) (get_set _ _ _) 0 9 (by omega), false, 0, el, [.str (rs9 st).1, .int .i64 (rs9 st).2], ?_, Low.RB _, Low.agg (Low.sc (rsp st)), ?_⟩⟩
  · exact (i9.setk hn).ext hn
  · have h0 : (rs9 st).2 ≠ 0 := by simpa using h0
    rw [rspan, if_neg h0] at hk; exact hk
  · exact (i9.setk hn).ext hn
  · have h0 : (rs9 st).2 = 0 := by simpa using h0
    rw [rspan, if_pos h0] at hk; exact hk
def rsN (st : Str × Int) : Nat → Str × Int
  | 0 => st
  | 1 => rs1 st
  | 2 => rs2 st
  | 3 => rs3 st
  | _ => rs4 st
def rpN (st : Str × Int) : Nat → Sp
  | 0 => Sp.zero
  | 1 => { Sp.zero with t := (rnum st).1 }
  | 2 => { Sp.zero with t := (rnum st).1, i := (rnum (rs1 st)).1 }
  | 3 => { Sp.zero with t := (rnum st).1, i := (rnum (rs1 st)).1, p := (rnum (rs2 st)).1 }
  | _ => { Sp.zero with t := (rnum st).1, i := (rnum (rs1 st)).1, p := (rnum (rs2 st)).1, r := (rnum (rs3 st)).1 }
def q5 (st : Str × Int) : Sp := { rpN st 4 with s := (rtext 24 (rs4 st)).1 }
def q6 (st : Str × Int) : Sp := { q5 st with o := (rtext 24 (rs5 st)).1 }
def q7 (st : Str × Int) : Sp := { q6 st with b := (rsig (rs6 st)).1 }
def q8 (st : Str × Int) : Sp := { q7 st with d := (rsig (rs7 st)).1 }
theorem c73 (hs : st.1.length < 2 ^ 60) (hn : b < h.next) (hb : h.get b = RB el st) (hk : R (.agg (sc (rspan st).1)) (h.set b (RB el (rspan st).2))) : ACall prog (.func (.func 73) [] []) [.ptr (some ⟨b, 0⟩)] h R := by
  refine ACall.pureAt hn (a73 (w73 _ _ _) ?_)
  refine ⟨fun (x, _) h1 => ∃ i : Nat, x = i ∧ i ≤ 4 ∧ RI h b el h1 (rsN st i) (h.next + 1) (sc (rpN st i)) ∧ h1.get h.next = SB Sp.zero, fun (x, _) _ => (4 - x).toNat, ⟨0, rfl, by omega, ⟨⟨by omega, Nat.lt_succ_self _⟩, get_new' (get_new' hb hn) (Nat.lt_succ_of_lt hn), get_new _ _, fun c hc _ => get_new' (get_new' rfl hc) (Nat.lt_succ_of_lt hc)⟩, get_new' (get_new _ _) (Nat.lt_succ_self _)⟩, ?_⟩
  rintro x h1 ⟨i, rfl, hi, r, hz⟩
  have hne : h.next ≠ b := by omega
  refine ⟨fun hx => ?_, fun hx => ?_⟩
  · have hx : i < 4 := by have := of_decide_eq_true hx; omega
    refine ⟨by omega, by omega, ?_⟩
    have e1 : IntKind.i64.wrap ((i : Int) + (1 : Int)) = ((i + 1 : Nat) : Int) := wrapN (n := i + 1) (by omega)
    rw [e1]
    have hc : i = 0 ∨ i = 1 ∨ i = 2 ∨ i = 3 := by omega
    rcases hc with rfl | rfl | rfl | rfl
    all_goals
      refine c30 r.rd ⟨_, rfl, _, (r.setb hn).wr (by simp), ⟨_, rfl, by omega, (r.setb hn).setk hn, get_set' (get_set' hz hne) (by omega)⟩, ?_⟩
      show ((4 : Int) - _).toNat < ((4 : Int) - _).toNat
      omega
  · have hx : i = 4 := by have := of_decide_eq_false hx; omega
    subst hx
    have i4 : RI h b el h1 (rs4 st) (h.next + 1) _ := r
    refine c131 (Nat.lt_of_le_of_lt (rs4_len st) hs) i4.rd ⟨_, rfl, _, (i4.setb hn).wr (by simp), ?_⟩
    have i5 : RI h b el _ (rs5 st) (h.next + 1) (sc (q5 st)) := (i4.setb hn).setk (xs' := sc (q5 st)) hn
    refine c131 (Nat.lt_of_le_of_lt (rs5_len st) hs) i5.rd ⟨_, rfl, _, (i5.setb hn).wr (by simp), ?_⟩
    have i6 : RI h b el _ (rs6 st) (h.next + 1) (sc (q6 st)) := (i5.setb hn).setk (xs' := sc (q6 st)) hn
    refine c34 i6.rd ⟨_, rfl, _, (i6.setb hn).wr (by simp), ?_⟩
    have i7 : RI h b el _ (rs7 st) (h.next + 1) (sc (q7 st)) := (i6.setb hn).setk (xs' := sc (q7 st)) hn
    refine c34 i7.rd ⟨_, rfl, _, (i7.setb hn).wr (by simp), ?_⟩
    have i8 : RI h b el _ (rs8 st) (h.next + 1) (sc (q8 st)) := (i7.setb hn).setk (xs' := sc (q8 st)) hn
    refine c132 i8.rd ⟨_, rfl, _, (i8.setb hn).wr (by simp), ?_⟩
    have i9 : RI h b el _ (rs9 st) (h.next + 1) (sc (rsp st)) := (i8.setb hn).setk (xs' := sc (rsp st)) hn
    have hz9 : ∀ (a b2 c d e f g k m n : Option AObj), (((((((((((h1.set b a).set (h.next + 1) b2).set b c).set (h.next + 1) d).set b e).set (h.next + 1) f).set b g).set (h.next + 1) k).set b m).set (h.next + 1) n)).get h.next = SB Sp.zero := by
      intro a b2 c d e f g k m n
      repeat refine get_set' ?_ (by omega)
      exact hz
    refine c31 i9.rd ⟨_, rfl, fun h0 => ⟨_, wrg (hz9 _ _ _ _ _ _ _ _ _ _) (by simp) (Nat.zero_le _), (0, 0, 0, 0, [], [], 0, 0, false), rx (x := Sp.zero) (get_set _ _ _) 0 9 (by omega), false, 0, el, [.str (rs9 st).1, .int .i64 (rs9 st).2], ?_, Low.RB _, Low.agg (Low.sc Sp.zero), ?_⟩, fun h0 => ⟨((rsp st).t, (rsp st).i, (rsp st).p, (rsp st).r, (rsp st).s, (rsp st).o, (rsp st).b, (rsp st).d, (rsp st).g), rx (x := rsp st) i9.gx 0 9 (by omega), _, wrg (hz9 _ _ _ _ _ _ _ _ _ _) (by simp [encTup]) (Nat.zero_le _), ((rsp st).t, (rsp st).i, (rsp st).p, (rsp st).r, (rsp st).s, (rsp st).o, (rsp st).b, (rsp st).d, (rsp st).g), rx (x := rsp st) (get_set _ _ _) 0 9 (by omega), false, 0, el, [.str (rs9 st).1, .int .i64 (rs9 st).2], ?_, Low.RB _, Low.agg (Low.sc (rsp st)), ?_⟩⟩
    · exact (i9.ext hn).set (u := h.next) (Nat.le_refl _) _
    · have h0 : (rs9 st).2 ≠ 0 := by simpa using h0
      rw [rspan, if_neg h0] at hk; exact hk
    · exact (i9.ext hn).set (u := h.next) (Nat.le_refl _) _
    · have h0 : (rs9 st).2 = 0 := by simpa using h0
      rw [rspan, if_pos h0] at hk; exact hk
end
end Go.Lm
/- Law 36, main part: what the table of types tells. -/
namespace Go.Lm
open Go Go.La Go.RowKit Go.Proofs.Tryz

theorem tyBuilder : ∃ e, tyt.find 373 = some .uptr ∧ tyt.find 56 = some (.plain false [.ptr] (.ptr e)) ∧ Go.liesAt prog prog.depth 61 (2 / prog.cellsOf 61) 0 e 1 = true :=
  ⟨59, by kernel_rfl, by kernel_rfl, by kernel_rfl⟩
theorem c251 {v : AV} {h : AH} {R : AV → AH → Prop} (hR : R v h) : ACall prog (.func (.func 251) [] []) [v] h R :=
  same_ok (f := 251) (fn := f251) (by kernel_rfl) (by kernel_rfl) (by kernel_rfl) (by kernel_rfl) rfl hR
end Go.Lm
/- Law 36, main part: writers. -/
namespace Go.Lm
open Go Go.La Go.RowKit Go.Proofs.Tryz

/-- A writer of which t was written: block b; its bytes lie in block c. -/
def WR (h : AH) (b : Nat) (c : Option Nat) (t : Str) : Prop :=
  ∃ pv a, h.get b = some (.cells false 0 ⟨61, true, true⟩ [.ptr pv, .slice a t.length 1]) ∧ b < h.next ∧ (pv = none ∨ pv = some ⟨b, 0⟩) ∧
    match a with
    | none => t = [] ∧ c = none
    | some p => p.o = 0 ∧ c = some p.b ∧ p.b ≠ b ∧ p.b < h.next ∧ t ≠ [] ∧ ∃ fz, h.get p.b = some (.cells false fz ⟨5, false, true⟩ (t.map byteA)) ∧ fz ≤ t.length
/-- What is old, and not the writer's, is as it was, and stays not the writer's. -/
def Fr (h : AH) (b : Nat) (c : Option Nat) (h' : AH) (c' : Option Nat) : Prop :=
  h.next ≤ h'.next ∧ ∀ k, k < h.next → k ≠ b → c ≠ some k → h'.get k = h.get k ∧ c' ≠ some k
theorem Fr.refl (h : AH) (b : Nat) (c : Option Nat) : Fr h b c h c := ⟨Nat.le_refl _, fun _ _ _ h => ⟨rfl, h⟩⟩
theorem Fr.trans {h h1 h2 : AH} {b : Nat} {c c1 c2 : Option Nat} (f : Fr h b c h1 c1) (g : Fr h1 b c1 h2 c2) : Fr h b c h2 c2 :=
  ⟨Nat.le_trans f.1 g.1, fun k hk hb hc => by
    obtain ⟨e1, n1⟩ := f.2 k hk hb hc
    obtain ⟨e2, n2⟩ := g.2 k (Nat.lt_of_lt_of_le hk f.1) hb n1
    exact ⟨e2.trans e1, n2⟩⟩
theorem WR.lt {h : AH} {b : Nat} {c : Option Nat} {t : Str} (w : WR h b c t) : ∀ k, c = some k → k < h.next := by
  obtain ⟨pv, a, -, -, -, h3⟩ := w
  intro k hk
  cases a with
  | none => rw [h3.2] at hk; cases hk
  | some p => rw [h3.2.1] at hk; cases hk; exact h3.2.2.2.1
theorem WR.mono {h h' : AH} {b : Nat} {c : Option Nat} {t : Str} (w : WR h b c t) (e : Ext h h') : WR h' b c t := by
  obtain ⟨pv, a, h1, h2, h3, h4⟩ := w
  refine ⟨pv, a, (e.2 _ h2).trans h1, Nat.lt_of_lt_of_le h2 e.1, h3, ?_⟩
  cases a with
  | none => exact h4
  | some p =>
    obtain ⟨g1, g2, g3, g4, g5, fz, g6, g7⟩ := h4
    exact ⟨g1, g2, g3, Nat.lt_of_lt_of_le g4 e.1, g5, fz, (e.2 _ g4).trans g6, g7⟩
theorem WR.fresh (h : AH) : WR (h.new (.cells false 0 ⟨61, true, true⟩ [.ptr none, .slice none 0 1])) h.next none [] :=
  ⟨none, none, get_new _ _, Nat.lt_succ_self _, .inl rfl, rfl, rfl⟩
section
variable {b : Nat} {c : Option Nat} {t : Str} {h : AH} {R : AV → AH → Prop}
theorem c178 (hw : WR h b c t) (hk : ∀ h', WR h' b c t → Fr h b c h' c → h'.next = h.next → (∃ a, h'.get b = some (.cells false 0 ⟨61, true, true⟩ [.ptr (some ⟨b, 0⟩), .slice a t.length 1])) → R (.tuple []) h') : ACall prog (.func (.func 178) [] []) [.ptr (some ⟨b, 0⟩)] h R := by
  obtain ⟨pv, a, h1, h2, h3, h4⟩ := hw
  refine a178 (w178 _ _ _) ⟨pv, rdg h1 (by simp), fun hp => ?_, fun hp => ?_⟩
  · have hp : pv = none := by cases pv with | none => rfl | some _ => cases hp
    subst hp
    refine ⟨_, rdg h1 (by simp), c251 ?_⟩
    obtain ⟨e, f1, f2, f4⟩ := tyBuilder
    rw [f1, f2]
    refine ⟨false, 0, _, _, h1, rfl, f4, _, wrg h1 (by simp) (Nat.zero_le _), hk _ ⟨some ⟨b, 0⟩, a, get_set _ _ _, h2, .inr rfl, ?_⟩ ⟨Nat.le_refl _, fun k _ hb hc => ⟨get_set' rfl hb, hc⟩⟩ rfl ⟨a, get_set _ _ _⟩⟩
    cases a with
    | none => exact h4
    | some p => obtain ⟨g1, g2, g3, g4, g5, fz, g6, g7⟩ := h4; exact ⟨g1, g2, g3, g4, g5, fz, get_set' g6 g3, g7⟩
  · rcases h3 with rfl | rfl
    · cases hp
    · exact ⟨_, rdg h1 (by simp), rfl, fun h => (by cases h), fun _ => hk h ⟨_, a, h1, h2, .inr rfl, h4⟩ (Fr.refl _ _ _) rfl ⟨a, h1⟩⟩
theorem c120 {s : Str} (hw : WR h b c t) (hl : t.length + s.length < 4294967296) (hk : ∀ h' c', WR h' b c' (t ++ s) → Fr h b c h' c' → R (.tuple [.int .i64 s.length, .nilIface]) h') : ACall prog (.func (.func 120) [] []) [.ptr (some ⟨b, 0⟩), .str s] h R := by
  refine a120 (w120 _ _ _ _) (c178 hw fun h1 hw1 hf1 hn1 _ => ⟨(), rfl, ?_⟩)
  obtain ⟨pv, a, g1, g2, g3, g4⟩ := hw1
  refine ⟨⟨a, t.length⟩, rdg g1 (by simp), hl, ?_⟩
  cases hs : (List.length s).beq 0 with
  | true =>
    have hs : s = [] := List.eq_nil_of_length_eq_zero (Nat.eq_of_beq_eq_true hs)
    subst hs
    rw [List.append_nil] at hk
    refine ⟨_, wrg g1 (by simp) (Nat.zero_le _), hk _ c ⟨pv, a, get_set _ _ _, g2, g3, ?_⟩ (hf1.trans ⟨Nat.le_refl _, fun k _ hb hc => ⟨get_set' rfl hb, hc⟩⟩)⟩
    cases a with
    | none => exact g4
    | some p => obtain ⟨g1, g2, g3, g4, g5, fz, g6, g7⟩ := g4; exact ⟨g1, g2, g3, g4, g5, fz, get_set' g6 g3, g7⟩
  | false =>
    have hs : s ≠ [] := by rintro rfl; exact absurd hs (by decide)
    have hts : t ++ s ≠ [] := by simp [hs]
    cases a with
    | none =>
      obtain ⟨rfl, rfl⟩ := g4
      refine ⟨_, wrg (get_new' g1 g2) (by simp) (Nat.zero_le _), hk _ (some h1.next) ⟨pv, some ⟨h1.next, 0⟩, get_set _ _ _, Nat.lt_succ_of_lt g2, g3, rfl, rfl, by simp only; omega, Nat.lt_succ_self _, hts, 0, get_set' (get_new _ _) (show h1.next ≠ b by omega), Nat.zero_le _⟩ (hf1.trans ⟨Nat.le_succ _, fun k hk hb hc => ⟨get_set' (get_new' rfl hk) hb, fun e => by cases e; omega⟩⟩)⟩
    | some p =>
      obtain ⟨po, rfl, pb, pn, pt, fz, pg, pz⟩ := g4
      obtain ⟨pc, _⟩ := p
      simp only at po pb pn pg
      subst po
      refine ⟨fz, false, true, _, pg, by simp, by simpa using pz, _, wrg (get_new' (get_set' g1 (Ne.symm pb)) g2) (by simp) (Nat.zero_le _), hk _ (some h1.next) ⟨pv, some ⟨h1.next, 0⟩, ?_, Nat.lt_succ_of_lt g2, g3, rfl, rfl, by simp only; omega, Nat.lt_succ_self _, hts, fz - 0, get_set' (Eq.trans (get_new (h1.set pc none) _) ?_) (show h1.next ≠ b by omega), by rw [List.length_append]; omega⟩ (hf1.trans ⟨Nat.le_succ _, fun k hk hb hc => ⟨get_set' (get_new' (get_set' rfl fun e => hc (by rw [e])) hk) hb, fun e => by cases e; omega⟩⟩)⟩
      · rw [get_set, List.length_append]; rfl
      · simp [List.take_of_length_le]
theorem c61 {s : Str} (hw : WR h b c t) (hl : (t ++ s).length < 4294967296) (hk : ∀ h' c', WR h' b c' (t ++ s) → Fr h b c h' c' → R (.tuple []) h') : ACall prog (.func (.func 61) [] []) [.ptr (some ⟨b, 0⟩), .str s] h R :=
  a61 (w61 _ _ _ _) ⟨fun _ => c120 hw (by rw [← List.length_append]; exact hl) fun h' c' a b => ⟨(_, _, ()), rfl, hk h' c' a b⟩, fun h => by cases h⟩
theorem c23 {n : Int} (hn : I64 n) (hw : WR h b c t) (hl : (t ++ num n).length < 4294967296) (hk : ∀ h' c', WR h' b c' (t ++ num n) → Fr h b c h' c' → R (.tuple []) h') : ACall prog (.func (.func 23) [] []) [.ptr (some ⟨b, 0⟩), .int .i64 n] h R :=
  a23 (w23 _ _ _ _) (c62 hn ⟨_, rfl, c61 hw hl fun h' c' a b => ⟨(), rfl, hk h' c' a b⟩⟩)
theorem c26 {n : Int} (hn : I64 n) (hw : WR h b c t) (hl : (t ++ sgn n).length < 4294967296) (hk : ∀ h' c', WR h' b c' (t ++ sgn n) → Fr h b c h' c' → R (.tuple []) h') : ACall prog (.func (.func 26) [] []) [.ptr (some ⟨b, 0⟩), .int .i64 n] h R :=
  a26 (w26 _ _ _ _) (c66 hn ⟨_, rfl, c61 hw hl fun h' c' a b => ⟨(), rfl, hk h' c' a b⟩⟩)
def txt (s : Str) : Str := num s.length ++ s
theorem c125 {s : Str} (hw : WR h b c t) (hl : (t ++ txt s).length < 4294967296) (hk : ∀ h' c', WR h' b c' (t ++ txt s) → Fr h b c h' c' → R (.tuple []) h') : ACall prog (.func (.func 125) [] []) [.ptr (some ⟨b, 0⟩), .str s] h R := by
  have hl2 := hl
  simp only [txt, List.length_append] at hl2
  exact a125 (w125 _ _ _ _) (c62 (by unfold I64; omega) ⟨_, rfl, by omega, c61 hw hl fun h' c' a b => ⟨(), rfl, hk h' c' a b⟩⟩)
def flg (g : Bool) : Str := if g then [1] else [0]
theorem c126 {g : Bool} (hw : WR h b c t) (hl : (t ++ flg g).length < 4294967296) (hk : ∀ h' c', WR h' b c' (t ++ flg g) → Fr h b c h' c' → R (.tuple []) h') : ACall prog (.func (.func 126) [] []) [.ptr (some ⟨b, 0⟩), .bool g] h R :=
  a126 (w126 _ _ _ _) ⟨fun e => by subst e; exact c61 hw hl fun h' c' a b => ⟨(), rfl, hk h' c' a b⟩, fun e => by subst e; exact c61 hw hl fun h' c' a b => ⟨(), rfl, hk h' c' a b⟩⟩
theorem byteC_eq : byteC = byteA := rfl
theorem c65 (hw : WR h b c t) (hl : t.length < 4294967296) (hk : ∀ h', Fr h b c h' c → R (.str t) h') : ACall prog (.func (.func 65) [] []) [.ptr (some ⟨b, 0⟩)] h R := by
  obtain ⟨pv, a, h1, h2, h3, h4⟩ := hw
  refine a65 (w65 _ _ _) ⟨⟨a, t.length⟩, rdg h1 (by simp), ?_⟩
  cases a with
  | none =>
    obtain ⟨rfl, rfl⟩ := h4
    exact ⟨⟨none, 0⟩, rdg h1 (by simp), by decide, by decide, fun _ => ⟨⟨none, rfl⟩, hk h (Fr.refl _ _ _)⟩, fun h => absurd h (by decide)⟩
  | some p =>
    obtain ⟨po, rfl, pb, pn, pt, fz, pg, pz⟩ := h4
    obtain ⟨pc, _⟩ := p
    simp only at po pb pn pg
    subst po
    have hp : 0 < t.length := Nat.pos_of_ne_zero fun h => pt (List.eq_nil_of_length_eq_zero h)
    refine ⟨hp, ⟨some ⟨pc, 0⟩, t.length⟩, rdg h1 (by simp), by simp only; omega, by simp only; omega, fun h => absurd h (by simp only; omega), fun _ => ⟨fz, _, _, t, pg, rfl, rfl, by simp, by simp [List.take_of_length_le, byteC_eq], hk _ ⟨Nat.le_refl _, fun k _ hb hc => ⟨get_set' rfl fun e => hc (by rw [e]), hc⟩⟩⟩⟩
theorem c25 (hw : WR h b c t) (hl : t.length < 4294967296) (hk : ∀ h', Fr h b c h' c → R (.str t) h') : ACall prog (.func (.func 25) [] []) [.ptr (some ⟨b, 0⟩)] h R :=
  a25 (w25 _ _ _) ⟨fun h => (by cases h), fun _ => c65 hw hl fun h' f => ⟨_, rfl, hk h' f⟩⟩
end
end Go.Lm
/- Law 36, main part: records that are written. -/
namespace Go.Lm
open Go Go.La Go.RowKit Go.Proofs.Tryz

/-- A record's bytes. -/
def wsp (x : Sp) : Str := num x.t ++ (num x.i ++ (num x.p ++ (num x.r ++ (txt x.s ++ (txt x.o ++ (sgn x.b ++ (sgn x.d ++ flg x.g)))))))
theorem num_len {n : Int} (h : I64 n) : (num n).length ≤ 10 := by
  unfold num; split
  · simp
  · unfold I64 at h; exact dig_len10 (by omega)
theorem sgn_len {n : Int} (h : I64 n) : (sgn n).length ≤ 10 := dig_len10 (zig_lt h)
theorem wsp_len {x : Sp} (h : FitS x) : (wsp x).length ≤ 81 + x.s.length + x.o.length := by
  obtain ⟨h1, h2, h3, h4, h5, h6, h7, h8⟩ := h
  have a := num_len h1
  have b := num_len h2
  have c := num_len h3
  have d := num_len h4
  have e := sgn_len h5
  have f := sgn_len h6
  have g := num_len (n := x.s.length) (by unfold I64; omega)
  have k := num_len (n := x.o.length) (by unfold I64; omega)
  have m : (flg x.g).length = 1 := by unfold flg; split <;> rfl
  simp only [wsp, txt, List.length_append]; omega
section
variable {b : Nat} {c : Option Nat} {t : Str} {h : AH} {R : AV → AH → Prop}
/-- The writer goes on; the block k holds the record x, and is not the writer's. -/
structure WI (h : AH) (b : Nat) (c : Option Nat) (h1 : AH) (c1 : Option Nat) (t1 : Str) (k : Nat) (x : Sp) : Prop where
  wr : WR h1 b c1 t1
  fr : Fr h b c h1 c1
  gk : h1.get k = SB x
  ne : c1 ≠ some k
  lt : k < h1.next
  nb : k ≠ b
theorem WI.step {h1 h2 : AH} {c1 c2 : Option Nat} {t1 t2 : Str} {k : Nat} {x : Sp} (i : WI h b c h1 c1 t1 k x) (w : WR h2 b c2 t2) (f : Fr h1 b c1 h2 c2) : WI h b c h2 c2 t2 k x :=
  ⟨w, i.fr.trans f, (f.2 k i.lt i.nb i.ne).1.trans i.gk, (f.2 k i.lt i.nb i.ne).2, Nat.lt_of_lt_of_le i.lt f.1, i.nb⟩
def wNum (x : Sp) : Nat → Int
  | 0 => x.t
  | 1 => x.i
  | 2 => x.p
  | _ => x.r
def wPre (x : Sp) : Nat → Str
  | 0 => []
  | 1 => num x.t
  | 2 => num x.t ++ num x.i
  | 3 => num x.t ++ num x.i ++ num x.p
  | _ => num x.t ++ num x.i ++ num x.p ++ num x.r
theorem wPre_step (x : Sp) {i : Nat} (h : i < 4) : wPre x (i + 1) = wPre x i ++ num (wNum x i) := by
  have hc : i = 0 ∨ i = 1 ∨ i = 2 ∨ i = 3 := by omega
  rcases hc with rfl | rfl | rfl | rfl <;> rfl
theorem wsp_pre (x : Sp) : wsp x = wPre x 4 ++ txt x.s ++ txt x.o ++ sgn x.b ++ sgn x.d ++ flg x.g := by simp only [wsp, wPre, List.append_assoc]
theorem pre_len {a b : Str} {n : Nat} (h : (a ++ b).length < n) : a.length < n := by rw [List.length_append] at h; omega
theorem c64 {x : Sp} (hf : FitS x) (hw : WR h b c t) (hl : (t ++ wsp x).length < 4294967296) (hk : ∀ h' c', WR h' b c' (t ++ wsp x) → Fr h b c h' c' → R (.tuple []) h') : ACall prog (.func (.func 64) [] []) [.ptr (some ⟨b, 0⟩), .agg (sc x)] h R := by
  obtain ⟨f1, f2, f3, f4, f5, f6, f7, f8⟩ := hf
  have hbn : b < h.next := by obtain ⟨_, _, _, h2, _⟩ := hw; exact h2
  have hcn := hw.lt
  have e0 : Ext h (h.new (.cells false 0 ⟨37, true, true⟩ (sc x))) := (Ext.refl h).new _
  have i0 : WI h b c (h.new (.cells false 0 ⟨37, true, true⟩ (sc x))) c t h.next x := ⟨hw.mono e0, ⟨e0.1, fun k hk _ hc => ⟨e0.2 k hk, hc⟩⟩, gx h x, fun e => absurd (hcn _ e) (Nat.lt_irrefl _), Nat.lt_succ_self _, by omega⟩
  rw [wsp_pre] at hl hk
  simp only [← List.append_assoc t] at hl hk
  have l5 := pre_len hl
  have l4 := pre_len l5
  have l3 := pre_len l4
  have l2 := pre_len l3
  have l1 := pre_len l2
  refine a64 (w64 _ _ _ _ _ _ _ _ _ _ _ _) ⟨_, rx (gx h x) 0 1 (by omega), _, rx (gx h x) 1 1 (by omega), _, rx (gx h x) 2 1 (by omega), _, rx (gx h x) 3 1 (by omega), fun (y, _) h1 => ∃ (i : Nat) (c1 : Option Nat), y = i ∧ i ≤ 4 ∧ WI h b c h1 c1 (t ++ wPre x i) h.next x, fun (y, _) _ => (4 - y).toNat, ⟨0, c, rfl, by omega, by rw [wPre, List.append_nil]; exact i0⟩, ?_⟩
  rintro y h1 ⟨i, c1, rfl, hi, w⟩
  refine ⟨fun hx => ?_, fun hx => ?_⟩
  · have hx : i < 4 := by have := of_decide_eq_true hx; omega
    refine ⟨by omega, by omega, ?_⟩
    have e1 : IntKind.i64.wrap ((i : Int) + (1 : Int)) = ((i + 1 : Nat) : Int) := wrapN (n := i + 1) (by omega)
    have hs := wPre_step x hx
    have hl' : (t ++ wPre x i ++ num (wNum x i)).length < 4294967296 := by
      rw [List.append_assoc, ← hs]
      refine Nat.lt_of_le_of_lt ?_ l1
      have : i + 1 = 1 ∨ i + 1 = 2 ∨ i + 1 = 3 ∨ i + 1 = 4 := by omega
      rcases this with e | e | e | e <;> rw [e] <;> simp only [wPre, List.length_append] <;> omega
    have hi64 : I64 (wNum x i) := by
      have hc : i = 0 ∨ i = 1 ∨ i = 2 ∨ i = 3 := by omega
      rcases hc with rfl | rfl | rfl | rfl <;> assumption
    have go := fun (R : AV → AH → Prop) (q : ∀ h' c', WR h' b c' (t ++ wPre x i ++ num (wNum x i)) → Fr h1 b c1 h' c' → R (.tuple []) h') => c23 hi64 w.wr hl' q
    rw [e1]
    have fin : ∀ h' c', WR h' b c' (t ++ wPre x i ++ num (wNum x i)) → Fr h1 b c1 h' c' → ∃ (_ : Unit), AV.tuple [] = AV.tuple [] ∧ (∃ (j : Nat) (c1 : Option Nat), ((i + 1 : Nat) : Int) = j ∧ j ≤ 4 ∧ WI h b c h' c1 (t ++ wPre x j) h.next x) ∧ ((4 : Int) - ((i + 1 : Nat) : Int)).toNat < ((4 : Int) - (i : Int)).toNat := fun h' c' a f => by
      rw [List.append_assoc, ← hs] at a
      exact ⟨(), rfl, ⟨i + 1, c', rfl, by omega, w.step a f⟩, by omega⟩
    have hc : i = 0 ∨ i = 1 ∨ i = 2 ∨ i = 3 := by omega
    rcases hc with rfl | rfl | rfl | rfl <;> exact go _ fin
  · have hx : i = 4 := by have := of_decide_eq_false hx; omega
    subst hx
    refine ⟨_, rx w.gk 4 1 (by omega), c125 w.wr l2 fun h2 c2 a f => ⟨(), rfl, ?_⟩⟩
    have w2 := w.step a f
    refine ⟨_, rx w2.gk 5 1 (by omega), c125 w2.wr l3 fun h2 c2 a f => ⟨(), rfl, ?_⟩⟩
    have w3 := w2.step a f
    refine ⟨_, rx w3.gk 6 1 (by omega), c26 f5 w3.wr l4 fun h2 c2 a f => ⟨(), rfl, ?_⟩⟩
    have w4 := w3.step a f
    refine ⟨_, rx w4.gk 7 1 (by omega), c26 f6 w4.wr l5 fun h2 c2 a f => ⟨(), rfl, ?_⟩⟩
    have w5 := w4.step a f
    refine ⟨_, rx w5.gk 8 1 (by omega), c126 w5.wr hl fun h2 c2 a f => ⟨(), rfl, ?_⟩⟩
    have w6 := w5.step a f
    exact hk _ _ w6.wr w6.fr
end
/-- The bytes of a lot, or why there are none. -/
def lput (l : List Sp) : Str × Int := if 256 < l.length then ([], 12) else if l.all okS then (num l.length ++ l.flatMap wsp, 0) else ([], 1)
theorem okS_len {x : Sp} (h : okS x = true) : x.s.length ≤ 24 ∧ x.o.length ≤ 24 := by
  simp only [okS, nm, Bool.and_eq_true, decide_eq_true_eq] at h
  exact ⟨h.1.1.1.2.2.2, h.1.1.2.2.2⟩
theorem lot_len : ∀ {l : List Sp}, (∀ x ∈ l, FitS x) → l.all okS = true → (l.flatMap wsp).length ≤ l.length * 129
  | [], _, _ => by simp
  | x :: r, hf, ho => by
    rw [List.all_cons, Bool.and_eq_true] at ho
    have h1 := wsp_len (hf x (by simp))
    have h2 := okS_len ho.1
    have h3 := lot_len (fun y hy => hf y (by simp [hy])) ho.2
    rw [List.flatMap_cons, List.length_append, List.length_cons]; omega
theorem FitS.short {l : List Sp} (h : ∀ x ∈ l, FitS x) : ∀ x ∈ l, ShortS x := fun x hx => by obtain ⟨-, -, -, -, -, -, h⟩ := h x hx; exact h
theorem flat_take {α β : Type} (f : α → List β) {l : List α} {i : Nat} (h : i < l.length) : (l.take (i + 1)).flatMap f = (l.take i).flatMap f ++ f l[i] := by
  rw [List.take_add, List.drop_eq_getElem_cons h, List.flatMap_append]
  congr 1
  show ([l[i]]).flatMap f = _
  rw [List.flatMap_cons, List.flatMap_nil, List.append_nil]
theorem flat_take_le {α β : Type} (f : α → List β) (l : List α) (i : Nat) : ((l.take i).flatMap f).length ≤ (l.flatMap f).length := by
  have := congrArg (fun l => (l.flatMap f).length) (List.take_append_drop i l)
  simp only [List.flatMap_append, List.length_append] at this
  omega
section
variable {l : List Sp} {a : Option Pt} {h : AH} {R : AV → AH → Prop}
theorem SL.ext {h' : AH} (hs : SL h a l) (hp : ∀ p, a = some p → p.b < h.next) (he : ∀ p, a = some p → h'.get p.b = h.get p.b) : SL h' a l := by
  cases a with
  | none => exact hs
  | some p => exact rd_ext hs (he p rfl)
theorem SL.lt {N : Nat} (hok : h.ok) (hN : h.next ≤ N) (hs : SL h a l) : ∀ p, a = some p → p.b < N := by
  intro p hp
  subst hp
  refine Nat.lt_of_lt_of_le (Nat.lt_of_not_le fun hle => ?_) hN
  have hs : h.rd p _ = some _ := hs
  unfold AH.rd at hs
  rw [hok _ hle] at hs
  cases hs
theorem c24 (hs : SL h a l) (hf : ∀ x ∈ l, FitS x) (hn : l.length < 2 ^ 60) (hk : R (.tuple [.str (lput l).1, .int .i64 (lput l).2]) h) : ACall prog (.func (.func 24) [] []) [.slice a l.length 9] h R := by
  refine ACall.isok fun hok => ACall.pure (a24 (w24 _ _ _ _) ⟨fun h1 => ?_, fun h1 => c63 hs (FitS.short hf) hn ⟨_, rfl, fun h2 => ?_, fun h2 => ?_⟩⟩)
  · have h1 := of_decide_eq_true h1
    rw [lput, if_pos (by omega)] at hk
    exact ⟨Ext.refl _, Low.tuple (by intro v hv; simp only [List.mem_cons, List.not_mem_nil, or_false] at hv; rcases hv with rfl | rfl; exact Low.str _ _; exact Low.int _ _ _), hk⟩
  · have h1 := of_decide_eq_false h1
    rw [lput, if_neg (by omega), if_neg (by intro h; rw [h] at h2; cases h2)] at hk
    exact ⟨Ext.refl _, Low.tuple (by intro v hv; simp only [List.mem_cons, List.not_mem_nil, or_false] at hv; rcases hv with rfl | rfl; exact Low.str _ _; exact Low.int _ _ _), hk⟩
  · have h1 := of_decide_eq_false h1
    have h2 : l.all okS = true := by simpa using h2
    rw [lput, if_neg (by omega), if_pos h2] at hk
    have hplt : ∀ p, a = some p → p.b < h.next := hs.lt hok (Nat.le_refl _)
    have hnl := num_len (n := l.length) (by unfold I64; omega)
    have hll := lot_len hf h2
    have hn256 : l.length ≤ 256 := by omega
    refine c23 (n := l.length) (by unfold I64; omega) (WR.fresh h) (by rw [List.nil_append]; omega) fun h3 c3 w3 f3 => ⟨(), rfl, ?_⟩
    rw [List.nil_append] at w3
    have e3 : Ext h h3 := ⟨Nat.le_trans (Nat.le_succ _) f3.1, fun k hk => ((f3.2 k (Nat.lt_succ_of_lt hk) (by omega) (by simp)).1).trans (get_new' rfl hk)⟩
    have n3 : ∀ k, k < h.next → c3 ≠ some k := fun k hk => (f3.2 k (Nat.lt_succ_of_lt hk) (by omega) (by simp)).2
    refine ⟨fun (x, _) h4 => ∃ (i : Nat) (c4 : Option Nat), x = i ∧ i ≤ l.length ∧ WR h4 h.next c4 (num l.length ++ (l.take i).flatMap wsp) ∧ Ext h h4 ∧ ∀ k, k < h.next → c4 ≠ some k, fun (x, _) _ => (l.length - x).toNat, ⟨0, c3, rfl, Nat.zero_le _, by simpa using w3, e3, n3⟩, ?_⟩
    rintro x h4 ⟨i, c4, rfl, hi, w4, e4, n4⟩
    refine ⟨fun hx => ?_, fun hx => ?_⟩
    · have hx : i < l.length := by have := of_decide_eq_true hx; omega
      have e1 : IntKind.i64.wrap ((i : Int) + (1 : Int)) = ((i + 1 : Nat) : Int) := wrapN (n := i + 1) (by omega)
      have hs4 : SL h4 a l := hs.ext hplt fun p hp => e4.2 _ (hplt p hp)
      obtain ⟨p, rfl, hr⟩ := hs4.el hx
      rw [e1]
      refine ⟨by omega, by omega, (l[i].t, l[i].i, l[i].p, l[i].r, l[i].s, l[i].o, l[i].b, l[i].d, l[i].g), hr, _, wrg (get_new _ _) (by simp [encTup]) (Nat.zero_le _), (l[i].t, l[i].i, l[i].p, l[i].r, l[i].s, l[i].o, l[i].b, l[i].d, l[i].g), rx (x := l[i]) (get_set _ _ _) 0 9 (by omega), ?_⟩
      have e5 : Ext h4 ((h4.new (.cells false 0 ⟨37, true, true⟩ (sc Sp.zero))).set h4.next (SB l[i])) := ((Ext.refl h4).new _).set (Nat.le_refl _) _
      refine c64 (x := l[i]) (hf _ (List.getElem_mem hx)) (w4.mono e5) ?_ fun h6 c6 w6 f6 => ⟨(), rfl, ⟨i + 1, c6, rfl, by omega, ?_, ?_, ?_⟩, ?_⟩
      · have := flat_take wsp hx
        have h9 := flat_take_le wsp l (i + 1)
        rw [List.append_assoc, ← this, List.length_append]; omega
      · rw [flat_take wsp hx, ← List.append_assoc]; exact w6
      · refine ⟨Nat.le_trans (Nat.le_trans e4.1 e5.1) f6.1, fun k hk => ?_⟩
        exact ((f6.2 k (Nat.lt_of_lt_of_le hk (Nat.le_trans e4.1 e5.1)) (by omega) (n4 k hk)).1).trans ((e5.2 k (Nat.lt_of_lt_of_le hk e4.1)).trans (e4.2 k hk))
      · exact fun k hk => (f6.2 k (Nat.lt_of_lt_of_le hk (Nat.le_trans e4.1 e5.1)) (by omega) (n4 k hk)).2
      · show ((l.length : Int) - ((i + 1 : Nat) : Int)).toNat < ((l.length : Int) - (i : Int)).toNat; omega
    · have hx : i = l.length := by have := of_decide_eq_false hx; omega
      subst hx
      rw [List.take_length] at w4
      refine c25 w4 (by rw [List.length_append]; omega) fun h5 f5 => ⟨_, rfl, ?_, Low.tuple (by intro v hv; simp only [List.mem_cons, List.not_mem_nil, or_false] at hv; rcases hv with rfl | rfl; exact Low.str _ _; exact Low.int _ _ _), hk⟩
      exact ⟨Nat.le_trans e4.1 f5.1, fun k hk => ((f5.2 k (Nat.lt_of_lt_of_le hk e4.1) (by omega) (n4 k hk)).1).trans (e4.2 k hk)⟩
end
end Go.Lm
/- Law 36, main part: records that the document writes. -/
namespace Go.Lm
open Go Go.La Go.RowKit Go.Proofs.Tryz

structure Pa where
  k : Int
  n : Int
  s : Str
abbrev pc (x : Pa) : List AV := [.int .i64 x.k, .int .i64 x.n, .str x.s]
def pput (x : Pa) : Str := if x.k = 1 then num x.n else if x.k = 2 then sgn x.n else if x.k = 3 then txt x.s else if x.k = 4 then (if x.n = 1 then [1] else [0]) else []
theorem flatN_len {α : Type} (f : α → List AV) (n : Nat) (hf : ∀ x, (f x).length = n) (l : List α) : (l.flatMap f).length = l.length * n := by
  induction l with
  | nil => simp
  | cons x r ih => rw [List.flatMap_cons, List.length_append, ih, hf, List.length_cons, Nat.succ_mul, Nat.add_comm]
theorem flatN_el {α : Type} (f : α → List AV) (n : Nat) (hf : ∀ x, (f x).length = n) : ∀ {l : List α} {i : Nat} (h : i < l.length), ((l.flatMap f).drop (i * n)).take n = f l[i]
  | x :: r, 0, _ => by rw [Nat.zero_mul, List.drop_zero, List.flatMap_cons, List.take_append_of_le_length (by rw [hf]; exact Nat.le_refl _), List.take_of_length_le (by rw [hf]; exact Nat.le_refl _)]; rfl
  | x :: r, i + 1, h => by
    have e : (List.flatMap f (x :: r)).drop ((i + 1) * n) = (List.flatMap f r).drop (i * n) := by
      rw [List.flatMap_cons, List.drop_append, List.drop_of_length_le (by rw [hf, Nat.succ_mul]; exact Nat.le_add_left _ _), List.nil_append, hf, Nat.succ_mul, Nat.add_sub_cancel]
    rw [e]; exact flatN_el f n hf (by simpa using h)
def FitP (x : Pa) : Prop := I64 x.n ∧ x.s.length < 2 ^ 60
theorem pput_len {x : Pa} (h : FitP x) : (pput x).length ≤ 10 + x.s.length := by
  obtain ⟨h1, h2⟩ := h
  have a := num_len h1
  have b := sgn_len h1
  have c := num_len (n := x.s.length) (by unfold I64; omega)
  unfold pput
  split
  · omega
  · split
    · omega
    · split
      · simp only [txt, List.length_append]; omega
      · split
        · split <;> simp <;> omega
        · simp
section
variable {h : AH} {R : AV → AH → Prop}
theorem c182 {g : Bool} (hk : R (.int .i64 (if g then 1 else 0)) h) : ACall prog (.func (.func 182) [] []) [.bool g] h R :=
  a182 (w182 _ _ _) ⟨fun e => by subst e; exact hk, fun e => by subst e; exact hk⟩
theorem rp {h1 : AH} {b : Nat} {x : Pa} (hg : h1.get b = some (.cells false 0 ⟨297, true, true⟩ (pc x))) (o k : Nat) (ho : o + k ≤ 3) : h1.rd ⟨b, o⟩ k = some (((pc x).drop o).take k) := rdg hg ho
theorem c252 {x : Pa} (hf : FitP x) (hk : R (.str (pput x)) h) : ACall prog (.func (.func 252) [] []) [.agg (pc x)] h R := by
  have he : Ext h (h.new (.cells false 0 ⟨297, true, true⟩ (pc x))) := (Ext.refl h).new _
  have gp : (h.new (AObj.cells false 0 ⟨297, true, true⟩ (pc x))).get h.next = some (.cells false 0 ⟨297, true, true⟩ (pc x)) := get_new _ _
  have n1 := num_len hf.1
  have n3 := num_len (n := x.s.length) (by have := hf.2; unfold I64; omega)
  refine ACall.pure (a252 (w252 _ _ _ _ _) ⟨_, rp gp 0 1 (by omega), fun h1 => ?_, fun h1 => ⟨fun h2 => ?_, fun h2 => ⟨fun h3 => ?_, fun h3 => ⟨fun h4 => ?_, fun h4 => ?_⟩⟩⟩⟩)
  · rw [pput, if_pos (eq_of_beq h1)] at hk
    exact ⟨_, rp gp 1 1 (by omega), c67 hf.1 ⟨_, rfl, he, Low.str _ _, hk⟩⟩
  · rw [pput, if_neg (beq_eq_false_iff_ne.1 h1), if_pos (eq_of_beq h2)] at hk
    exact ⟨_, rp gp 1 1 (by omega), c28 hf.1 ⟨_, rfl, he, Low.str _ _, hk⟩⟩
  · rw [pput, if_neg (beq_eq_false_iff_ne.1 h1), if_neg (beq_eq_false_iff_ne.1 h2), if_pos (eq_of_beq h3)] at hk
    exact ⟨_, rp gp 2 1 (by omega), _, rp gp 2 1 (by omega), c67 (n := x.s.length) (by have := hf.2; unfold I64; omega) ⟨_, rfl, rp gp 2 1 (by omega), by have := hf.2; omega, he, Low.str _ _, hk⟩⟩
  · rw [pput, if_neg (beq_eq_false_iff_ne.1 h1), if_neg (beq_eq_false_iff_ne.1 h2), if_neg (beq_eq_false_iff_ne.1 h3), if_pos (eq_of_beq h4)] at hk
    refine ⟨_, rp gp 1 1 (by omega), fun h5 => ?_, fun h5 => ?_⟩
    · rw [if_pos (eq_of_beq h5)] at hk; exact ⟨he, Low.str _ _, hk⟩
    · rw [if_neg (beq_eq_false_iff_ne.1 h5)] at hk; exact ⟨he, Low.str _ _, hk⟩
  · rw [pput, if_neg (beq_eq_false_iff_ne.1 h1), if_neg (beq_eq_false_iff_ne.1 h2), if_neg (beq_eq_false_iff_ne.1 h3), if_neg (beq_eq_false_iff_ne.1 h4)] at hk
    exact ⟨he, Low.str _ _, hk⟩
theorem c181 {l : List Pa} {p : Pt} (hs : h.rd p (l.length * 3) = some (l.flatMap pc)) (hf : ∀ x ∈ l, FitP x) (hn : l.length < 2 ^ 60) (hb : (l.flatMap pput).length < 2 ^ 62) (hk : R (.str (l.flatMap pput)) h) : ACall prog (.func (.func 181) [] []) [.slice (some p) l.length 3] h R := by
  refine a181 (w181 _ _ _ _) ⟨fun (x, t, _) h1 => h1 = h ∧ ∃ i : Nat, x = i ∧ i ≤ l.length ∧ t = (l.take i).flatMap pput, fun (x, _, _) _ => (l.length - x).toNat, ⟨rfl, 0, rfl, Nat.zero_le _, rfl⟩, ?_⟩
  rintro x t h1 ⟨rfl, i, rfl, hi, rfl⟩
  refine ⟨fun hx => ?_, fun hx => ?_⟩
  · have hx : i < l.length := by have := of_decide_eq_true hx; omega
    have e1 : IntKind.i64.wrap ((i : Int) + (1 : Int)) = ((i + 1 : Nat) : Int) := wrapN (n := i + 1) (by omega)
    rw [e1]
    have hle := flat_take_le pput l (i + 1)
    have hst := flat_take pput hx
    have hll := congrArg List.length hst
    rw [List.length_append] at hll
    refine ⟨by omega, by omega, (l[i].k, l[i].n, l[i].s), ?_, c252 (x := l[i]) (hf _ (List.getElem_mem hx)) ⟨_, rfl, ?_, ⟨rfl, i + 1, rfl, by omega, hst.symm⟩, ?_⟩⟩
    · have := rd_sub hs (show i * 3 + 3 ≤ l.length * 3 by omega)
      rw [flatN_el pc 3 (fun _ => rfl) hx] at this
      exact this
    · omega
    · show ((l.length : Int) - ((i + 1 : Nat) : Int)).toNat < ((l.length : Int) - (i : Int)).toNat; omega
  · have hx : i = l.length := by have := of_decide_eq_false hx; omega
    subst hx
    rw [List.take_length]; exact hk
def partsOf (x : Sp) : List Pa := [⟨1, x.t, []⟩, ⟨1, x.i, []⟩, ⟨1, x.p, []⟩, ⟨1, x.r, []⟩, ⟨3, 0, x.s⟩, ⟨3, 0, x.o⟩, ⟨2, x.b, []⟩, ⟨2, x.d, []⟩, ⟨4, if x.g then 1 else 0, []⟩]
theorem parts_wsp (x : Sp) : (partsOf x).flatMap pput = wsp x := by
  have e : pput ⟨4, if x.g then 1 else 0, []⟩ = flg x.g := by unfold flg; cases x.g <;> rfl
  simp only [partsOf, List.flatMap_cons, List.flatMap_nil, List.append_nil, e]
  rfl
theorem c127 {x : Sp} (hf : FitS x) (hk : R (.str (wsp x)) h) : ACall prog (.func (.func 127) [] []) [.agg (sc x)] h R := by
  have he : Ext h (h.new (.cells false 0 ⟨37, true, true⟩ (sc x))) := (Ext.refl h).new _
  have g := gx h x
  have hf' := hf
  obtain ⟨f1, f2, f3, f4, f5, f6, f7, f8⟩ := hf'
  have hfp : ∀ y ∈ partsOf x, FitP y := by
    intro y hy
    have z : I64 0 := by unfold I64; omega
    simp only [partsOf, List.mem_cons, List.not_mem_nil, or_false] at hy
    rcases hy with rfl | rfl | rfl | rfl | rfl | rfl | rfl | rfl | rfl
    all_goals first | exact ⟨f1, by simp⟩ | exact ⟨f2, by simp⟩ | exact ⟨f3, by simp⟩ | exact ⟨f4, by simp⟩ | exact ⟨f5, by simp⟩ | exact ⟨f6, by simp⟩ | exact ⟨z, f7⟩ | exact ⟨z, f8⟩ | skip
    refine ⟨?_, by simp⟩
    show I64 (if x.g then 1 else 0)
    split <;> unfold I64 <;> omega
  have hwl := wsp_len hf
  refine ACall.pure (a127 (w127 _ _ _ _ _ _ _ _ _ _ _) ⟨_, rx g 0 1 (by omega), _, rx g 1 1 (by omega), _, rx g 2 1 (by omega), _, rx g 3 1 (by omega), _, rx g 4 1 (by omega), _, rx g 5 1 (by omega), _, rx g 6 1 (by omega), _, rx g 7 1 (by omega), _, rx g 8 1 (by omega), c182 ⟨_, rfl, rx g 7 1 (by omega), rx g 6 1 (by omega), rx g 5 1 (by omega), rx g 4 1 (by omega), rx g 3 1 (by omega), rx g 2 1 (by omega), rx g 1 1 (by omega), rx g 0 1 (by omega), ?_⟩⟩)
  refine c181 (l := partsOf x) (rdg (get_new _ _) (Nat.le_refl _)) hfp (by simp [partsOf]) (by rw [parts_wsp]; omega) ⟨_, rfl, he.new _, Low.str _ _, ?_⟩
  rw [parts_wsp]; exact hk
theorem Low.se {n : Nat} (s : Str) (e : Int) : Low n (.tuple [.str s, .int .i64 e]) := Low.tuple (by intro v hv; simp only [List.mem_cons, List.not_mem_nil, or_false] at hv; rcases hv with rfl | rfl; exact Low.str _ _; exact Low.int _ _ _)
theorem c68 {x : Sp} (hf : FitS x) (h1 : okS x = true → R (.tuple [.str (wsp x), .int .i64 0]) h) (h2 : okS x = false → R (.tuple [.str [], .int .i64 1]) h) : ACall prog (.func (.func 68) [] []) [.agg (sc x)] h R := by
  have he : Ext h (h.new (.cells false 0 ⟨37, true, true⟩ (sc x))) := (Ext.refl h).new _
  have g := gx h x
  have hf' := hf
  obtain ⟨f1, f2, f3, f4, f5, f6, f7, f8⟩ := hf'
  refine ACall.pure (a68 (w68 _ _ _ _ _ _ _ _ _ _ _) ⟨(x.t, x.i, x.p, x.r, x.s, x.o, x.b, x.d, x.g), rx g 0 9 (by omega), c78 (x := x) f7 f8 ⟨_, rfl, fun h3 => ?_, fun h3 => ⟨(x.t, x.i, x.p, x.r, x.s, x.o, x.b, x.d, x.g), rx g 0 9 (by omega), c127 (x := x) hf ⟨_, rfl, he, Low.se _ _, ?_⟩⟩⟩⟩)
  · cases ho : okS x with
    | true => rw [may_ok ho] at h3; cases h3
    | false => rw [may_no ho]; exact ⟨he, Low.se _ _, h2 ho⟩
  · cases ho : okS x with
    | true => exact h1 ho
    | false => rw [may_no ho] at h3; cases h3
variable {l : List Sp} {a : Option Pt}
theorem c27 (hs : SL h a l) (hf : ∀ x ∈ l, FitS x) (hn : l.length < 2 ^ 60) (hk : R (.tuple [.str (lput l).1, .int .i64 (lput l).2]) h) : ACall prog (.func (.func 27) [] []) [.slice a l.length 9] h R := by
  refine a27 (w27 _ _ _ _) ⟨fun h1 => ?_, fun h1 => c67 (n := l.length) (by unfold I64; omega) ⟨_, rfl, ?_⟩⟩
  · have h1 := of_decide_eq_true h1
    rw [lput, if_pos (by omega)] at hk
    exact hk
  have h1 := of_decide_eq_false h1
  rw [lput, if_neg (by omega)] at hk
  have hnl := num_len (n := l.length) (by unfold I64; omega)
  refine ⟨fun (x, t, _) h1 => h1 = h ∧ ∃ i : Nat, x = i ∧ i ≤ l.length ∧ t = num l.length ++ (l.take i).flatMap wsp ∧ (l.take i).all okS = true, fun (x, _, _) _ => (l.length - x).toNat, ⟨rfl, 0, rfl, Nat.zero_le _, by simp, rfl⟩, ?_⟩
  rintro x t h1 ⟨rfl, i, rfl, hi, rfl, ha⟩
  refine ⟨fun hx => ?_, fun hx => ?_⟩
  · have hx : i < l.length := by have := of_decide_eq_true hx; omega
    have e1 : IntKind.i64.wrap ((i : Int) + (1 : Int)) = ((i + 1 : Nat) : Int) := wrapN (n := i + 1) (by omega)
    rw [e1]
    obtain ⟨p, rfl, hr⟩ := hs.el hx
    refine ⟨by omega, by omega, (l[i].t, l[i].i, l[i].p, l[i].r, l[i].s, l[i].o, l[i].b, l[i].d, l[i].g), hr, c68 (x := l[i]) (hf _ (List.getElem_mem hx)) (fun ho => ⟨(wsp l[i], 0, ()), rfl, fun h => (by cases h), fun _ => ⟨?_, ⟨rfl, i + 1, rfl, by omega, ?_, ?_⟩, ?_⟩⟩) (fun ho => ⟨([], 1, ()), rfl, fun _ => ?_, fun h => (by cases h)⟩)⟩
    · have h3 := lot_len (l := l.take i) (fun y hy => hf y (List.mem_of_mem_take hy)) ha
      have h4 := wsp_len (hf _ (List.getElem_mem hx))
      have h5 := okS_len ho
      rw [List.length_take] at h3
      have h6 : min i l.length * 129 ≤ 256 * 129 := Nat.mul_le_mul_right _ (by omega)
      rw [List.length_append]; simp only; omega
    · rw [flat_take wsp hx, List.append_assoc]
    · rw [List.take_add, List.drop_eq_getElem_cons hx, List.all_append, ha, Bool.true_and]
      show ([l[i]]).all okS = true
      simpa using ho
    · show ((l.length : Int) - ((i + 1 : Nat) : Int)).toNat < ((l.length : Int) - (i : Int)).toNat; omega
    · have : l.all okS = false := by
        rw [List.all_eq_false]
        exact ⟨l[i], List.getElem_mem hx, by simpa using ho⟩
      rw [if_neg (by rw [this]; decide)] at hk
      exact hk
  · have hx : i = l.length := by have := of_decide_eq_false hx; omega
    subst hx
    rw [List.take_length] at ha ⊢
    rw [if_pos ha] at hk
    exact hk
end
end Go.Lm
/- Law 36, main part: lots that are read. -/
namespace Go.Lm
open Go Go.La Go.RowKit Go.Proofs.Tryz

def lotSt (st : Str × Int) : Nat → Str × Int
  | 0 => st
  | i + 1 => (rspan (lotSt st i)).2
def lotL (st : Str × Int) : Nat → List Sp
  | 0 => []
  | i + 1 => lotL st i ++ [(rspan (lotSt st i)).1]
theorem lotL_len (st : Str × Int) : ∀ i, (lotL st i).length = i
  | 0 => rfl
  | i + 1 => by rw [lotL, List.length_append, lotL_len st i]; rfl
theorem lotSt_len (st : Str × Int) : ∀ i, (lotSt st i).1.length ≤ st.1.length
  | 0 => Nat.le_refl _
  | i + 1 => Nat.le_trans (rspan_len _) (lotSt_len st i)
theorem lotL_fit {st : Str × Int} (hs : st.1.length < 2 ^ 60) : ∀ i, ∀ x ∈ lotL st i, FitS x
  | 0, x, h => by cases h
  | i + 1, x, h => by
    rw [lotL, List.mem_append, List.mem_singleton] at h
    rcases h with h | rfl
    · exact lotL_fit hs i x h
    · exact rspan_fit (Nat.lt_of_le_of_lt (lotSt_len st i) hs)
/-- The lot of bytes, or why there is none. -/
def ltakeB (st : Str × Int) (n : Nat) : List Sp × Int :=
  if rend (lotSt st n) = 0 then (if (lotL st n).all okS then (lotL st n, 0) else ([], 1)) else ([], rend (lotSt st n))
def ltake (s : Str) : List Sp × Int :=
  if (rnum (s, 0)).2.2 = 0 ∧ 256 < (rnum (s, 0)).1 then ([], 12) else ltakeB (rnum (s, 0)).2 (rnum (s, 0)).1.toNat
/-- A row of records that was made of late. -/
def NL (h : AH) (lo : Nat) (sl : Sl) (l : List Sp) : Prop :=
  sl.len = l.length ∧ match sl.1 with
    | none => l = []
    | some p => p.o = 0 ∧ lo ≤ p.b ∧ p.b < h.next ∧ h.get p.b = some (.cells false 0 ⟨37, false, true⟩ (l.flatMap sc))
theorem NL.none (h : AH) (lo : Nat) : NL h lo ⟨none, 0⟩ [] := ⟨rfl, rfl⟩
theorem NL.same {h h' : AH} {lo : Nat} {sl : Sl} {l : List Sp} (n : NL h lo sl l) (hn : h.next ≤ h'.next) (he : ∀ k, lo ≤ k → k < h.next → h'.get k = h.get k) : NL h' lo sl l := by
  obtain ⟨a, m⟩ := sl
  cases a with
  | none => exact n
  | some p => obtain ⟨h1, h2, h3, h4, h5⟩ := n; exact ⟨h1, h2, h3, Nat.lt_of_lt_of_le h4 hn, (he _ h3 h4).trans h5⟩
theorem NL.low {h : AH} {lo lo' : Nat} {sl : Sl} {l : List Sp} (n : NL h lo sl l) (hn : lo' ≤ lo) : NL h lo' sl l := by
  obtain ⟨a, m⟩ := sl
  cases a with
  | none => exact n
  | some p => obtain ⟨h1, h2, h3, h4, h5⟩ := n; exact ⟨h1, h2, Nat.le_trans hn h3, h4, h5⟩
theorem NL.sl {h : AH} {lo : Nat} {sl : Sl} {l : List Sp} (n : NL h lo sl l) : SL h sl.1 l ∧ sl.len = l.length := by
  obtain ⟨a, m⟩ := sl
  cases a with
  | none => obtain ⟨h1, rfl⟩ := n; exact ⟨⟨rfl, rfl⟩, h1⟩
  | some p =>
    obtain ⟨h1, h2, h3, h4, h5⟩ := n
    refine ⟨?_, h1⟩
    show h.rd p _ = _
    have : p = ⟨p.b, 0⟩ := by cases p; simp only at h2; rw [h2]
    rw [this]
    rw [rdg h5 (by rw [flat_len]; simp), ← flat_len, List.drop_zero, List.take_length]
theorem flat_snoc (l : List Sp) (x : Sp) : (l ++ [x]).flatMap sc = l.flatMap sc ++ sc x := by rw [List.flatMap_append, List.flatMap_cons, List.flatMap_nil, List.append_nil]
section
variable {h : AH} {R : AV → AH → Prop}
/-- The reader's block, and the row made so far. -/
structure LI (h : AH) (b : Nat) (el : El) (h1 : AH) (st : Str × Int) (sl : Sl) (i : Nat) : Prop where
  ext : Ext h h1
  lt : b < h1.next
  ge : h.next ≤ b
  rd : h1.get b = RB el (lotSt st i)
  nl : NL h1 (b + 1) sl (lotL st i)
theorem LI.one {b : Nat} {el : El} {h1 : AH} {st : Str × Int} {i : Nat} (l : LI h b el h1 st ⟨none, 0⟩ i) (hi : i = 0) {o : AObj} : LI h b el (((h1.set b (RB el (rspan (lotSt st i)).2)).new o).new (.cells false 0 ⟨37, false, true⟩ (sc (rspan (lotSt st i)).1))) st ⟨some ⟨h1.next + 1, 0⟩, 1⟩ (i + 1) := by
  subst hi
  refine ⟨((l.ext.set l.ge _).new _).new _, Nat.lt_succ_of_lt (Nat.lt_succ_of_lt l.lt), l.ge, get_new' (get_new' (gset _ _ _ _) l.lt) (Nat.lt_succ_of_lt l.lt), rfl, rfl, ?_, Nat.lt_succ_self _, ?_⟩
  · have := l.lt; show b + 1 ≤ h1.next + 1; omega
  · exact (get_new _ _).trans (by simp [lotL])
theorem LI.more {b : Nat} {el : El} {h1 : AH} {st : Str × Int} {i : Nat} {p : Pt} {m : Nat} (l : LI h b el h1 st ⟨some p, m⟩ i) {o : AObj} : LI h b el ((((h1.set b (RB el (rspan (lotSt st i)).2)).new o).set p.b none).new (.cells false (0 - p.o) ⟨37, false, true && p.o.beq 0⟩ ((List.take (m * 9) (List.drop p.o ((lotL st i).flatMap sc))).append (sc (rspan (lotSt st i)).1)))) st ⟨some ⟨h1.next + 1, 0⟩, m + 1⟩ (i + 1) := by
  obtain ⟨pb, po⟩ := p
  obtain ⟨e1, e2, e3, e4, e5, e6, e7, e8⟩ := l
  simp only at e6 e7 e8 e5
  have hpo : po = 0 := e6
  subst hpo
  have hpb : h.next ≤ pb := by omega
  have hne : b ≠ pb := by omega
  refine ⟨(((e1.set e3 _).new _).set hpb _).new _, Nat.lt_succ_of_lt (Nat.lt_succ_of_lt e2), e3, get_new' (get_set' (get_new' (gset _ _ _ _) e2) hne) (Nat.lt_succ_of_lt e2), ?_, rfl, ?_, Nat.lt_succ_self _, ?_⟩
  · rw [lotL, List.length_append, ← e5]; rfl
  · show b + 1 ≤ h1.next + 1; omega
  · refine (get_new _ _).trans ?_
    have hm : m = (lotL st i).length := e5
    rw [lotL, flat_snoc, List.drop_zero, hm, ← flat_len, List.take_length]; rfl
theorem LI.start {b : Nat} {el : El} {h1 : AH} {st : Str × Int} (e : Ext h h1) (h2 : b < h1.next) (h3 : h.next ≤ b) (h4 : h1.get b = RB el st) : LI h b el h1 st ⟨none, 0⟩ 0 := ⟨e, h2, h3, h4, NL.none _ _⟩
theorem LI.len {b : Nat} {el : El} {h1 : AH} {st : Str × Int} {sl : Sl} {i : Nat} (l : LI h b el h1 st sl i) : sl.len = i := by rw [l.nl.1, lotL_len]
theorem LI.none {b : Nat} {el : El} {h1 : AH} {st : Str × Int} {m : Nat} {i : Nat} (l : LI h b el h1 st ⟨none, m⟩ i) : i = 0 ∧ m = 0 := by
  have h1 : lotL st i = [] := l.nl.2
  have h2 := lotL_len st i
  have h3 : m = i := l.len
  rw [h1] at h2
  exact ⟨h2.symm, h3.trans h2.symm⟩
theorem c32 {s : Str} (hs : s.length < 2 ^ 60) (hk : ∀ h' sl, Ext h h' → NL h' h.next sl (ltake s).1 → R (.tuple [.slice sl.1 sl.len 9, .int .i64 (ltake s).2]) h') : ACall prog (.func (.func 32) [] []) [.str s] h R := by
  refine a32 (w32 _ _ _) (c29 ⟨_, rfl, ?_⟩)
  have g0 : (h.new (.cells false 0 ⟨163, true, true⟩ [.str s, .int .i64 0])).get h.next = RB ⟨163, true, true⟩ (s, 0) := get_new _ _
  refine c30 g0 ⟨_, rfl, c31 (gset _ _ _ _) ⟨_, rfl, fun h0 => ?_, fun h0 => ?_⟩⟩
  · have h0 : (rnum (s, 0)).2.2 ≠ 0 := by simpa using h0
    refine c31 (gset _ _ _ _) ⟨_, rfl, ?_⟩
    have hz : (rnum (s, 0)).1 = 0 := by
      have := h0
      rw [rnum, if_pos rfl] at this ⊢
      have := (tk_err this).1
      simp only [this]; rfl
    have hl : ltake s = ([], (rnum (s, 0)).2.2) := by
      rw [ltake, if_neg (fun h => h0 h.1), hz]
      show ltakeB _ 0 = _
      have hr : rend (rnum (s, 0)).2 = (rnum (s, 0)).2.2 := by rw [rend, if_neg (fun h => h0 h.1)]
      rw [ltakeB, if_neg (by rw [lotSt, hr]; exact h0), lotSt, hr]
    have := hk _ ⟨none, 0⟩ (((Ext.refl h).new (.cells false 0 ⟨163, true, true⟩ [.str s, .int .i64 0])).set (Nat.le_refl _) (RB ⟨163, true, true⟩ (rnum (s, 0)).2)) (by rw [hl]; exact NL.none _ _)
    rw [hl] at this
    exact this
  · have h0 : (rnum (s, 0)).2.2 = 0 := by simpa using h0
    have hi := rnum_i64 (s, 0)
    have hsl := rnum_len (s, 0)
    have hext : Ext h ((h.new (.cells false 0 ⟨163, true, true⟩ [.str s, .int .i64 0])).set h.next (RB ⟨163, true, true⟩ (rnum (s, 0)).2)) := ((Ext.refl h).new _).set (Nat.le_refl _) _
    refine ⟨fun h1 => ?_, fun h1 => ?_⟩
    · have h1 := of_decide_eq_true h1
      have hl : ltake s = ([], 12) := by rw [ltake, if_pos ⟨h0, h1⟩]
      have := hk _ ⟨none, 0⟩ hext (by rw [hl]; exact NL.none _ _)
      rw [hl] at this
      exact this
    have h1 := of_decide_eq_false h1
    have hl : ltake s = ltakeB (rnum (s, 0)).2 (rnum (s, 0)).1.toNat := by rw [ltake, if_neg (fun h => h1 h.2)]
    rw [hl] at hk
    generalize rnum (s, 0) = t at *
    obtain ⟨z, st⟩ := t
    obtain ⟨n, rfl⟩ : ∃ n : Nat, z = n := ⟨z.toNat, by simp only at hi; omega⟩
    simp only at hi h0 h1 hk hsl
    rw [Int.toNat_natCast] at hk
    refine ⟨fun (x, sl, _) h4 => ∃ i : Nat, x = i ∧ i ≤ n ∧ LI h h.next ⟨163, true, true⟩ h4 st sl i, fun (x, _, _) _ => (n - x).toNat, ⟨0, rfl, Nat.zero_le _, LI.start hext (Nat.lt_succ_self _) (Nat.le_refl _) (gset _ _ _ _)⟩, ?_⟩
    rintro x sl h4 ⟨i, rfl, hin, li⟩
    have hst := lotSt_len st i
    refine ⟨fun hx => ?_, fun hx => ?_⟩
    · have hx : i < n := by have := of_decide_eq_true hx; simp only at this; omega
      have e1 : IntKind.i64.wrap ((i : Int) + (1 : Int)) = ((i + 1 : Nat) : Int) := wrapN (n := i + 1) (by omega)
      rw [e1]
      have hmu : ((n : Int) - ((i + 1 : Nat) : Int)).toNat < ((n : Int) - (i : Int)).toNat := by omega
      have hlen := li.len
      refine c73 (Nat.lt_of_le_of_lt (Nat.le_trans hst hsl) hs) li.lt li.rd ⟨((rspan (lotSt st i)).1.t, (rspan (lotSt st i)).1.i, (rspan (lotSt st i)).1.p, (rspan (lotSt st i)).1.r, (rspan (lotSt st i)).1.s, (rspan (lotSt st i)).1.o, (rspan (lotSt st i)).1.b, (rspan (lotSt st i)).1.d, (rspan (lotSt st i)).1.g), rfl, sc (rspan (lotSt st i)).1, rdg (get_new _ _) (by simp), by omega, ?_⟩
      obtain ⟨a, m⟩ := sl
      cases a with
      | none =>
        obtain ⟨z1, rfl⟩ := li.none
        exact ⟨⟨i + 1, rfl, by omega, li.one z1⟩, hmu⟩
      | some p =>
        have hp := li.nl
        obtain ⟨k1, k2, k3, k4, k5⟩ := hp
        have hpb : p.b ≠ h.next := by omega
        refine ⟨0, false, true, _, get_new' (get_set' k5 hpb) k4, ?_, Nat.zero_le _, ⟨i + 1, rfl, by omega, li.more⟩, hmu⟩
        rw [flat_len, ← k1, k2]; simp
    · have hx : i = n := by have := of_decide_eq_false hx; simp only at this; omega
      subst hx
      refine c35 li.rd ⟨_, rfl, fun h5 => ?_, fun h5 => ?_⟩
      · have h5 : rend (lotSt st i) ≠ 0 := by simpa using h5
        rw [ltakeB, if_neg h5] at hk
        exact hk _ ⟨none, 0⟩ li.ext (NL.none _ _)
      · have h5 : rend (lotSt st i) = 0 := by simpa using h5
        rw [ltakeB, if_pos h5] at hk
        obtain ⟨hsl1, hsl2⟩ := li.nl.sl
        rw [hsl2]
        refine c63 hsl1 (FitS.short (lotL_fit (Nat.lt_of_le_of_lt hsl hs) i)) (by rw [lotL_len]; omega) ⟨_, rfl, fun h6 => ?_, fun h6 => ?_⟩
        · rw [if_neg (by intro h; rw [h] at h6; cases h6)] at hk
          exact hk _ ⟨none, 0⟩ li.ext (NL.none _ _)
        · rw [if_pos (by simpa using h6)] at hk
          have := hk _ sl li.ext (li.nl.low (Nat.le_succ _))
          rw [hsl2] at this
          exact this
theorem c37 {s : Str} (hs : s.length < 2 ^ 60) (hk : ∀ h' sl, Ext h h' → NL h' h.next sl (ltake s).1 → R (.tuple [.slice sl.1 sl.len 9, .int .i64 (ltake s).2]) h') : ACall prog (.func (.func 37) [] []) [.str s] h R := by
  have g0 : (h.new (.cells false 0 ⟨74, true, true⟩ [.str s, .int .i64 0])).get h.next = RB ⟨74, true, true⟩ (s, 0) := get_new _ _
  refine a37 (w37 _ _ _) (c36 g0 ⟨_, rfl, _, rdE (gset _ _ _ _), ?_⟩)
  have hi := rnum_i64 (s, 0)
  have hsl := rnum_len (s, 0)
  have hz : (rnum (s, 0)).2.2 ≠ 0 → (rnum (s, 0)).1 = 0 := by
    intro h0
    rw [rnum, if_pos rfl] at h0 ⊢
    have := (tk_err h0).1
    simp only [this]; rfl
  have hext : Ext h ((h.new (.cells false 0 ⟨74, true, true⟩ [.str s, .int .i64 0])).set h.next (RB ⟨74, true, true⟩ (rnum (s, 0)).2)) := ((Ext.refl h).new _).set (Nat.le_refl _) _
  by_cases hb : (rnum (s, 0)).2.2 = 0 ∧ 256 < (rnum (s, 0)).1
  · have hl : ltake s = ([], 12) := by rw [ltake, if_pos hb]
    rw [show ((rnum (s, 0)).2.2 == (0 : Int)) = true from beq_iff_eq.2 hb.1]
    refine ⟨fun _ => ?_, fun h => absurd (of_decide_eq_false (show decide ((rnum (s, 0)).1 > 256) = false from h)) (by have := hb.2; omega)⟩
    have := hk _ ⟨none, 0⟩ hext (by rw [hl]; exact NL.none _ _)
    rw [hl] at this
    exact this
  have hl : ltake s = ltakeB (rnum (s, 0)).2 (rnum (s, 0)).1.toNat := by rw [ltake, if_neg hb]
  rw [hl] at hk
  have hn : (rnum (s, 0)).1 ≤ 256 := by
    by_cases h0 : (rnum (s, 0)).2.2 = 0
    · exact Int.not_lt.1 fun h => hb ⟨h0, h⟩
    · rw [hz h0]; decide
  have hbig : ((bif true then decide ((rnum (s, 0)).1 > (256 : Int)) else false) = true) → False := fun h => absurd (of_decide_eq_true (show decide ((rnum (s, 0)).1 > 256) = true from h)) (by omega)
  clear hb hz hl
  generalize rnum (s, 0) = t at *
  obtain ⟨z, st⟩ := t
  obtain ⟨n, rfl⟩ : ∃ n : Nat, z = n := ⟨z.toNat, by simp only at hi; omega⟩
  simp only at hi hk hsl hn
  rw [Int.toNat_natCast] at hk
  cases hc : (((n : Int), st).2.2 == (0 : Int))
  case' false => refine ⟨fun h => (by cases h), fun _ => ?_⟩
  case' true => refine ⟨fun h => (hbig h).elim, fun _ => ?_⟩
  all_goals
    refine ⟨fun (x, sl, _) h4 => ∃ i : Nat, x = i ∧ i ≤ n ∧ LI h h.next ⟨74, true, true⟩ h4 st sl i, fun (x, _, _) _ => (n - x).toNat, ⟨0, rfl, Nat.zero_le _, LI.start hext (Nat.lt_succ_self _) (Nat.le_refl _) (gset _ _ _ _)⟩, ?_⟩
    rintro x sl h4 ⟨i, rfl, hin, li⟩
    have hst := lotSt_len st i
    refine ⟨fun hx => ?_, fun hx => ?_⟩
    · have hx : i < n := by have := of_decide_eq_true hx; simp only at this; omega
      have e1 : IntKind.i64.wrap ((i : Int) + (1 : Int)) = ((i + 1 : Nat) : Int) := wrapN (n := i + 1) (by omega)
      rw [e1]
      have hmu : ((n : Int) - ((i + 1 : Nat) : Int)).toNat < ((n : Int) - (i : Int)).toNat := by omega
      have hlen := li.len
      refine c77 (Nat.lt_of_le_of_lt (Nat.le_trans hst hsl) hs) li.lt li.rd ⟨((rspan (lotSt st i)).1.t, (rspan (lotSt st i)).1.i, (rspan (lotSt st i)).1.p, (rspan (lotSt st i)).1.r, (rspan (lotSt st i)).1.s, (rspan (lotSt st i)).1.o, (rspan (lotSt st i)).1.b, (rspan (lotSt st i)).1.d, (rspan (lotSt st i)).1.g), rfl, sc (rspan (lotSt st i)).1, rdg (get_new _ _) (by simp), by omega, ?_⟩
      obtain ⟨a, m⟩ := sl
      cases a with
      | none =>
        obtain ⟨z1, rfl⟩ := li.none
        exact ⟨⟨i + 1, rfl, by omega, li.one z1⟩, hmu⟩
      | some p =>
        have hp := li.nl
        obtain ⟨k1, k2, k3, k4, k5⟩ := hp
        have hpb : p.b ≠ h.next := by omega
        refine ⟨0, false, true, _, get_new' (get_set' k5 hpb) k4, ?_, Nat.zero_le _, ⟨i + 1, rfl, by omega, li.more⟩, hmu⟩
        rw [flat_len, ← k1, k2]; simp
    · have hx : i = n := by have := of_decide_eq_false hx; simp only at this; omega
      subst hx
      refine c39 li.rd ⟨_, rfl, fun h5 => ?_, fun h5 => ?_⟩
      · have h5 : rend (lotSt st i) ≠ 0 := by simpa using h5
        rw [ltakeB, if_neg h5] at hk
        exact hk _ ⟨none, 0⟩ li.ext (NL.none _ _)
      · have h5 : rend (lotSt st i) = 0 := by simpa using h5
        rw [ltakeB, if_pos h5] at hk
        obtain ⟨hsl1, hsl2⟩ := li.nl.sl
        have hfit := lotL_fit (Nat.lt_of_le_of_lt hsl hs) i
        have hLi := lotL_len st i
        refine ⟨fun (x, _) h6 => h6 = h4 ∧ ∃ j : Nat, x = j ∧ j ≤ i ∧ ((lotL st i).take j).all okS = true, fun (x, _) _ => (i - x).toNat, ⟨rfl, 0, rfl, Nat.zero_le _, rfl⟩, ?_⟩
        rintro x h6 ⟨rfl, j, rfl, hj, ha⟩
        rw [hsl2, hLi]
        refine ⟨fun hx => ?_, fun hx => ?_⟩
        · have hx : j < i := by have := of_decide_eq_true hx; omega
          have hx' : j < (lotL st i).length := by omega
          have e1 : IntKind.i64.wrap ((j : Int) + (1 : Int)) = ((j + 1 : Nat) : Int) := wrapN (n := j + 1) (by omega)
          rw [e1]
          obtain ⟨a, m⟩ := sl
          obtain ⟨p, rfl, hr⟩ := hsl1.el hx'
          have hsh := FitS.short hfit _ (List.getElem_mem hx')
          refine ⟨by omega, by omega, ((lotL st i)[j].t, (lotL st i)[j].i, (lotL st i)[j].p, (lotL st i)[j].r, (lotL st i)[j].s, (lotL st i)[j].o, (lotL st i)[j].b, (lotL st i)[j].d, (lotL st i)[j].g), hr, c78 (x := (lotL st i)[j]) hsh.1 hsh.2 ⟨_, rfl, fun h7 => ?_, fun h7 => ⟨⟨rfl, j + 1, rfl, by omega, ?_⟩, ?_⟩⟩⟩
          · have : (lotL st i).all okS = false := by
              rw [List.all_eq_false]
              refine ⟨(lotL st i)[j], List.getElem_mem hx', ?_⟩
              intro ho
              rw [may_ok ho] at h7; cases h7
            rw [this, if_neg (by decide)] at hk
            exact hk _ ⟨none, 0⟩ li.ext (NL.none _ _)
          · rw [List.take_add, List.drop_eq_getElem_cons hx', List.all_append, ha, Bool.true_and]
            show ([(lotL st i)[j]]).all okS = true
            cases ho : okS (lotL st i)[j] with
            | true => simp [ho]
            | false => rw [may_no ho] at h7; cases h7
          · show ((i : Int) - ((j + 1 : Nat) : Int)).toNat < ((i : Int) - (j : Int)).toNat; omega
        · have hx : j = i := by have := of_decide_eq_false hx; omega
          subst hx
          rw [List.take_of_length_le (by omega)] at ha
          rw [if_pos ha] at hk
          have := hk _ sl li.ext (li.nl.low (Nat.le_succ _))
          rw [hsl2, hLi] at this
          exact this
end
end Go.Lm
/- Law 36, main part: changes. -/
namespace Go.Lm
open Go Go.La Go.RowKit Go.Proofs.Tryz

theorem bne0 (x : Int) : (x != 0) = true ↔ x ≠ 0 := by simp
theorem bnef (x : Int) : (x != 0) = false ↔ x = 0 := by simp
def sh100 (x : Sp) : Bool := decide (x.s.length ≤ 100) && decide (x.o.length ≤ 100)
def few (l : List Sp) (m : Nat) : Bool := (l.take m).all sh100 && decide (l.length ≤ m)
section
variable {l l2 : List Sp} {a a2 : Option Pt} {x : Sp} {h : AH} {R : AV → AH → Prop}
theorem c13 (hk : R (.bool (sh100 x)) h) : ACall prog (.func (.func 13) [] []) [.agg (sc x)] h R := by
  have he : Ext h (h.new (.cells false 0 ⟨37, true, true⟩ (sc x))) := (Ext.refl h).new _
  refine ACall.pure (a13 (w13 _ _ _ _ _ _ _ _ _ _ _) ⟨_, rx (gx h x) 4 1 (by omega), ?_⟩)
  have e1 : decide ((x.s.length : Int) ≤ 100) = decide (x.s.length ≤ 100) := decide_eq_decide.2 (by omega)
  have e2 : decide ((x.o.length : Int) ≤ 100) = decide (x.o.length ≤ 100) := decide_eq_decide.2 (by omega)
  rw [e1]
  cases h1 : decide (x.s.length ≤ 100) with
  | true =>
    refine ⟨_, rx (gx h x) 5 1 (by omega), he, Low.bool _ _, ?_⟩
    rw [sh100, h1] at hk
    show R (.bool (decide ((x.o.length : Int) ≤ 100))) h
    rw [e2]; exact hk
  | false => rw [sh100, h1] at hk; exact ⟨he, Low.bool _ _, hk⟩
theorem c5 {m : Nat} (hm : m < 2 ^ 60) (hs : SL h a l) (hk : R (.bool (few l m)) h) : ACall prog (.func (.func 5) [] []) [.slice a l.length 9, .int .i64 m] h R := by
  refine a5 (w5 _ _ _ _ _) ⟨fun (x, _) h1 => h1 = h ∧ ∃ i : Nat, x = i ∧ i ≤ l.length ∧ i ≤ m ∧ (l.take i).all sh100 = true, fun (x, _) _ => (m - x).toNat, ⟨rfl, 0, rfl, Nat.zero_le _, Nat.zero_le _, rfl⟩, ?_⟩
  rintro x h1 ⟨rfl, i, rfl, hi, him, ha⟩
  have done : (i = l.length ∨ i = m) → R (AV.bool (decide ((l.length : Int) ≤ m))) h1 := by
    intro hd
    have e : decide ((l.length : Int) ≤ m) = decide (l.length ≤ m) := decide_eq_decide.2 (by omega)
    have e2 : few l m = decide (l.length ≤ m) := by
      rw [few]
      rcases hd with rfl | rfl
      · rw [List.take_of_length_le him]
        rw [List.take_length] at ha
        rw [ha, Bool.true_and]
      · rw [ha, Bool.true_and]
    rw [e2] at hk
    rw [e]; exact hk
  cases hx : decide ((i : Int) < (l.length : Int)) with
  | false => exact ⟨fun h => (by cases h), fun _ => done (.inl (by have := of_decide_eq_false hx; omega))⟩
  | true =>
    have hx : i < l.length := by have := of_decide_eq_true hx; omega
    refine ⟨fun hy => ?_, fun hy => done (.inr (by have := of_decide_eq_false (show decide ((i : Int) < (m : Int)) = false from hy); omega))⟩
    have hy : i < m := by have := of_decide_eq_true (show decide ((i : Int) < (m : Int)) = true from hy); omega
    have e1 : IntKind.i64.wrap ((i : Int) + (1 : Int)) = ((i + 1 : Nat) : Int) := wrapN (n := i + 1) (by omega)
    rw [e1]
    obtain ⟨p, rfl, hr⟩ := hs.el hx
    refine ⟨by omega, by omega, (l[i].t, l[i].i, l[i].p, l[i].r, l[i].s, l[i].o, l[i].b, l[i].d, l[i].g), hr, c13 (x := l[i]) ⟨_, rfl, fun hb => ?_, fun hb => ⟨⟨rfl, i + 1, rfl, by omega, by omega, ?_⟩, ?_⟩⟩⟩
    · have : (l.take m).all sh100 = false := by
        rw [List.all_eq_false]
        exact ⟨l[i], List.mem_take_iff_getElem.2 ⟨i, by omega, rfl⟩, by simpa using hb⟩
      rw [few, this, Bool.false_and] at hk
      exact hk
    · rw [List.take_add, List.drop_eq_getElem_cons hx, List.all_append, ha, Bool.true_and]
      show ([l[i]]).all sh100 = true
      simpa using hb
    · show ((m : Int) - ((i + 1 : Nat) : Int)).toNat < ((m : Int) - (i : Int)).toNat; omega
theorem beq_sc (x y : Sp) : beqCells (sc x) (sc y) = decide (x = y) := by
  obtain ⟨a1, a2, a3, a4, a5, a6, a7, a8, a9⟩ := x
  obtain ⟨b1, b2, b3, b4, b5, b6, b7, b8, b9⟩ := y
  simp only [beqCells, Bool.and_true, Sp.mk.injEq]
  apply Bool.eq_iff_iff.2
  simp [and_assoc]
theorem c20 (hs : SL h a l) (hs2 : SL h a2 l2) (hn : l.length < 2 ^ 60) (hk : R (.bool (decide (l = l2))) h) : ACall prog (.func (.func 20) [] []) [.slice a l.length 9, .slice a2 l2.length 9] h R := by
  refine a20 (w20 _ _ _ _ _ _) ⟨fun h1 => ?_, fun h1 => ?_⟩
  · have h1 : l.length ≠ l2.length := by have := bne_iff_ne.1 h1; omega
    rw [decide_eq_false (fun h => h1 (by rw [h]))] at hk; exact hk
  have h1 : l.length = l2.length := by
    have : ((l.length : Int) == (l2.length : Int)) = true := by simpa using h1
    have := eq_of_beq this; omega
  refine ⟨fun (x, _) h1 => h1 = h ∧ ∃ i : Nat, x = i ∧ i ≤ l.length ∧ l.take i = l2.take i, fun (x, _) _ => (l.length - x).toNat, ⟨rfl, 0, rfl, Nat.zero_le _, rfl⟩, ?_⟩
  rintro x h1 ⟨rfl, i, rfl, hi, ha⟩
  have done : i = l.length → R (AV.bool true) h1 := by
    rintro rfl
    rw [List.take_length, List.take_of_length_le (by omega)] at ha
    rw [decide_eq_true ha] at hk; exact hk
  cases hx : decide ((i : Int) < (l.length : Int)) with
  | false => exact ⟨fun h => (by cases h), fun _ => done (by have := of_decide_eq_false hx; omega)⟩
  | true =>
    have hx : i < l.length := by have := of_decide_eq_true hx; omega
    have hx2 : i < l2.length := by omega
    refine ⟨fun hy => ?_, fun hy => done (by have := of_decide_eq_false (show decide ((i : Int) < (l2.length : Int)) = false from hy); omega)⟩
    have e1 : IntKind.i64.wrap ((i : Int) + (1 : Int)) = ((i + 1 : Nat) : Int) := wrapN (n := i + 1) (by omega)
    rw [e1]
    obtain ⟨p, rfl, hr⟩ := hs.el hx
    obtain ⟨p2, rfl, hr2⟩ := hs2.el hx2
    refine ⟨by omega, by omega, (l[i].t, l[i].i, l[i].p, l[i].r, l[i].s, l[i].o, l[i].b, l[i].d, l[i].g), hr, by omega, by omega, (l2[i].t, l2[i].i, l2[i].p, l2[i].r, l2[i].s, l2[i].o, l2[i].b, l2[i].d, l2[i].g), hr2, fun hb => ?_, fun hb => ⟨⟨rfl, i + 1, rfl, by omega, ?_⟩, ?_⟩⟩
    · have hb : (!beqCells (sc l[i]) (sc l2[i])) = true := hb
      rw [beq_sc] at hb
      have : l ≠ l2 := by
        rintro rfl
        simp at hb
      rw [decide_eq_false this] at hk; exact hk
    · have hb : (!beqCells (sc l[i]) (sc l2[i])) = false := hb
      rw [beq_sc] at hb
      have : l[i] = l2[i] := by simpa using hb
      rw [List.take_add, List.drop_eq_getElem_cons hx, List.take_add, List.drop_eq_getElem_cons hx2, ha, this]; rfl
    · show ((l.length : Int) - ((i + 1 : Nat) : Int)).toNat < ((l.length : Int) - (i : Int)).toNat; omega
end
abbrev cc (k : Int) (a : Option Pt) (n : Nat) (w : Int) : List AV := [.int .i64 k, .slice a n 9, .int .i64 w]
abbrev CB (k : Int) (a : Option Pt) (n : Nat) (w : Int) : Option AObj := some (.cells false 0 ⟨24, true, true⟩ (cc k a n w))
theorem rc {h1 : AH} {b : Nat} {k : Int} {a : Option Pt} {n : Nat} {w : Int} (hg : h1.get b = CB k a n w) (o m : Nat) (ho : o + m ≤ 3) : h1.rd ⟨b, o⟩ m = some (((cc k a n w).drop o).take m) := rdg hg ho
theorem Low.cc {N : Nat} (k : Int) {a : Option Pt} (n : Nat) (w : Int) (ha : ∀ p, a = some p → p.b < N) : ∀ v ∈ Lm.cc k a n w, Low N v := by
  intro v hv
  simp only [Lm.cc, List.mem_cons, List.not_mem_nil, or_false] at hv
  rcases hv with rfl | rfl | rfl
  · exact Low.int _ _ _
  · cases a with
    | none => exact Low.nslice _ _ _
    | some p => exact Low.slice (ha p rfl) _ _
  · exact Low.int _ _ _
def enc (k : Int) (l : List Sp) (w : Int) : Str × Int :=
  if k = 1 then (if (lput l).2 = 0 then (1 :: (lput l).1, 0) else ([], (lput l).2)) else if k = 2 then (2 :: sgn w, 0) else ([], 2)
theorem lput_len {l : List Sp} (hf : ∀ x ∈ l, FitS x) : (lput l).1.length ≤ 33034 := by
  unfold lput
  split
  · simp
  · split
    · rename_i h1 h2
      have h3 := lot_len hf h2
      have h4 := num_len (n := l.length) (by unfold I64; omega)
      simp only [List.length_append]; omega
    · simp
section
variable {l l2 : List Sp} {a a2 : Option Pt} {k w k2 w2 : Int} {h : AH} {R : AV → AH → Prop}
theorem gc (h : AH) (k : Int) (a : Option Pt) (n : Nat) (w : Int) : (h.new (AObj.cells false 0 ⟨24, true, true⟩ (cc k a n w))).get h.next = CB k a n w := get_new _ _
theorem num_one : num 1 = [1] := by rw [num, if_neg (by decide), dig_lt (by decide)]; rfl
theorem num_two : num 2 = [2] := by rw [num, if_neg (by decide), dig_lt (by decide)]; rfl
theorem SL.old {h1 : AH} (hok : h.ok) (hs : SL h a l) (e : Ext h h1) : SL h1 a l := hs.ext (hs.lt hok (Nat.le_refl _)) fun p hp => e.2 _ (hs.lt hok (Nat.le_refl _) p hp)
theorem c7 (hs : SL h a l) (hf : ∀ x ∈ l, FitS x) (hn : l.length < 2 ^ 60) (h1 : I64 k) (h2 : I64 w) (hk : R (.tuple [.str (enc k l w).1, .int .i64 (enc k l w).2]) h) : ACall prog (.func (.func 7) [] []) [.agg (cc k a l.length w)] h R := by
  refine ACall.isok fun hok => ACall.pure (a7 (w7 _ _ _ _ _ _) ⟨_, rc (get_new' (gc _ _ _ _ _) (Nat.lt_succ_self _)) 0 1 (by omega), ?_⟩)
  have e1 : Ext h (h.new (AObj.cells false 0 ⟨24, true, true⟩ (cc k a l.length w))) := (Ext.refl h).new _
  refine c23 h1 (WR.fresh (h.new (AObj.cells false 0 ⟨24, true, true⟩ (cc k a l.length w)))) (by have := num_len h1; rw [List.nil_append]; omega) fun h3 c3 w3 f3 => ⟨(), rfl, ?_⟩
  rw [List.nil_append] at w3
  have hx : h3.get h.next = CB k a l.length w := ((f3.2 h.next (Nat.lt_succ_of_lt (Nat.lt_succ_self _)) (Nat.ne_of_lt (Nat.lt_succ_self _)) (by simp)).1).trans (get_new' (gc _ _ _ _ _) (Nat.lt_succ_self _))
  have hlt : h.next < h3.next := Nat.lt_of_lt_of_le (Nat.lt_succ_of_lt (Nat.lt_succ_self _)) f3.1
  have e3 : Ext h h3 := ⟨Nat.le_of_lt hlt, fun k hk => ((f3.2 k (Nat.lt_succ_of_lt (Nat.lt_succ_of_lt hk)) (Nat.ne_of_lt (Nat.lt_succ_of_lt hk)) (by simp)).1).trans (get_new' (get_new' rfl hk) (Nat.lt_succ_of_lt hk))⟩
  have n3 : ∀ k, k < h.next → c3 ≠ some k := fun k hk => (f3.2 k (Nat.lt_succ_of_lt (Nat.lt_succ_of_lt hk)) (Nat.ne_of_lt (Nat.lt_succ_of_lt hk)) (by simp)).2
  refine ⟨_, rc hx 0 1 (by omega), fun g1 => ⟨⟨a, l.length⟩, rc hx 1 1 (by omega), ?_⟩, fun g1 => ⟨fun g2 => ⟨_, rc hx 2 1 (by omega), ?_⟩, fun g2 => ?_⟩⟩
  · obtain rfl := eq_of_beq g1
    rw [enc, if_pos rfl] at hk
    refine c24 (hs.old hok e3) hf hn ⟨((lput l).1, (lput l).2, ()), rfl, fun g2 => ?_, fun g2 => ?_⟩
    · rw [if_neg ((bne0 _).1 g2)] at hk
      exact ⟨e3, Low.se _ _, hk⟩
    · have hll := lput_len hf
      rw [if_pos ((bnef _).1 g2)] at hk
      refine c25 w3 (by rw [num_one]; decide) fun h5 f5 => ⟨_, rfl, by rw [num_one]; simp only [List.length_cons, List.length_nil]; omega, ⟨Nat.le_trans e3.1 f5.1, fun k hk => ((f5.2 k (Nat.lt_of_lt_of_le hk e3.1) (Nat.ne_of_lt (Nat.lt_succ_of_lt hk)) (n3 k hk)).1).trans (e3.2 k hk)⟩, Low.se _ _, ?_⟩
      rw [num_one]; exact hk
  · obtain rfl := eq_of_beq g2
    have hsl := sgn_len h2
    rw [enc, if_neg (by decide), if_pos rfl] at hk
    refine c26 h2 w3 (by rw [num_two]; simp only [List.length_append, List.length_cons, List.length_nil]; omega) fun h4 c4 w4 f4 => ⟨(), rfl, c25 w4 (by rw [num_two]; simp only [List.length_append, List.length_cons, List.length_nil]; omega) fun h5 f5 => ⟨_, rfl, ?_, Low.se _ _, ?_⟩⟩
    · have f := f4.trans f5
      exact ⟨Nat.le_trans e3.1 f.1, fun k hk => ((f.2 k (Nat.lt_of_lt_of_le hk e3.1) (Nat.ne_of_lt (Nat.lt_succ_of_lt hk)) (n3 k hk)).1).trans (e3.2 k hk)⟩
    · rw [num_two]; exact hk
  · rw [enc, if_neg (beq_eq_false_iff_ne.1 g1), if_neg (beq_eq_false_iff_ne.1 g2)] at hk
    exact ⟨e3, Low.se _ _, hk⟩
theorem c8 (hs : SL h a l) (hf : ∀ x ∈ l, FitS x) (hn : l.length < 2 ^ 60) (h2 : I64 w) (hk : R (.tuple [.str (enc k l w).1, .int .i64 (enc k l w).2]) h) : ACall prog (.func (.func 8) [] []) [.agg (cc k a l.length w)] h R := by
  have e1 : Ext h (h.new (AObj.cells false 0 ⟨24, true, true⟩ (cc k a l.length w))) := (Ext.refl h).new _
  refine ACall.isok fun hok => ACall.pure (a8 (w8 _ _ _ _ _ _) ⟨_, rc (gc _ _ _ _ _) 0 1 (by omega), fun g1 => ⟨⟨a, l.length⟩, rc (gc _ _ _ _ _) 1 1 (by omega), ?_⟩, fun g1 => ⟨fun g2 => ⟨_, rc (gc _ _ _ _ _) 2 1 (by omega), ?_⟩, fun g2 => ?_⟩⟩)
  · obtain rfl := eq_of_beq g1
    rw [enc, if_pos rfl] at hk
    have hll := lput_len hf
    refine c27 (hs.old hok e1) hf hn ⟨((lput l).1, (lput l).2, ()), rfl, fun g2 => ?_, fun g2 => ⟨by simp only [List.length_cons, List.length_nil]; omega, ?_⟩⟩
    · rw [if_neg ((bne0 _).1 g2)] at hk
      exact ⟨e1, Low.se _ _, hk⟩
    · rw [if_pos ((bnef _).1 g2)] at hk
      exact ⟨e1, Low.se _ _, hk⟩
  · obtain rfl := eq_of_beq g2
    have hsl := sgn_len h2
    rw [enc, if_neg (by decide), if_pos rfl] at hk
    exact c28 h2 ⟨_, rfl, by simp only [List.length_cons, List.length_nil]; omega, e1, Low.se _ _, hk⟩
  · rw [enc, if_neg (beq_eq_false_iff_ne.1 g1), if_neg (beq_eq_false_iff_ne.1 g2)] at hk
    exact ⟨e1, Low.se _ _, hk⟩
end
end Go.Lm
/- Law 36, main part: changes that are decoded. -/
namespace Go.Lm
open Go Go.La Go.RowKit Go.Proofs.Tryz

def bare (k : Int) (l : List Sp) (w : Int) : Int × List Sp × Int := if k = 1 then (1, l, 0) else if k = 2 then (2, [], w) else (k, [], 0)
def dec (s : Str) : Int × List Sp × Int × Int :=
  if (rnum (s, 0)).2.2 ≠ 0 then (0, [], 0, (rnum (s, 0)).2.2) else
  if (rnum (s, 0)).1 = 1 then (if (ltake (rnum (s, 0)).2.1).2 ≠ 0 then (0, [], 0, (ltake (rnum (s, 0)).2.1).2) else (1, (ltake (rnum (s, 0)).2.1).1, 0, 0)) else
  if (rnum (s, 0)).1 = 2 then (if rend (rsig (rnum (s, 0)).2).2 ≠ 0 then (0, [], 0, rend (rsig (rnum (s, 0)).2).2) else (2, [], (rsig (rnum (s, 0)).2).1, 0))
  else (0, [], 0, 2)
section
variable {l l2 : List Sp} {a a2 : Option Pt} {k w k2 w2 : Int} {h : AH} {R : AV → AH → Prop}
theorem c11 (hs : SL h a l) (hs2 : SL h a2 l2) (hn : l.length < 2 ^ 60) (hk : R (.bool (decide (k = k2) && decide (l = l2) && decide (w = w2))) h) : ACall prog (.func (.func 11) [] []) [.agg (cc k a l.length w), .agg (cc k2 a2 l2.length w2)] h R := by
  have e1 : Ext h ((h.new (AObj.cells false 0 ⟨24, true, true⟩ (cc k a l.length w))).new (AObj.cells false 0 ⟨24, true, true⟩ (cc k2 a2 l2.length w2))) := ((Ext.refl h).new _).new _
  have g1 : ((h.new (AObj.cells false 0 ⟨24, true, true⟩ (cc k a l.length w))).new (AObj.cells false 0 ⟨24, true, true⟩ (cc k2 a2 l2.length w2))).get h.next = CB k a l.length w := get_new' (gc _ _ _ _ _) (Nat.lt_succ_self _)
  have g2 : ((h.new (AObj.cells false 0 ⟨24, true, true⟩ (cc k a l.length w))).new (AObj.cells false 0 ⟨24, true, true⟩ (cc k2 a2 l2.length w2))).get (h.next + 1) = CB k2 a2 l2.length w2 := gc _ _ _ _ _
  refine ACall.isok fun hok => ACall.pure (a11 (w11 _ _ _ _ _ _ _ _ _ _) ⟨_, rc g1 0 1 (by omega), _, rc g2 0 1 (by omega), ?_⟩)
  cases h1 : (k == k2) with
  | false =>
    rw [decide_eq_false (beq_eq_false_iff_ne.1 h1)] at hk
    exact ⟨e1, Low.bool _ _, hk⟩
  | true =>
    rw [decide_eq_true (eq_of_beq h1), Bool.true_and] at hk
    refine ⟨⟨a, l.length⟩, rc g1 1 1 (by omega), ⟨a2, l2.length⟩, rc g2 1 1 (by omega), c20 (hs.old hok e1) (hs2.old hok e1) hn ⟨_, rfl, ?_⟩⟩
    cases h2 : decide (l = l2) with
    | false => rw [h2] at hk; exact ⟨e1, Low.bool _ _, hk⟩
    | true =>
      rw [h2, Bool.true_and] at hk
      refine ⟨_, rc g1 2 1 (by omega), _, rc g2 2 1 (by omega), e1, Low.bool _ _, ?_⟩
      have : (w == w2) = decide (w = w2) := by cases h3 : (w == w2) with | true => exact (decide_eq_true (eq_of_beq h3)).symm | false => exact (decide_eq_false (beq_eq_false_iff_ne.1 h3)).symm
      show R (.bool (w == w2)) h
      rw [this]; exact hk
theorem c12 (hs : SL h a l) (hk : ∀ a', SL h a' (bare k l w).2.1 → R (.agg (cc (bare k l w).1 a' (bare k l w).2.1.length (bare k l w).2.2)) h) : ACall prog (.func (.func 12) [] []) [.agg (cc k a l.length w)] h R := by
  refine ACall.isok fun hok => ACall.pure (a12 (w12 _ _ _ _ _ _) ⟨_, rc (get_new' (gc _ _ _ _ _) (Nat.lt_succ_self _)) 0 1 (by omega), fun g1 => ?_, fun g1 => ⟨fun g2 => ?_, fun g2 => ?_⟩⟩)
  · obtain rfl := eq_of_beq g1
    rw [bare, if_pos rfl] at hk
    refine ⟨⟨a, l.length⟩, rc (get_new' (gc _ _ _ _ _) (Nat.lt_succ_self _)) 1 1 (by omega), _, wrg (gc _ _ _ _ _) (by simp) (Nat.zero_le _), (1, ⟨a, l.length⟩, 0), rc (k := 1) (a := a) (n := l.length) (w := 0) (get_set _ _ _) 0 3 (by omega), (((Ext.refl h).new _).new _).set (Nat.le_succ _) _, Low.agg (Low.cc 1 l.length 0 (hs.lt hok (Nat.le_refl _))), hk a hs⟩
  · obtain rfl := eq_of_beq g2
    rw [bare, if_neg (by decide), if_pos rfl] at hk
    exact ⟨_, rc (get_new' (gc _ _ _ _ _) (Nat.lt_succ_self _)) 2 1 (by omega), _, wrg (gc _ _ _ _ _) (by simp) (Nat.zero_le _), (2, ⟨none, 0⟩, w), rc (k := 2) (a := none) (n := 0) (w := w) (get_set _ _ _) 0 3 (by omega), (((Ext.refl h).new _).new _).set (Nat.le_succ _) _, Low.agg (Low.cc 2 0 w (fun p hp => by cases hp)), hk none ⟨rfl, rfl⟩⟩
  · rw [bare, if_neg (beq_eq_false_iff_ne.1 g1), if_neg (beq_eq_false_iff_ne.1 g2)] at hk
    exact ⟨_, rc (get_new' (gc _ _ _ _ _) (Nat.lt_succ_self _)) 0 1 (by omega), _, wrg (gc _ _ _ _ _) (by simp) (Nat.zero_le _), (k, ⟨none, 0⟩, 0), rc (k := k) (a := none) (n := 0) (w := 0) (get_set _ _ _) 0 3 (by omega), (((Ext.refl h).new _).new _).set (Nat.le_succ _) _, Low.agg (Low.cc k 0 0 (fun p hp => by cases hp)), hk none ⟨rfl, rfl⟩⟩
theorem c10 {s : Str} (hs : s.length < 2 ^ 60) (hk : ∀ h' sl, Ext h h' → NL h' h.next sl (dec s).2.1 → R (.tuple [.agg (cc (dec s).1 sl.1 sl.len (dec s).2.2.1), .int .i64 (dec s).2.2.2]) h') : ACall prog (.func (.func 10) [] []) [.str s] h R := by
  have g0 : ((h.new (.cells false 0 ⟨24, true, true⟩ (cc 0 none 0 0))).new (.cells false 0 ⟨74, true, true⟩ [.str s, .int .i64 0])).get (h.next + 1) = RB ⟨74, true, true⟩ (s, 0) := get_new _ _
  have z0 : ((h.new (.cells false 0 ⟨24, true, true⟩ (cc 0 none 0 0))).new (.cells false 0 ⟨74, true, true⟩ [.str s, .int .i64 0])).get h.next = CB 0 none 0 0 := get_new' (gc _ _ _ _ _) (Nat.lt_succ_self _)
  have hsl := rnum_len (s, 0)
  refine a10 (w10 _ _ _) (c36 g0 ⟨_, rfl, _, rdE (gset _ _ _ _), fun h1 => ?_, fun h1 => ⟨fun h2 => ?_, fun h2 => ⟨fun h3 => ?_, fun h3 => ?_⟩⟩⟩)
  all_goals
    have hne : h.next ≠ h.next + 1 := by omega
    have z1 := get_set' (o := RB ⟨74, true, true⟩ (rnum (s, 0)).2) z0 hne
    have e1 : Ext h (((h.new (.cells false 0 ⟨24, true, true⟩ (cc 0 none 0 0))).new (.cells false 0 ⟨74, true, true⟩ [.str s, .int .i64 0])).set (h.next + 1) (RB ⟨74, true, true⟩ (rnum (s, 0)).2)) := (((Ext.refl h).new _).new _).set (Nat.le_succ _) _
  · have h1 : (rnum (s, 0)).2.2 ≠ 0 := (bne0 _).1 h1
    have hd : dec s = (0, [], 0, (rnum (s, 0)).2.2) := by rw [dec, if_pos h1]
    rw [hd] at hk
    exact ⟨_, rdE (gset _ _ _ _), _, wrg z1 (by simp) (Nat.zero_le _), rdE (get_set' (gset _ _ _ _) (Ne.symm hne)), (0, ⟨none, 0⟩, 0), rc (k := 0) (a := none) (n := 0) (w := 0) (get_set _ _ _) 0 3 (by omega), hk _ ⟨none, 0⟩ (e1.set (Nat.le_refl _) _) (NL.none _ _)⟩
  · have h1 : (rnum (s, 0)).2.2 = 0 := (bnef _).1 h1
    have h2 := eq_of_beq h2
    refine ⟨_, rdS (gset _ _ _ _), c37 (Nat.lt_of_le_of_lt hsl hs) fun h4 sl e4 nl => ⟨(sl, (ltake (rnum (s, 0)).2.1).2, ()), rfl, fun h3 => ?_, fun h3 => ?_⟩⟩
    · have h3 := (bne0 _).1 h3
      have hd : dec s = (0, [], 0, (ltake (rnum (s, 0)).2.1).2) := by rw [dec, if_neg (by rw [h1]; decide), if_pos h2, if_pos h3]
      rw [hd] at hk
      exact ⟨_, wrg ((e4.2 _ (Nat.lt_succ_of_lt (Nat.lt_succ_self _))).trans z1) (by simp) (Nat.zero_le _), (0, ⟨none, 0⟩, 0), rc (k := 0) (a := none) (n := 0) (w := 0) (get_set _ _ _) 0 3 (by omega), hk _ ⟨none, 0⟩ ((e1.trans e4).set (Nat.le_refl _) _) (NL.none _ _)⟩
    · have h3 : (ltake (rnum (s, 0)).2.1).2 = 0 := (bnef _).1 h3
      have hd : dec s = (1, (ltake (rnum (s, 0)).2.1).1, 0, 0) := by rw [dec, if_neg (by rw [h1]; decide), if_pos h2, if_neg (by rw [h3]; decide)]
      rw [hd] at hk
      refine ⟨_, wrg ((e4.2 _ (Nat.lt_succ_of_lt (Nat.lt_succ_self _))).trans z1) (by simp) (Nat.zero_le _), (1, sl, 0), rc (k := 1) (a := sl.1) (n := sl.len) (w := 0) (get_set _ _ _) 0 3 (by omega), hk _ sl ((e1.trans e4).set (Nat.le_refl _) _) ?_⟩
      exact (nl.low (lo' := h.next + 1) (Nat.le_succ _)).same (h' := h4.set h.next _) (Nat.le_refl _) (fun k hk1 hk2 => get_set' rfl (by omega)) |>.low (Nat.le_succ _)
  · have h1 : (rnum (s, 0)).2.2 = 0 := (bnef _).1 h1
    have h2 := beq_eq_false_iff_ne.1 h2
    have h3 : (rnum (s, 0)).1 ≠ 2 := by simpa using h3
    have hd : dec s = (0, [], 0, 2) := by rw [dec, if_neg (by rw [h1]; decide), if_neg h2, if_neg h3]
    rw [hd] at hk
    exact ⟨_, wrg z1 (by simp) (Nat.zero_le _), (0, ⟨none, 0⟩, 0), rc (k := 0) (a := none) (n := 0) (w := 0) (get_set _ _ _) 0 3 (by omega), hk _ ⟨none, 0⟩ (e1.set (Nat.le_refl _) _) (NL.none _ _)⟩
  · have h1 : (rnum (s, 0)).2.2 = 0 := (bnef _).1 h1
    have h2 := beq_eq_false_iff_ne.1 h2
    have h3 : (rnum (s, 0)).1 = 2 := by simpa using h3
    refine c38 (gset _ _ _ _) ⟨_, rfl, c39 (gset _ _ _ _) ⟨_, rfl, fun h4 => ?_, fun h4 => ?_⟩⟩
    · have h4 := (bne0 _).1 h4
      have hd : dec s = (0, [], 0, rend (rsig (rnum (s, 0)).2).2) := by rw [dec, if_neg (by rw [h1]; decide), if_neg h2, if_pos h3, if_pos h4]
      rw [hd] at hk
      exact ⟨_, wrg (get_set' z1 hne) (by simp) (Nat.zero_le _), (0, ⟨none, 0⟩, 0), rc (k := 0) (a := none) (n := 0) (w := 0) (get_set _ _ _) 0 3 (by omega), hk _ ⟨none, 0⟩ ((e1.set (Nat.le_succ _) _).set (Nat.le_refl _) _) (NL.none _ _)⟩
    · have h4 := (bnef _).1 h4
      have hd : dec s = (2, [], (rsig (rnum (s, 0)).2).1, 0) := by rw [dec, if_neg (by rw [h1]; decide), if_neg h2, if_pos h3, if_neg (by rw [h4]; decide)]
      rw [hd] at hk
      exact ⟨_, wrg (get_set' z1 hne) (by simp) (Nat.zero_le _), (2, ⟨none, 0⟩, (rsig (rnum (s, 0)).2).1), rc (k := 2) (a := none) (n := 0) (w := (rsig (rnum (s, 0)).2).1) (get_set _ _ _) 0 3 (by omega), hk _ ⟨none, 0⟩ ((e1.set (Nat.le_succ _) _).set (Nat.le_refl _) _) (NL.none _ _)⟩
theorem rnum_rest (s : Str) : ∃ k, k ≤ s.length ∧ (rnum (s, 0)).2.1 = s.drop k := by
  rw [rnum, if_pos rfl]
  exact ⟨_, (tk_size 9 s).1, rfl⟩
theorem dec_heap (h : AH) (s : Str) : ∃ G, G = (((((h.new (.cells false 0 ⟨24, true, true⟩ (cc 0 none 0 0))).new (.cells false 0 ⟨163, true, true⟩ [.str s, .int .i64 0])).set (h.next + 1) (RB ⟨163, true, true⟩ (rnum (s, 0)).2)).new (.cells false 0 ⟨24, true, true⟩ (cc 0 none 0 0))).set (h.next + 2) (CB (rnum (s, 0)).1 none 0 0)) ∧ Ext h G ∧ G.next = h.next + 3 ∧ G.get (h.next + 2) = CB (rnum (s, 0)).1 none 0 0 ∧ G.get h.next = CB 0 none 0 0 ∧ G.get (h.next + 1) = RB ⟨163, true, true⟩ (rnum (s, 0)).2 := by
  have g0 : ((h.new (.cells false 0 ⟨24, true, true⟩ (cc 0 none 0 0))).new (.cells false 0 ⟨163, true, true⟩ [.str s, .int .i64 0])).get (h.next + 1) = RB ⟨163, true, true⟩ (s, 0) := get_new _ _
  have z0 : ((h.new (.cells false 0 ⟨24, true, true⟩ (cc 0 none 0 0))).new (.cells false 0 ⟨163, true, true⟩ [.str s, .int .i64 0])).get h.next = CB 0 none 0 0 := get_new' (gc _ _ _ _ _) (Nat.lt_succ_self _)
  have hne : h.next ≠ h.next + 1 := by omega
  have z1 := get_set' (o := RB ⟨163, true, true⟩ (rnum (s, 0)).2) z0 hne
  have e1 : Ext h (((h.new (.cells false 0 ⟨24, true, true⟩ (cc 0 none 0 0))).new (.cells false 0 ⟨163, true, true⟩ [.str s, .int .i64 0])).set (h.next + 1) (RB ⟨163, true, true⟩ (rnum (s, 0)).2)) := (((Ext.refl h).new _).new _).set (Nat.le_succ _) _
  have g1 : (((h.new (.cells false 0 ⟨24, true, true⟩ (cc 0 none 0 0))).new (.cells false 0 ⟨163, true, true⟩ [.str s, .int .i64 0])).set (h.next + 1) (RB ⟨163, true, true⟩ (rnum (s, 0)).2)).get (h.next + 1) = RB ⟨163, true, true⟩ (rnum (s, 0)).2 := gset _ _ _ _
  have n1 : (((h.new (.cells false 0 ⟨24, true, true⟩ (cc 0 none 0 0))).new (.cells false 0 ⟨163, true, true⟩ [.str s, .int .i64 0])).set (h.next + 1) (RB ⟨163, true, true⟩ (rnum (s, 0)).2)).next = h.next + 2 := rfl
  generalize hH : (((h.new (.cells false 0 ⟨24, true, true⟩ (cc 0 none 0 0))).new (.cells false 0 ⟨163, true, true⟩ [.str s, .int .i64 0])).set (h.next + 1) (RB ⟨163, true, true⟩ (rnum (s, 0)).2)) = H at *
  have e2 : Ext h ((H.new (.cells false 0 ⟨24, true, true⟩ (cc 0 none 0 0))).set H.next (CB (rnum (s, 0)).1 none 0 0)) := (e1.new _).set e1.1 _
  have n2 : ((H.new (.cells false 0 ⟨24, true, true⟩ (cc 0 none 0 0))).set H.next (CB (rnum (s, 0)).1 none 0 0)).next = h.next + 3 := by show H.next + 1 = _; rw [n1]
  have x2 : ((H.new (.cells false 0 ⟨24, true, true⟩ (cc 0 none 0 0))).set H.next (CB (rnum (s, 0)).1 none 0 0)).get (h.next + 2) = CB (rnum (s, 0)).1 none 0 0 := by rw [← n1]; exact get_set _ _ _
  have z2 : ((H.new (.cells false 0 ⟨24, true, true⟩ (cc 0 none 0 0))).set H.next (CB (rnum (s, 0)).1 none 0 0)).get h.next = CB 0 none 0 0 := get_set' (get_new' z1 (by rw [n1]; omega)) (by rw [n1]; omega)
  have g2 : ((H.new (.cells false 0 ⟨24, true, true⟩ (cc 0 none 0 0))).set H.next (CB (rnum (s, 0)).1 none 0 0)).get (h.next + 1) = RB ⟨163, true, true⟩ (rnum (s, 0)).2 := get_set' (get_new' g1 (by rw [n1]; omega)) (by rw [n1]; omega)
  rw [n1] at e2 n2 x2 z2 g2
  exact ⟨_, rfl, e2, n2, x2, z2, g2⟩
theorem c9 {s : Str} (hs : s.length < 2 ^ 60) (hk : ∀ h' sl, Ext h h' → NL h' h.next sl (dec s).2.1 → R (.tuple [.agg (cc (dec s).1 sl.1 sl.len (dec s).2.2.1), .int .i64 (dec s).2.2.2]) h') : ACall prog (.func (.func 9) [] []) [.str s] h R := by
  have hsl := rnum_len (s, 0)
  refine a9 (w9 _ _ _) (c29 ⟨_, rfl, ?_⟩)
  have g0 : ((h.new (.cells false 0 ⟨24, true, true⟩ (cc 0 none 0 0))).new (.cells false 0 ⟨163, true, true⟩ [.str s, .int .i64 0])).get (h.next + 1) = RB ⟨163, true, true⟩ (s, 0) := get_new _ _
  have z0 : ((h.new (.cells false 0 ⟨24, true, true⟩ (cc 0 none 0 0))).new (.cells false 0 ⟨163, true, true⟩ [.str s, .int .i64 0])).get h.next = CB 0 none 0 0 := get_new' (gc _ _ _ _ _) (Nat.lt_succ_self _)
  refine c30 g0 ⟨_, rfl, ?_⟩
  refine ⟨_, wrg (get_new _ _) (by simp) (Nat.zero_le _), ?_⟩
  obtain ⟨G, hG, e2, n2, x2, z2, g2⟩ := dec_heap h s
  show ACall prog _ _ (((((h.new (.cells false 0 ⟨24, true, true⟩ (cc 0 none 0 0))).new (.cells false 0 ⟨163, true, true⟩ [.str s, .int .i64 0])).set (h.next + 1) (RB ⟨163, true, true⟩ (rnum (s, 0)).2)).new (.cells false 0 ⟨24, true, true⟩ (cc 0 none 0 0))).set (h.next + 2) (CB (rnum (s, 0)).1 none 0 0)) _
  rw [← hG]
  simp only [AH.set_next, AH.new_next]
  refine c31 g2 ⟨_, rfl, fun (e, _) h' => Ext h h' ∧ h'.get h.next = CB 0 none 0 0 ∧ ∃ (k : Int) (sl : Sl) (w : Int) (l : List Sp), h'.get (h.next + 2) = CB k sl.1 sl.len w ∧ NL h' (h.next + 3) sl l ∧ (if e = 0 then dec s = (k, l, w, 0) else dec s = (0, [], 0, e)), ⟨fun h1 => ?_, fun h1 => ⟨_, rc x2 0 1 (by omega), fun h3 => ?_, fun h3 => ⟨_, rc x2 0 1 (by omega), fun h4 => ?_, fun h4 => ?_⟩⟩⟩, ?_⟩
  · have h1 : (rnum (s, 0)).2.2 ≠ 0 := (bne0 _).1 h1
    refine ⟨e2, z2, _, ⟨none, 0⟩, _, [], x2, NL.none _ _, ?_⟩
    rw [if_neg h1, dec, if_pos h1]
  · have h1 : (rnum (s, 0)).2.2 = 0 := (bnef _).1 h1
    have h3 := eq_of_beq h3
    obtain ⟨k, hks, hkr⟩ := rnum_rest s
    have hw : IntKind.i64.wrap ((s.length : Int) - ((rnum (s, 0)).2.1.length : Int)) = ((k : Nat) : Int) := by
      rw [hkr, List.length_drop, show ((s.length : Int) - ((s.length - k : Nat) : Int)) = ((k : Nat) : Int) by omega]; exact wrapN (by omega)
    refine c33 g2 ⟨_, rfl, ?_⟩
    rw [hw, Int.toNat_natCast, List.take_length, ← hkr]
    refine ⟨by omega, by omega, c32 (Nat.lt_of_le_of_lt hsl hs) fun h5 sl e5 nl => ⟨(sl, (ltake (rnum (s, 0)).2.1).2, ()), rfl, _, wrg ((e5.2 (h.next + 2) (by rw [n2]; omega)).trans x2) (by simp) (Nat.zero_le _), ?_⟩⟩
    refine ⟨(e2.trans e5).set (by simp only; omega) _, get_set' ((e5.2 _ (by rw [n2]; omega)).trans z2) (by simp only; omega), _, sl, _, (ltake (rnum (s, 0)).2.1).1, get_set _ _ _, ?_, ?_⟩
    · rw [n2] at nl
      exact nl.same (Nat.le_refl _) fun k hk1 hk2 => get_set' rfl (by simp only; omega)
    · split
      · rename_i h6
        have h6 : (ltake (rnum (s, 0)).2.1).2 = 0 := h6
        rw [dec, if_neg (by rw [h1]; decide), if_pos h3, if_neg (by rw [h6]; decide), h3]
      · rename_i h6
        rw [dec, if_neg (by rw [h1]; decide), if_pos h3, if_pos h6]
  · have h1 : (rnum (s, 0)).2.2 = 0 := (bnef _).1 h1
    have h3 := beq_eq_false_iff_ne.1 h3
    have h4 := eq_of_beq h4
    refine c34 g2 ⟨_, rfl, _, wrg (get_set' x2 (by simp only; omega)) (by simp) (Nat.zero_le _), c35 (get_set' (gset _ _ _ _) (by simp only; omega)) ⟨_, rfl, ?_⟩⟩
    refine ⟨(e2.set (by omega) _).set (by simp only; omega) _, get_set' (get_set' z2 (by omega)) (by simp only; omega), (rnum (s, 0)).1, ⟨none, 0⟩, (rsig (rnum (s, 0)).2).1, [], get_set _ _ _, NL.none _ _, ?_⟩
    split
    · rename_i h6
      rw [dec, if_neg (by rw [h1]; decide), if_neg h3, if_pos h4, if_neg (by rw [h6]; decide), h4]
    · rename_i h6
      rw [dec, if_neg (by rw [h1]; decide), if_neg h3, if_pos h4, if_pos h6]
  · have h1 : (rnum (s, 0)).2.2 = 0 := (bnef _).1 h1
    have h3 := beq_eq_false_iff_ne.1 h3
    have h4 := beq_eq_false_iff_ne.1 h4
    refine ⟨e2, z2, _, ⟨none, 0⟩, _, [], x2, NL.none _ _, ?_⟩
    rw [if_neg (by decide), dec, if_neg (by rw [h1]; decide), if_neg h3, if_neg h4]
  · rintro e h' ⟨e3, z3, k, sl, w, l, x3, nl, hd⟩
    refine ⟨fun h1 => ?_, fun h1 => ?_⟩
    · rw [if_neg ((bne0 _).1 h1)] at hd
      rw [hd] at hk
      exact ⟨_, wrg z3 (by simp) (Nat.zero_le _), (0, ⟨none, 0⟩, 0), rc (k := 0) (a := none) (n := 0) (w := 0) (get_set _ _ _) 0 3 (by omega), hk _ ⟨none, 0⟩ (e3.set (Nat.le_refl _) _) (NL.none _ _)⟩
    · rw [if_pos ((bnef _).1 h1)] at hd
      rw [hd] at hk
      refine ⟨(k, sl, w), rc x3 0 3 (by omega), _, wrg z3 (by simp [encTup]) (Nat.zero_le _), (k, sl, w), rc (k := k) (a := sl.1) (n := sl.len) (w := w) (get_set _ _ _) 0 3 (by omega), hk _ sl (e3.set (Nat.le_refl _) _) ?_⟩
      exact (nl.same (h' := h'.set h.next _) (Nat.le_refl _) fun k hk1 hk2 => get_set' rfl (by omega)).low (by omega)
end
end Go.Lm
