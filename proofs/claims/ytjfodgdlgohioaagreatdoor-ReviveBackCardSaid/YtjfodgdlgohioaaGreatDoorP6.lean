/- Part 6 of the proof: WfB, LmA. By an AI agent. -/
import Derived.Test.YtjfodgdlgohioaaGreatDoorP4
import Derived.Test.YtjfodgdlgohioaaGreatDoorP1
import Derived.Test.YtjfodgdlgohioaaGreatDoorP5
set_option linter.all false
namespace Go.Lm
open Go Go.La Go.RowKit Go.Proofs.Tryz
set_option maxRecDepth 100000
-- (*gossamer/pack.Writer).put
theorem w61 (p0 : Pt) (s1 : Str) (h : AH) (R : AV → AH → Prop) : fnW prog tyt f61 (.seq .leaf (.cond .leaf .leaf)) [(.ptr (some p0)), (.str s1)] h R = (
 (true = true →
  ACall prog (AV.func (Fn.func 120) [] [])
   [AV.ptr (some (Pt.mk p0.b (p0.o + 0))), AV.str s1] h
   fun (v : AV) (h : AH) ↦
   ∃ (x : Int × AV × Unit),
    v = AV.tuple [AV.int IntKind.i64 x.1, x.2.1] ∧ R (AV.tuple []) h) ∧
 (true = false → R (AV.tuple []) h)) := by kernel_rfl
-- gossamer/vari.Put
theorem w62 (x0 : Int) (h : AH) (R : AV → AH → Prop) : fnW prog tyt f62 (.seq .leaf (.seq (.seq .leaf (.cond (.seq .leaf .leaf) .leaf)) (.seq .leaf .leaf))) [(.int .i64 x0)] h R = (
 (Decidable.decide (x0 < (0 : Int)) = true → R (AV.str []) h) ∧
 (Decidable.decide (x0 < (0 : Int)) = false →
  ACall prog (AV.func (Fn.func 121) [] [])
   [AV.int IntKind.u64 (IntKind.u64.wrap x0)] h fun (v : AV) (h : AH) ↦
   ∃ (x : List UInt8), v = AV.str x ∧ R (AV.str x) h)) := by kernel_rfl
-- gossamer/lot.right
theorem w63 (a0 : Option Pt) (n0 : Nat) (h : AH) (R : AV → AH → Prop) : fnW prog tyt f63 (.seq .leaf (.seq .leaf .leaf)) [(.slice a0 n0 9)] h R = (
 ACall prog (AV.func (Fn.func 122) [] [])
 [AV.slice a0 n0 9, AV.func (Fn.func 123) [] []] h fun (v : AV) (h : AH) ↦
 ∃ (x : Bool), v = AV.bool x ∧ R (AV.bool !x) h) := by kernel_rfl
-- gossamer/code.Write
theorem w64 (p0 : Pt) (x1_0 : Int) (x1_1 : Int) (x1_2 : Int) (x1_3 : Int) (s1_4 : Str) (s1_5 : Str) (x1_6 : Int) (x1_7 : Int) (b1_8 : Bool) (h : AH) (R : AV → AH → Prop) : fnW prog tyt f64 (.seq .leaf (.seq (.seq .leaf (.block (.loop [(15, false, [.int .i64])] (.seq .leaf (.seq (.cond .leaf .leaf) (.seq (.block (.seq .leaf .leaf)) .leaf)))))) (.seq .leaf (.seq .leaf (.seq .leaf (.seq .leaf .leaf)))))) [(.ptr (some p0)), (.agg [(.int .i64 x1_0), (.int .i64 x1_1), (.int .i64 x1_2), (.int .i64 x1_3), (.str s1_4), (.str s1_5), (.int .i64 x1_6), (.int .i64 x1_7), (.bool b1_8)])] h R = (
 ∃ (x : Int),
 (h.new
      (AObj.cells false 0 (El.mk 37 true true)
       [AV.int IntKind.i64 x1_0, AV.int IntKind.i64 x1_1, AV.int IntKind.i64 x1_2,
        AV.int IntKind.i64 x1_3, AV.str s1_4, AV.str s1_5,
        AV.int IntKind.i64 x1_6, AV.int IntKind.i64 x1_7, AV.bool b1_8])).rd
    (Pt.mk h.next (0 + 0)) 1 =
   some [AV.int IntKind.i64 x] ∧
  ∃ (x_1 : Int),
   (h.new
        (AObj.cells false 0 (El.mk 37 true true)
         [AV.int IntKind.i64 x1_0, AV.int IntKind.i64 x1_1, AV.int IntKind.i64 x1_2,
          AV.int IntKind.i64 x1_3, AV.str s1_4, AV.str s1_5,
          AV.int IntKind.i64 x1_6, AV.int IntKind.i64 x1_7, AV.bool b1_8])).rd
      (Pt.mk h.next (0 + 1)) 1 =
     some [AV.int IntKind.i64 x_1] ∧
    ∃ (x_2 : Int),
     (h.new
          (AObj.cells false 0 (El.mk 37 true true)
           [AV.int IntKind.i64 x1_0, AV.int IntKind.i64 x1_1,
            AV.int IntKind.i64 x1_2, AV.int IntKind.i64 x1_3, AV.str s1_4,
            AV.str s1_5, AV.int IntKind.i64 x1_6, AV.int IntKind.i64 x1_7,
            AV.bool b1_8])).rd
        (Pt.mk h.next (0 + 2)) 1 =
       some [AV.int IntKind.i64 x_2] ∧
      ∃ (x_3 : Int),
       (h.new
            (AObj.cells false 0 (El.mk 37 true true)
             [AV.int IntKind.i64 x1_0, AV.int IntKind.i64 x1_1,
              AV.int IntKind.i64 x1_2, AV.int IntKind.i64 x1_3, AV.str s1_4,
              AV.str s1_5, AV.int IntKind.i64 x1_6, AV.int IntKind.i64 x1_7,
              AV.bool b1_8])).rd
          (Pt.mk h.next (0 + 3)) 1 =
         some [AV.int IntKind.i64 x_3] ∧
        ∃ (I : Int × Unit → AH → Prop),
         ∃ (μ : Int × Unit → AH → Nat),
          I ((0 : Int), ())
            (h.new
             (AObj.cells false 0 (El.mk 37 true true)
              [AV.int IntKind.i64 x1_0, AV.int IntKind.i64 x1_1,
               AV.int IntKind.i64 x1_2, AV.int IntKind.i64 x1_3, AV.str s1_4,
               AV.str s1_5, AV.int IntKind.i64 x1_6, AV.int IntKind.i64 x1_7,
               AV.bool b1_8])) ∧
           ∀ (x_4 : Int) (h1 : AH),
            I (x_4, ()) h1 →
             (Decidable.decide (x_4 < (4 : Int)) = true →
               (0 : Int) ≤ x_4 ∧
                x_4 < (↑4 : Int) ∧
                 match
                  [AV.int IntKind.i64 x, AV.int IntKind.i64 x_1,
                    AV.int IntKind.i64 x_2,
                    AV.int IntKind.i64 x_3][x_4.toNat * 1]? with
                 | some v =>
                  ACall prog (AV.func (Fn.func 23) [] [])
                   [AV.ptr (some p0), v] h1 fun (v : AV) (h : AH) ↦
                   ∃ (x : Unit),
                    v = AV.tuple [] ∧
                     I (IntKind.i64.wrap (x_4 + (1 : Int)), ()) h ∧
                      μ (IntKind.i64.wrap (x_4 + (1 : Int)), ()) h < μ (x_4, ()) h1
                 | none => False) ∧
              (Decidable.decide (x_4 < (4 : Int)) = false →
               ∃ (x : List UInt8),
                h1.rd (Pt.mk h.next (0 + 4)) 1 =
                  some [AV.str x] ∧
                 ACall prog (AV.func (Fn.func 125) [] [])
                  [AV.ptr (some p0), AV.str x] h1
                  fun (v : AV) (h_1 : AH) ↦
                  ∃ (x : Unit),
                   v = AV.tuple [] ∧
                    ∃ (x : List UInt8),
                     h_1.rd (Pt.mk h.next (0 + 5)) 1 =
                       some [AV.str x] ∧
                      ACall prog
                       (AV.func (Fn.func 125) [] [])
                       [AV.ptr (some p0), AV.str x] h_1
                       fun (v : AV) (h_2 : AH) ↦
                       ∃ (x : Unit),
                        v = AV.tuple [] ∧
                         ∃ (x : Int),
                          h_2.rd (Pt.mk h.next (0 + 6)) 1 =
                            some [AV.int IntKind.i64 x] ∧
                           ACall prog
                            (AV.func (Fn.func 26) [] [])
                            [AV.ptr (some p0), AV.int IntKind.i64 x]
                            h_2 fun (v : AV) (h_3 : AH) ↦
                            ∃ (x : Unit),
                             v = AV.tuple [] ∧
                              ∃ (x : Int),
                               h_3.rd (Pt.mk h.next (0 + 7))
                                  1 =
                                 some [AV.int IntKind.i64 x] ∧
                                ACall prog
                                 (AV.func (Fn.func 26) [] [])
                                 [AV.ptr (some p0),
                                  AV.int IntKind.i64 x]
                                 h_3 fun (v : AV) (h_4 : AH) ↦
                                 ∃ (x : Unit),
                                  v = AV.tuple [] ∧
                                   ∃ (x : Bool),
                                    h_4.rd
                                       (Pt.mk h.next
                                        (0 + 8))
                                       1 =
                                      some [AV.bool x] ∧
                                     ACall prog
                                      (AV.func (Fn.func 126) []
                                       [])
                                      [AV.ptr (some p0),
                                       AV.bool x]
                                      h_4 fun (v : AV) (h : AH) ↦
                                      ∃ (x : Unit),
                                       v = AV.tuple [] ∧
                                        R (AV.tuple []) h)) := by kernel_rfl
-- (*strings.Builder).String
theorem w65 (p0 : Pt) (h : AH) (R : AV → AH → Prop) : fnW prog tyt f65 (.seq .leaf (.seq (.draw [0, 1, 2, 3, 4, 5, 6, 7, 8, 9, 10, 11]) .leaf)) [(.ptr (some p0))] h R = (
 ∃ (x : Sl),
 h.rd (Pt.mk p0.b (p0.o + 1)) 1 = some [AV.slice x.1 x.len 1] ∧
  match AV.slice x.1 x.len 1 with
  | AV.slice none len sz =>
   ∃ (x : Sl),
    h.rd (Pt.mk p0.b (p0.o + 1)) 1 = some [AV.slice x.1 x.len 1] ∧
     (0 : Int) ≤ (↑x.len : Int) ∧
      (↑x.len : Int) ≤ (9223372036854775807 : Int) ∧
       ((↑x.len : Int) = (0 : Int) →
         (∃ (q : Option Pt), AV.ptr none = AV.ptr q) ∧ R (AV.str []) h) ∧
        ((0 : Int) < (↑x.len : Int) → False)
  | AV.slice (some p) n sz =>
   0 < n ∧
    ∃ (x : Sl),
     h.rd (Pt.mk p0.b (p0.o + 1)) 1 = some [AV.slice x.1 x.len 1] ∧
      (0 : Int) ≤ (↑x.len : Int) ∧
       (↑x.len : Int) ≤ (9223372036854775807 : Int) ∧
        ((↑x.len : Int) = (0 : Int) →
          (∃ (q : Option Pt), AV.ptr (some p) = AV.ptr q) ∧ R (AV.str []) h) ∧
         ((0 : Int) < (↑x.len : Int) →
          ∃ (fz : Nat),
           ∃ (el : El),
            ∃ (c : List AV),
             ∃ (s : Str),
              h.2 p.b = some (AObj.cells false fz el c) ∧
               el.cl = true ∧
                el.t = 5 ∧
                 p.o + (↑x.len : Int).toNat ≤ c.length ∧
                  List.take (↑x.len : Int).toNat (List.drop p.o c) = List.map byteC s ∧
                   R (AV.str s)
                    (h.set p.b
                     (some
                      (AObj.cells false (Max.max fz (p.o + (↑x.len : Int).toNat)) el
                       c))))
  | x => False) := by kernel_rfl
-- gossamer/vari.PutSigned
theorem w66 (x0 : Int) (h : AH) (R : AV → AH → Prop) : fnW prog tyt f66 (.seq .leaf (.seq .leaf .leaf)) [(.int .i64 x0)] h R = (
 (0 : Int) ≤ (1 : Int) ∧
 (0 : Int) ≤ (63 : Int) ∧
  ACall prog (AV.func (Fn.func 121) [] [])
   [AV.int IntKind.u64
     (IntKind.u64.wrap
      (↑(BitVec.ofInt IntKind.u64.bits
           (IntKind.u64.wrap
            (IntKind.u64.wrap x0 * (2 : Int) ^ Min.min (Int.toNat (1 : Int)) IntKind.u64.bits)) ^^^
          BitVec.ofInt IntKind.u64.bits
           (IntKind.u64.wrap
            (x0.fdiv ((2 : Int) ^ Min.min (Int.toNat (63 : Int)) IntKind.i64.bits)))).toNat :
       Int))]
   h fun (v : AV) (h : AH) ↦ ∃ (x : List UInt8), v = AV.str x ∧ R (AV.str x) h) := by kernel_rfl
-- gossamer/gossamerref01.Put
theorem w67 (x0 : Int) (h : AH) (R : AV → AH → Prop) : fnW prog tyt f67 (.seq .leaf (.seq (.seq .leaf (.cond (.seq .leaf .leaf) .leaf)) (.seq .leaf .leaf))) [(.int .i64 x0)] h R = (
 (Decidable.decide (x0 < (0 : Int)) = true → R (AV.str []) h) ∧
 (Decidable.decide (x0 < (0 : Int)) = false →
  ACall prog (AV.func (Fn.func 69) [] [])
   [AV.int IntKind.u64 (IntKind.u64.wrap x0)] h fun (v : AV) (h : AH) ↦
   ∃ (x : List UInt8), v = AV.str x ∧ R (AV.str x) h)) := by kernel_rfl
-- gossamer/gossamerref09.Put
theorem w68 (x0_0 : Int) (x0_1 : Int) (x0_2 : Int) (x0_3 : Int) (s0_4 : Str) (s0_5 : Str) (x0_6 : Int) (x0_7 : Int) (b0_8 : Bool) (h : AH) (R : AV → AH → Prop) : fnW prog tyt f68 (.seq .leaf (.seq (.seq .leaf (.seq .leaf (.cond (.seq .leaf .leaf) .leaf))) (.seq .leaf .leaf))) [(.agg [(.int .i64 x0_0), (.int .i64 x0_1), (.int .i64 x0_2), (.int .i64 x0_3), (.str s0_4), (.str s0_5), (.int .i64 x0_6), (.int .i64 x0_7), (.bool b0_8)])] h R = (
 ∃ (x : Int × Int × Int × Int × List UInt8 × List UInt8 × Int × Int × Bool),
 (h.new
      (AObj.cells false 0 (El.mk 37 true true)
       [AV.int IntKind.i64 x0_0, AV.int IntKind.i64 x0_1, AV.int IntKind.i64 x0_2,
        AV.int IntKind.i64 x0_3, AV.str s0_4, AV.str s0_5,
        AV.int IntKind.i64 x0_6, AV.int IntKind.i64 x0_7, AV.bool b0_8])).rd
    (Pt.mk h.next 0) 9 =
   some
    [AV.int IntKind.i64 x.1, AV.int IntKind.i64 x.2.1,
     AV.int IntKind.i64 x.2.2.1, AV.int IntKind.i64 x.2.2.2.1,
     AV.str x.2.2.2.2.1, AV.str x.2.2.2.2.2.1,
     AV.int IntKind.i64 x.2.2.2.2.2.2.1,
     AV.int IntKind.i64 x.2.2.2.2.2.2.2.1,
     AV.bool x.2.2.2.2.2.2.2.2] ∧
  ACall prog (AV.func (Fn.func 78) [] [])
   [AV.agg
     [AV.int IntKind.i64 x.1, AV.int IntKind.i64 x.2.1,
      AV.int IntKind.i64 x.2.2.1, AV.int IntKind.i64 x.2.2.2.1,
      AV.str x.2.2.2.2.1, AV.str x.2.2.2.2.2.1,
      AV.int IntKind.i64 x.2.2.2.2.2.2.1,
      AV.int IntKind.i64 x.2.2.2.2.2.2.2.1,
      AV.bool x.2.2.2.2.2.2.2.2]]
   (h.new
    (AObj.cells false 0 (El.mk 37 true true)
     [AV.int IntKind.i64 x0_0, AV.int IntKind.i64 x0_1, AV.int IntKind.i64 x0_2,
      AV.int IntKind.i64 x0_3, AV.str s0_4, AV.str s0_5, AV.int IntKind.i64 x0_6,
      AV.int IntKind.i64 x0_7, AV.bool b0_8]))
   fun (v : AV) (h_1 : AH) ↦
   ∃ (x : Int),
    v = AV.int IntKind.i64 x ∧
     ((x != (0 : Int)) = true → R (AV.tuple [AV.str [], AV.int IntKind.i64 x]) h_1) ∧
      ((x != (0 : Int)) = false →
       ∃ (x : Int × Int × Int × Int × List UInt8 × List UInt8 × Int × Int × Bool),
        h_1.rd (Pt.mk h.next 0) 9 =
          some
           [AV.int IntKind.i64 x.1, AV.int IntKind.i64 x.2.1,
            AV.int IntKind.i64 x.2.2.1, AV.int IntKind.i64 x.2.2.2.1,
            AV.str x.2.2.2.2.1, AV.str x.2.2.2.2.2.1,
            AV.int IntKind.i64 x.2.2.2.2.2.2.1,
            AV.int IntKind.i64 x.2.2.2.2.2.2.2.1,
            AV.bool x.2.2.2.2.2.2.2.2] ∧
         ACall prog (AV.func (Fn.func 127) [] [])
          [AV.agg
            [AV.int IntKind.i64 x.1, AV.int IntKind.i64 x.2.1,
             AV.int IntKind.i64 x.2.2.1, AV.int IntKind.i64 x.2.2.2.1,
             AV.str x.2.2.2.2.1, AV.str x.2.2.2.2.2.1,
             AV.int IntKind.i64 x.2.2.2.2.2.2.1,
             AV.int IntKind.i64 x.2.2.2.2.2.2.2.1,
             AV.bool x.2.2.2.2.2.2.2.2]]
          h_1 fun (v : AV) (h : AH) ↦
          ∃ (x : List UInt8),
           v = AV.str x ∧ R (AV.tuple [AV.str x, AV.int IntKind.i64 (0 : Int)]) h)) := by kernel_rfl
-- gossamer/gossamerref01.digits
theorem w69 (x0 : Int) (h : AH) (R : AV → AH → Prop) : fnW prog tyt f69 (.seq .leaf (.seq .leaf (.block (.loop [(3, false, [.str]), (0, false, [.int .u64])] (.block (.seq .leaf (.seq .leaf (.seq (.seq .leaf (.cond (.seq .leaf .leaf) .leaf)) .leaf)))))))) [(.int .u64 x0)] h R = (
 ∃ (I : List UInt8 × Int × Unit → AH → Prop),
 ∃ (μ : List UInt8 × Int × Unit → AH → Nat),
  I (#[].toList, x0, ()) h ∧
   ∀ (x : List UInt8) (x_1 : Int) (h1 : AH),
    I (x, x_1, ()) h1 →
     (128 : Int) ≠ (0 : Int) ∧
      (128 : Int) ≠ (0 : Int) ∧
       ((IntKind.u64.wrap (x_1.tdiv (128 : Int)) == (0 : Int)) = true →
         ∃ (s : Str),
          SlAt
            (h1.new
             (AObj.cells false 0 (El.mk 5 false true)
              [AV.int IntKind.u8 (IntKind.u8.wrap (x_1.tmod (128 : Int)))]))
            (some (Pt.mk h1.next 0)) 1 (List.map byteA s) ∧
           x.length + List.length s < 4611686018427387904 ∧
            R (AV.str (x ++ s))
             (h1.new
              (AObj.cells false 0 (El.mk 5 false true)
               [AV.int IntKind.u8 (IntKind.u8.wrap (x_1.tmod (128 : Int)))]))) ∧
        ((IntKind.u64.wrap (x_1.tdiv (128 : Int)) == (0 : Int)) = false →
         ∃ (s : Str),
          SlAt
            (h1.new
             (AObj.cells false 0 (El.mk 5 false true)
              [AV.int IntKind.u8
                (IntKind.u8.wrap (IntKind.u8.wrap (x_1.tmod (128 : Int)) + (128 : Int)))]))
            (some (Pt.mk h1.next 0)) 1 (List.map byteA s) ∧
           x.length + List.length s < 4611686018427387904 ∧
            I (x ++ s, IntKind.u64.wrap (x_1.tdiv (128 : Int)), ())
              (h1.new
               (AObj.cells false 0 (El.mk 5 false true)
                [AV.int IntKind.u8
                  (IntKind.u8.wrap (IntKind.u8.wrap (x_1.tmod (128 : Int)) + (128 : Int)))])) ∧
             μ (x ++ s, IntKind.u64.wrap (x_1.tdiv (128 : Int)), ())
               (h1.new
                (AObj.cells false 0 (El.mk 5 false true)
                 [AV.int IntKind.u8
                   (IntKind.u8.wrap
                    (IntKind.u8.wrap (x_1.tmod (128 : Int)) + (128 : Int)))])) <
              μ (x, x_1, ()) h1)) := by kernel_rfl
-- gossamer/gossamerref01.twice
theorem w70 (x0 : Int) (h : AH) (R : AV → AH → Prop) : fnW prog tyt f70 (.seq .leaf (.seq (.seq .leaf (.cond (.seq .leaf .leaf) .leaf)) (.seq .leaf .leaf))) [(.int .i64 x0)] h R = (
 (Decidable.decide (x0 ≥ (0 : Int)) = true →
  R (AV.int IntKind.u64 (IntKind.u64.wrap ((2 : Int) * IntKind.u64.wrap x0))) h) ∧
 (Decidable.decide (x0 ≥ (0 : Int)) = false →
  R
   (AV.int IntKind.u64
    (IntKind.u64.wrap
     (IntKind.u64.wrap
       ((2 : Int) *
        IntKind.u64.wrap (IntKind.i64.wrap ((0 : Int) - IntKind.i64.wrap (x0 + (1 : Int))))) +
      (1 : Int))))
   h)) := by kernel_rfl
-- (*gossamer/pack.Reader).number
theorem w71 (p0 : Pt) (g1 : AV) (h : AH) (R : AV → AH → Prop) : fnW prog tyt f71 (.seq .leaf (.seq (.seq .leaf (.cond (.seq .leaf .leaf) .leaf)) (.seq .leaf (.seq .leaf (.seq .leaf (.seq .leaf .leaf)))))) [(.ptr (some p0)), g1] h R = (
 ACall prog (AV.func (Fn.func 31) [] []) [AV.ptr (some p0)] h
 fun (v : AV) (h : AH) ↦
 ∃ (x : Int),
  v = AV.int IntKind.i64 x ∧
   match x != (0 : Int) with
   | true =>
    (true = true → R (AV.int IntKind.i64 (0 : Int)) h) ∧
     (true = false →
      ∃ (x : List UInt8),
       h.rd (Pt.mk (p0.add 0).b ((p0.add 0).o + 0)) 1 =
         some [AV.str x] ∧
        ACall prog g1 [AV.str x] h fun (v : AV) (h : AH) ↦
         ∃ (x : Int × Int × Int × Unit),
          v =
            AV.tuple
             [AV.int IntKind.i64 x.1, AV.int IntKind.i64 x.2.1,
              AV.int IntKind.i64 x.2.2.1] ∧
           ACall prog (AV.func (Fn.func 128) [] [])
            [AV.ptr (some p0), AV.int IntKind.i64 x.2.2.1] h
            fun (v : AV) (h : AH) ↦
            ∃ (x_1 : Unit),
             v = AV.tuple [] ∧
              ACall prog (AV.func (Fn.func 129) [] [])
               [AV.ptr (some (Pt.mk p0.b (p0.o + 0))),
                AV.int IntKind.i64 x.2.1]
               h fun (v : AV) (h : AH) ↦
               ∃ (x_2 : List UInt8), v = AV.str x_2 ∧ R (AV.int IntKind.i64 x.1) h)
   | false =>
    (false = true → R (AV.int IntKind.i64 (0 : Int)) h) ∧
     (false = false →
      ∃ (x : List UInt8),
       h.rd (Pt.mk (p0.add 0).b ((p0.add 0).o + 0)) 1 =
         some [AV.str x] ∧
        ACall prog g1 [AV.str x] h fun (v : AV) (h : AH) ↦
         ∃ (x : Int × Int × Int × Unit),
          v =
            AV.tuple
             [AV.int IntKind.i64 x.1, AV.int IntKind.i64 x.2.1,
              AV.int IntKind.i64 x.2.2.1] ∧
           ACall prog (AV.func (Fn.func 128) [] [])
            [AV.ptr (some p0), AV.int IntKind.i64 x.2.2.1] h
            fun (v : AV) (h : AH) ↦
            ∃ (x_1 : Unit),
             v = AV.tuple [] ∧
              ACall prog (AV.func (Fn.func 129) [] [])
               [AV.ptr (some (Pt.mk p0.b (p0.o + 0))),
                AV.int IntKind.i64 x.2.1]
               h fun (v : AV) (h : AH) ↦
               ∃ (x_2 : List UInt8), v = AV.str x_2 ∧ R (AV.int IntKind.i64 x.1) h)) := by kernel_rfl
-- gossamer/vari.Take
theorem w72 (s0 : Str) (h : AH) (R : AV → AH → Prop) : fnW prog tyt f72 (.seq .leaf (.seq .leaf (.seq .leaf .leaf))) [(.str s0)] h R = (
 ACall prog (AV.func (Fn.func 130) [] [])
 [AV.str s0, AV.int IntKind.i64 (9 : Int)] h fun (v : AV) (h : AH) ↦
 ∃ (x : Int × Int × Int × Unit),
  v =
    AV.tuple
     [AV.int IntKind.u64 x.1, AV.int IntKind.i64 x.2.1,
      AV.int IntKind.i64 x.2.2.1] ∧
   R
    (AV.tuple
     [AV.int IntKind.i64 (IntKind.i64.wrap x.1), AV.int IntKind.i64 x.2.1,
      AV.int IntKind.i64 x.2.2.1])
    h) := by kernel_rfl
-- gossamer/code.Read
theorem w73 (p0 : Pt) (h : AH) (R : AV → AH → Prop) : fnW prog tyt f73 (.seq .leaf (.seq .leaf (.seq (.seq .leaf (.block (.loop [(11, false, [.int .i64])] (.seq .leaf (.seq (.cond .leaf .leaf) (.seq (.block (.seq .leaf .leaf)) .leaf)))))) (.seq .leaf (.seq .leaf (.seq .leaf (.seq .leaf (.seq .leaf (.seq (.seq .leaf (.cond (.seq .leaf .leaf) .leaf)) (.seq .leaf .leaf)))))))))) [(.ptr (some p0))] h R = (
 ∃ (I : Int × Unit → AH → Prop),
 ∃ (μ : Int × Unit → AH → Nat),
  I ((0 : Int), ())
    ((h.new
       (AObj.cells false 0 (El.mk 37 true true)
        [AV.int IntKind.i64 (0 : Int), AV.int IntKind.i64 (0 : Int),
         AV.int IntKind.i64 (0 : Int), AV.int IntKind.i64 (0 : Int), AV.str [],
         AV.str [], AV.int IntKind.i64 (0 : Int), AV.int IntKind.i64 (0 : Int),
         AV.bool false])).new
     (AObj.cells false 0 (El.mk 37 true true)
      [AV.int IntKind.i64 (0 : Int), AV.int IntKind.i64 (0 : Int),
       AV.int IntKind.i64 (0 : Int), AV.int IntKind.i64 (0 : Int), AV.str [],
       AV.str [], AV.int IntKind.i64 (0 : Int), AV.int IntKind.i64 (0 : Int),
       AV.bool false])) ∧
   ∀ (x : Int) (h1 : AH),
    I (x, ()) h1 →
     (Decidable.decide (x < (4 : Int)) = true →
       (0 : Int) ≤ x ∧
        x < (↑4 : Int) ∧
         match
          [AV.ptr (some (Pt.mk (h.next + 1) (0 + 0))),
            AV.ptr (some (Pt.mk (h.next + 1) (0 + 1))),
            AV.ptr (some (Pt.mk (h.next + 1) (0 + 2))),
            AV.ptr
             (some
              (Pt.mk (h.next + 1) (0 + 3)))][x.toNat * 1]? with
         | some v =>
          ACall prog (AV.func (Fn.func 30) [] [])
           [AV.ptr (some p0)] h1 fun (v_1 : AV) (h : AH) ↦
           ∃ (x_1 : Int),
            v_1 = AV.int IntKind.i64 x_1 ∧
             match v with
             | AV.ptr q =>
              match q with
              | some a =>
               ∃ (h' : AH),
                h.wr a [AV.int IntKind.i64 x_1] = some h' ∧
                 I (IntKind.i64.wrap (x + (1 : Int)), ()) h' ∧
                  μ (IntKind.i64.wrap (x + (1 : Int)), ()) h' < μ (x, ()) h1
              | none => False
             | AV.anyptr => False
             | AV.func fn l1 l2 =>
              match fn with
              | Fn.func f => False
              | x => False
             | x => False
         | none => False) ∧
      (Decidable.decide (x < (4 : Int)) = false →
       ACall prog (AV.func (Fn.func 131) [] [])
        [AV.ptr (some p0), AV.int IntKind.i64 (24 : Int)] h1
        fun (v : AV) (h_1 : AH) ↦
        ∃ (x : List UInt8),
         v = AV.str x ∧
          ∃ (h' : AH),
           h_1.wr ((Pt.mk (h.next + 1) 0).add 4) [AV.str x] =
             some h' ∧
            ACall prog (AV.func (Fn.func 131) [] [])
             [AV.ptr (some p0), AV.int IntKind.i64 (24 : Int)] h'
             fun (v : AV) (h_2 : AH) ↦
             ∃ (x : List UInt8),
              v = AV.str x ∧
               ∃ (h' : AH),
                h_2.wr ((Pt.mk (h.next + 1) 0).add 5) [AV.str x] =
                  some h' ∧
                 ACall prog (AV.func (Fn.func 34) [] [])
                  [AV.ptr (some p0)] h' fun (v : AV) (h_3 : AH) ↦
                  ∃ (x : Int),
                   v = AV.int IntKind.i64 x ∧
                    ∃ (h' : AH),
                     h_3.wr ((Pt.mk (h.next + 1) 0).add 6)
                        [AV.int IntKind.i64 x] =
                       some h' ∧
                      ACall prog
                       (AV.func (Fn.func 34) [] [])
                       [AV.ptr (some p0)] h' fun (v : AV) (h_4 : AH) ↦
                       ∃ (x : Int),
                        v = AV.int IntKind.i64 x ∧
                         ∃ (h' : AH),
                          h_4.wr ((Pt.mk (h.next + 1) 0).add 7)
                             [AV.int IntKind.i64 x] =
                            some h' ∧
                           ACall prog
                            (AV.func (Fn.func 132) [] [])
                            [AV.ptr (some p0)] h'
                            fun (v : AV) (h_5 : AH) ↦
                            ∃ (x : Bool),
                             v = AV.bool x ∧
                              ∃ (h' : AH),
                               h_5.wr
                                  ((Pt.mk (h.next + 1) 0).add
                                   8)
                                  [AV.bool x] =
                                 some h' ∧
                                ACall prog
                                 (AV.func (Fn.func 31) [] [])
                                 [AV.ptr (some p0)] h'
                                 fun (v : AV) (h_6 : AH) ↦
                                 ∃ (x : Int),
                                  v = AV.int IntKind.i64 x ∧
                                   ((x != (0 : Int)) = true →
                                     ∃ (h' : AH),
                                      h_6.wr (Pt.mk h.next 0)
                                         [AV.int IntKind.i64
                                           (0 : Int),
                                          AV.int IntKind.i64
                                           (0 : Int),
                                          AV.int IntKind.i64
                                           (0 : Int),
                                          AV.int IntKind.i64
                                           (0 : Int),
                                          AV.str [], AV.str [],
                                          AV.int IntKind.i64
                                           (0 : Int),
                                          AV.int IntKind.i64
                                           (0 : Int),
                                          AV.bool false] =
                                        some h' ∧
                                       ∃ (x :
                                        Int ×
                                         Int ×
                                          Int ×
                                           Int ×
                                            List UInt8 ×
                                             List UInt8 ×
                                              Int × Int × Bool),
                                        h'.rd (Pt.mk h.next 0)
                                           9 =
                                          some
                                           [AV.int IntKind.i64
                                             x.1,
                                            AV.int IntKind.i64
                                             x.2.1,
                                            AV.int IntKind.i64
                                             x.2.2.1,
                                            AV.int IntKind.i64
                                             x.2.2.2.1,
                                            AV.str
                                             x.2.2.2.2.1,
                                            AV.str
                                             x.2.2.2.2.2.1,
                                            AV.int IntKind.i64
                                             x.2.2.2.2.2.2.1,
                                            AV.int IntKind.i64
                                             x.2.2.2.2.2.2.2.1,
                                            AV.bool
                                             x.2.2.2.2.2.2.2.2] ∧
                                         R
                                          (AV.agg
                                           [AV.int IntKind.i64
                                             x.1,
                                            AV.int IntKind.i64
                                             x.2.1,
                                            AV.int IntKind.i64
                                             x.2.2.1,
                                            AV.int IntKind.i64
                                             x.2.2.2.1,
                                            AV.str
                                             x.2.2.2.2.1,
                                            AV.str
                                             x.2.2.2.2.2.1,
                                            AV.int IntKind.i64
                                             x.2.2.2.2.2.2.1,
                                            AV.int IntKind.i64
                                             x.2.2.2.2.2.2.2.1,
                                            AV.bool
                                             x.2.2.2.2.2.2.2.2])
                                          h') ∧
                                    ((x != (0 : Int)) = false →
                                     ∃ (x :
                                      Int ×
                                       Int ×
                                        Int ×
                                         Int ×
                                          List UInt8 ×
                                           List UInt8 × Int × Int × Bool),
                                      h_6.rd
                                         (Pt.mk (h.next + 1)
                                          0)
                                         9 =
                                        some
                                         [AV.int IntKind.i64 x.1,
                                          AV.int IntKind.i64
                                           x.2.1,
                                          AV.int IntKind.i64
                                           x.2.2.1,
                                          AV.int IntKind.i64
                                           x.2.2.2.1,
                                          AV.str x.2.2.2.2.1,
                                          AV.str
                                           x.2.2.2.2.2.1,
                                          AV.int IntKind.i64
                                           x.2.2.2.2.2.2.1,
                                          AV.int IntKind.i64
                                           x.2.2.2.2.2.2.2.1,
                                          AV.bool
                                           x.2.2.2.2.2.2.2.2] ∧
                                       ∃ (h' : AH),
                                        h_6.wr (Pt.mk h.next 0)
                                           (encTup
                                            [K1.int IntKind.i64,
                                             K1.int IntKind.i64,
                                             K1.int IntKind.i64,
                                             K1.int IntKind.i64,
                                             K1.str, K1.str,
                                             K1.int IntKind.i64,
                                             K1.int IntKind.i64,
                                             K1.bool]
                                            x) =
                                          some h' ∧
                                         ∃ (x :
                                          Int ×
                                           Int ×
                                            Int ×
                                             Int ×
                                              List UInt8 ×
                                               List UInt8 ×
                                                Int × Int × Bool),
                                          h'.rd (Pt.mk h.next 0)
                                             9 =
                                            some
                                             [AV.int IntKind.i64
                                               x.1,
                                              AV.int IntKind.i64
                                               x.2.1,
                                              AV.int IntKind.i64
                                               x.2.2.1,
                                              AV.int IntKind.i64
                                               x.2.2.2.1,
                                              AV.str
                                               x.2.2.2.2.1,
                                              AV.str
                                               x.2.2.2.2.2.1,
                                              AV.int IntKind.i64
                                               x.2.2.2.2.2.2.1,
                                              AV.int IntKind.i64
                                               x.2.2.2.2.2.2.2.1,
                                              AV.bool
                                               x.2.2.2.2.2.2.2.2] ∧
                                           R
                                            (AV.agg
                                             [AV.int IntKind.i64
                                               x.1,
                                              AV.int IntKind.i64
                                               x.2.1,
                                              AV.int IntKind.i64
                                               x.2.2.1,
                                              AV.int IntKind.i64
                                               x.2.2.2.1,
                                              AV.str
                                               x.2.2.2.2.1,
                                              AV.str
                                               x.2.2.2.2.2.1,
                                              AV.int IntKind.i64
                                               x.2.2.2.2.2.2.1,
                                              AV.int IntKind.i64
                                               x.2.2.2.2.2.2.2.1,
                                              AV.bool
                                               x.2.2.2.2.2.2.2.2])
                                            h'))) := by kernel_rfl
-- gossamer/vari.TakeSigned
theorem w74 (s0 : Str) (h : AH) (R : AV → AH → Prop) : fnW prog tyt f74 (.seq .leaf (.seq .leaf (.seq .leaf .leaf))) [(.str s0)] h R = (
 ACall prog (AV.func (Fn.func 130) [] [])
 [AV.str s0, AV.int IntKind.i64 (10 : Int)] h fun (v : AV) (h : AH) ↦
 ∃ (x : Int × Int × Int × Unit),
  v =
    AV.tuple
     [AV.int IntKind.u64 x.1, AV.int IntKind.i64 x.2.1,
      AV.int IntKind.i64 x.2.2.1] ∧
   (0 : Int) ≤ (1 : Int) ∧
    R
     (AV.tuple
      [AV.int IntKind.i64
        (IntKind.i64.wrap
         (↑(BitVec.ofInt IntKind.i64.bits
              (IntKind.i64.wrap
               (Int.fdiv x.1 ((2 : Int) ^ Min.min (Int.toNat (1 : Int)) IntKind.u64.bits))) ^^^
             BitVec.ofInt IntKind.i64.bits
              (IntKind.i64.wrap
               ((0 : Int) -
                IntKind.i64.wrap
                 (IntKind.u64.wrap
                  (↑(BitVec.ofInt IntKind.u64.bits x.1 &&&
                      BitVec.ofInt IntKind.u64.bits (1 : Int)).toNat :
                   Int))))).toNat :
          Int)),
       AV.int IntKind.i64 x.2.1, AV.int IntKind.i64 x.2.2.1])
     h) := by kernel_rfl
-- gossamer/gossamerref01.Take
theorem w75 (s0 : Str) (h : AH) (R : AV → AH → Prop) : fnW prog tyt f75 (.seq .leaf (.seq .leaf (.seq (.seq .leaf (.cond (.seq .leaf .leaf) .leaf)) (.seq (.seq .leaf (.cond (.seq .leaf .leaf) .leaf)) (.seq .leaf .leaf))))) [(.str s0)] h R = (
 ACall prog (AV.func (Fn.func 133) [] [])
 [AV.str s0, AV.int IntKind.i64 (9 : Int)] h fun (v : AV) (h : AH) ↦
 ∃ (x : Int),
  v = AV.int IntKind.i64 x ∧
   match Decidable.decide (x < (0 : Int)) with
   | true =>
    match bif true then Decidable.decide ((↑(List.length s0) : Int) ≥ (9 : Int)) else false with
    | true =>
     (true = true →
       R
        (AV.tuple
         [AV.int IntKind.i64 (0 : Int), AV.int IntKind.i64 (0 : Int),
          AV.int IntKind.i64 (2 : Int)])
        h) ∧
      (true = false →
       (Decidable.decide (x < (0 : Int)) = true →
         R
          (AV.tuple
           [AV.int IntKind.i64 (0 : Int), AV.int IntKind.i64 (0 : Int),
            AV.int IntKind.i64 (3 : Int)])
          h) ∧
        (Decidable.decide (x < (0 : Int)) = false →
         (0 : Int) ≤ IntKind.i64.wrap (x + (1 : Int)) ∧
          IntKind.i64.wrap (x + (1 : Int)) ≤ (↑(List.length s0) : Int) ∧
           ACall prog (AV.func (Fn.func 134) [] [])
            [AV.str (List.drop 0 (List.take (IntKind.i64.wrap (x + (1 : Int))).toNat s0))]
            h fun (v : AV) (h : AH) ↦
            ∃ (x_1 : Int),
             v = AV.int IntKind.u64 x_1 ∧
              R
               (AV.tuple
                [AV.int IntKind.i64 (IntKind.i64.wrap x_1),
                 AV.int IntKind.i64 (IntKind.i64.wrap (x + (1 : Int))),
                 AV.int IntKind.i64 (0 : Int)])
               h))
    | false =>
     match Decidable.decide (x > (0 : Int)) with
     | true =>
      (0 : Int) ≤ x ∧
       x < (↑(List.length s0) : Int) ∧
        ((bif false then true
           else
            bif true then (↑(List.getD s0 x.toNat (0 : UInt8)).toNat : Int) == (0 : Int)
            else false) =
           true →
          R
           (AV.tuple
            [AV.int IntKind.i64 (0 : Int), AV.int IntKind.i64 (0 : Int),
             AV.int IntKind.i64 (2 : Int)])
           h) ∧
         ((bif false then true
           else
            bif true then (↑(List.getD s0 x.toNat (0 : UInt8)).toNat : Int) == (0 : Int)
            else false) =
           false →
          (Decidable.decide (x < (0 : Int)) = true →
            R
             (AV.tuple
              [AV.int IntKind.i64 (0 : Int), AV.int IntKind.i64 (0 : Int),
               AV.int IntKind.i64 (3 : Int)])
             h) ∧
           (Decidable.decide (x < (0 : Int)) = false →
            (0 : Int) ≤ IntKind.i64.wrap (x + (1 : Int)) ∧
             IntKind.i64.wrap (x + (1 : Int)) ≤ (↑(List.length s0) : Int) ∧
              ACall prog (AV.func (Fn.func 134) [] [])
               [AV.str
                 (List.drop 0 (List.take (IntKind.i64.wrap (x + (1 : Int))).toNat s0))]
               h fun (v : AV) (h : AH) ↦
               ∃ (x_1 : Int),
                v = AV.int IntKind.u64 x_1 ∧
                 R
                  (AV.tuple
                   [AV.int IntKind.i64 (IntKind.i64.wrap x_1),
                    AV.int IntKind.i64 (IntKind.i64.wrap (x + (1 : Int))),
                    AV.int IntKind.i64 (0 : Int)])
                  h))
     | false =>
      (false = true →
        R
         (AV.tuple
          [AV.int IntKind.i64 (0 : Int), AV.int IntKind.i64 (0 : Int),
           AV.int IntKind.i64 (2 : Int)])
         h) ∧
       (false = false →
        (Decidable.decide (x < (0 : Int)) = true →
          R
           (AV.tuple
            [AV.int IntKind.i64 (0 : Int), AV.int IntKind.i64 (0 : Int),
             AV.int IntKind.i64 (3 : Int)])
           h) ∧
         (Decidable.decide (x < (0 : Int)) = false →
          (0 : Int) ≤ IntKind.i64.wrap (x + (1 : Int)) ∧
           IntKind.i64.wrap (x + (1 : Int)) ≤ (↑(List.length s0) : Int) ∧
            ACall prog (AV.func (Fn.func 134) [] [])
             [AV.str
               (List.drop 0 (List.take (IntKind.i64.wrap (x + (1 : Int))).toNat s0))]
             h fun (v : AV) (h : AH) ↦
             ∃ (x_1 : Int),
              v = AV.int IntKind.u64 x_1 ∧
               R
                (AV.tuple
                 [AV.int IntKind.i64 (IntKind.i64.wrap x_1),
                  AV.int IntKind.i64 (IntKind.i64.wrap (x + (1 : Int))),
                  AV.int IntKind.i64 (0 : Int)])
                h))
   | false =>
    match Decidable.decide (x > (0 : Int)) with
    | true =>
     (0 : Int) ≤ x ∧
      x < (↑(List.length s0) : Int) ∧
       ((bif false then true
          else
           bif true then (↑(List.getD s0 x.toNat (0 : UInt8)).toNat : Int) == (0 : Int)
           else false) =
          true →
         R
          (AV.tuple
           [AV.int IntKind.i64 (0 : Int), AV.int IntKind.i64 (0 : Int),
            AV.int IntKind.i64 (2 : Int)])
          h) ∧
        ((bif false then true
          else
           bif true then (↑(List.getD s0 x.toNat (0 : UInt8)).toNat : Int) == (0 : Int)
           else false) =
          false →
         (Decidable.decide (x < (0 : Int)) = true →
           R
            (AV.tuple
             [AV.int IntKind.i64 (0 : Int), AV.int IntKind.i64 (0 : Int),
              AV.int IntKind.i64 (3 : Int)])
            h) ∧
          (Decidable.decide (x < (0 : Int)) = false →
           (0 : Int) ≤ IntKind.i64.wrap (x + (1 : Int)) ∧
            IntKind.i64.wrap (x + (1 : Int)) ≤ (↑(List.length s0) : Int) ∧
             ACall prog (AV.func (Fn.func 134) [] [])
              [AV.str
                (List.drop 0 (List.take (IntKind.i64.wrap (x + (1 : Int))).toNat s0))]
              h fun (v : AV) (h : AH) ↦
              ∃ (x_1 : Int),
               v = AV.int IntKind.u64 x_1 ∧
                R
                 (AV.tuple
                  [AV.int IntKind.i64 (IntKind.i64.wrap x_1),
                   AV.int IntKind.i64 (IntKind.i64.wrap (x + (1 : Int))),
                   AV.int IntKind.i64 (0 : Int)])
                 h))
    | false =>
     (false = true →
       R
        (AV.tuple
         [AV.int IntKind.i64 (0 : Int), AV.int IntKind.i64 (0 : Int),
          AV.int IntKind.i64 (2 : Int)])
        h) ∧
      (false = false →
       (Decidable.decide (x < (0 : Int)) = true →
         R
          (AV.tuple
           [AV.int IntKind.i64 (0 : Int), AV.int IntKind.i64 (0 : Int),
            AV.int IntKind.i64 (3 : Int)])
          h) ∧
        (Decidable.decide (x < (0 : Int)) = false →
         (0 : Int) ≤ IntKind.i64.wrap (x + (1 : Int)) ∧
          IntKind.i64.wrap (x + (1 : Int)) ≤ (↑(List.length s0) : Int) ∧
           ACall prog (AV.func (Fn.func 134) [] [])
            [AV.str (List.drop 0 (List.take (IntKind.i64.wrap (x + (1 : Int))).toNat s0))]
            h fun (v : AV) (h : AH) ↦
            ∃ (x_1 : Int),
             v = AV.int IntKind.u64 x_1 ∧
              R
               (AV.tuple
                [AV.int IntKind.i64 (IntKind.i64.wrap x_1),
                 AV.int IntKind.i64 (IntKind.i64.wrap (x + (1 : Int))),
                 AV.int IntKind.i64 (0 : Int)])
               h))) := by kernel_rfl
-- (*gossamer/gossamerref05.Reader).took
theorem w76 (p0 : Pt) (x1 : Int) (x2 : Int) (x3 : Int) (h : AH) (R : AV → AH → Prop) : fnW prog tyt f76 (.seq .leaf (.seq (.seq .leaf (.cond (.seq .leaf .leaf) .leaf)) (.seq (.seq .leaf (.cond (.seq .leaf (.seq .leaf .leaf)) .leaf)) (.seq .leaf (.seq .leaf .leaf))))) [(.ptr (some p0)), (.int .i64 x1), (.int .i64 x2), (.int .i64 x3)] h R = (
 ∃ (x : Int),
 h.rd (Pt.mk p0.b (p0.o + 1)) 1 = some [AV.int IntKind.i64 x] ∧
  ((x != (0 : Int)) = true → R (AV.int IntKind.i64 (0 : Int)) h) ∧
   ((x != (0 : Int)) = false →
    ((x3 != (0 : Int)) = true →
      ∃ (h' : AH),
       h.wr (p0.add 1) [AV.int IntKind.i64 x3] = some h' ∧
        R (AV.int IntKind.i64 (0 : Int)) h') ∧
     ((x3 != (0 : Int)) = false →
      ∃ (x : List UInt8),
       h.rd (Pt.mk p0.b (p0.o + 0)) 1 = some [AV.str x] ∧
        (0 : Int) ≤ x2 ∧
         x2 ≤ (↑x.length : Int) ∧
          ∃ (h' : AH),
           h.wr (p0.add 0) [AV.str (List.drop x2.toNat (List.take x.length x))] =
             some h' ∧
            R (AV.int IntKind.i64 x1) h'))) := by kernel_rfl
-- gossamer/gossamerref09.Read
theorem w77 (p0 : Pt) (h : AH) (R : AV → AH → Prop) : fnW prog tyt f77 (.seq .leaf (.seq .leaf (.seq .leaf (.seq .leaf (.seq .leaf (.seq .leaf (.seq .leaf (.seq .leaf (.seq .leaf (.seq .leaf (.seq (.seq .leaf (.cond (.seq .leaf .leaf) .leaf)) (.seq .leaf .leaf)))))))))))) [(.ptr (some p0))] h R = (
 ACall prog (AV.func (Fn.func 36) [] []) [AV.ptr (some p0)]
 (h.new
  (AObj.cells false 0 (El.mk 37 true true)
   [AV.int IntKind.i64 (0 : Int), AV.int IntKind.i64 (0 : Int),
    AV.int IntKind.i64 (0 : Int), AV.int IntKind.i64 (0 : Int), AV.str [], AV.str [],
    AV.int IntKind.i64 (0 : Int), AV.int IntKind.i64 (0 : Int), AV.bool false]))
 fun (v : AV) (h_1 : AH) ↦
 ∃ (x : Int),
  v = AV.int IntKind.i64 x ∧
   ACall prog (AV.func (Fn.func 36) [] []) [AV.ptr (some p0)] h_1
    fun (v : AV) (h_2 : AH) ↦
    ∃ (x_1 : Int),
     v = AV.int IntKind.i64 x_1 ∧
      ACall prog (AV.func (Fn.func 36) [] [])
       [AV.ptr (some p0)] h_2 fun (v : AV) (h_3 : AH) ↦
       ∃ (x_2 : Int),
        v = AV.int IntKind.i64 x_2 ∧
         ACall prog (AV.func (Fn.func 36) [] [])
          [AV.ptr (some p0)] h_3 fun (v : AV) (h_4 : AH) ↦
          ∃ (x_3 : Int),
           v = AV.int IntKind.i64 x_3 ∧
            ACall prog (AV.func (Fn.func 135) [] [])
             [AV.ptr (some p0), AV.int IntKind.i64 (24 : Int)] h_4
             fun (v : AV) (h_5 : AH) ↦
             ∃ (x_4 : List UInt8),
              v = AV.str x_4 ∧
               ACall prog (AV.func (Fn.func 135) [] [])
                [AV.ptr (some p0), AV.int IntKind.i64 (24 : Int)] h_5
                fun (v : AV) (h_6 : AH) ↦
                ∃ (x_5 : List UInt8),
                 v = AV.str x_5 ∧
                  ACall prog (AV.func (Fn.func 38) [] [])
                   [AV.ptr (some p0)] h_6 fun (v : AV) (h_7 : AH) ↦
                   ∃ (x_6 : Int),
                    v = AV.int IntKind.i64 x_6 ∧
                     ACall prog (AV.func (Fn.func 38) [] [])
                      [AV.ptr (some p0)] h_7 fun (v : AV) (h_8 : AH) ↦
                      ∃ (x_7 : Int),
                       v = AV.int IntKind.i64 x_7 ∧
                        ACall prog
                         (AV.func (Fn.func 136) [] [])
                         [AV.ptr (some p0)] h_8
                         fun (v : AV) (h_9 : AH) ↦
                         ∃ (x_8 : Bool),
                          v = AV.bool x_8 ∧
                           ∃ (x_9 : Int),
                            h_9.rd (Pt.mk p0.b (p0.o + 1)) 1 =
                              some [AV.int IntKind.i64 x_9] ∧
                             ((x_9 != (0 : Int)) = true →
                               ∃ (h' : AH),
                                h_9.wr (Pt.mk h.next 0)
                                   [AV.int IntKind.i64 (0 : Int),
                                    AV.int IntKind.i64 (0 : Int),
                                    AV.int IntKind.i64 (0 : Int),
                                    AV.int IntKind.i64 (0 : Int),
                                    AV.str [], AV.str [],
                                    AV.int IntKind.i64 (0 : Int),
                                    AV.int IntKind.i64 (0 : Int),
                                    AV.bool false] =
                                  some h' ∧
                                 ∃ (x :
                                  Int ×
                                   Int ×
                                    Int ×
                                     Int ×
                                      List UInt8 × List UInt8 × Int × Int × Bool),
                                  h'.rd (Pt.mk h.next 0) 9 =
                                    some
                                     [AV.int IntKind.i64 x.1,
                                      AV.int IntKind.i64 x.2.1,
                                      AV.int IntKind.i64 x.2.2.1,
                                      AV.int IntKind.i64
                                       x.2.2.2.1,
                                      AV.str x.2.2.2.2.1,
                                      AV.str x.2.2.2.2.2.1,
                                      AV.int IntKind.i64
                                       x.2.2.2.2.2.2.1,
                                      AV.int IntKind.i64
                                       x.2.2.2.2.2.2.2.1,
                                      AV.bool
                                       x.2.2.2.2.2.2.2.2] ∧
                                   R
                                    (AV.agg
                                     [AV.int IntKind.i64 x.1,
                                      AV.int IntKind.i64 x.2.1,
                                      AV.int IntKind.i64 x.2.2.1,
                                      AV.int IntKind.i64
                                       x.2.2.2.1,
                                      AV.str x.2.2.2.2.1,
                                      AV.str x.2.2.2.2.2.1,
                                      AV.int IntKind.i64
                                       x.2.2.2.2.2.2.1,
                                      AV.int IntKind.i64
                                       x.2.2.2.2.2.2.2.1,
                                      AV.bool
                                       x.2.2.2.2.2.2.2.2])
                                    h') ∧
                              ((x_9 != (0 : Int)) = false →
                               ∃ (h' : AH),
                                h_9.wr (Pt.mk h.next 0)
                                   [AV.int IntKind.i64 x,
                                    AV.int IntKind.i64 x_1,
                                    AV.int IntKind.i64 x_2,
                                    AV.int IntKind.i64 x_3,
                                    AV.str x_4, AV.str x_5,
                                    AV.int IntKind.i64 x_6,
                                    AV.int IntKind.i64 x_7,
                                    AV.bool x_8] =
                                  some h' ∧
                                 ∃ (x :
                                  Int ×
                                   Int ×
                                    Int ×
                                     Int ×
                                      List UInt8 × List UInt8 × Int × Int × Bool),
                                  h'.rd (Pt.mk h.next 0) 9 =
                                    some
                                     [AV.int IntKind.i64 x.1,
                                      AV.int IntKind.i64 x.2.1,
                                      AV.int IntKind.i64 x.2.2.1,
                                      AV.int IntKind.i64
                                       x.2.2.2.1,
                                      AV.str x.2.2.2.2.1,
                                      AV.str x.2.2.2.2.2.1,
                                      AV.int IntKind.i64
                                       x.2.2.2.2.2.2.1,
                                      AV.int IntKind.i64
                                       x.2.2.2.2.2.2.2.1,
                                      AV.bool
                                       x.2.2.2.2.2.2.2.2] ∧
                                   R
                                    (AV.agg
                                     [AV.int IntKind.i64 x.1,
                                      AV.int IntKind.i64 x.2.1,
                                      AV.int IntKind.i64 x.2.2.1,
                                      AV.int IntKind.i64
                                       x.2.2.2.1,
                                      AV.str x.2.2.2.2.1,
                                      AV.str x.2.2.2.2.2.1,
                                      AV.int IntKind.i64
                                       x.2.2.2.2.2.2.1,
                                      AV.int IntKind.i64
                                       x.2.2.2.2.2.2.2.1,
                                      AV.bool
                                       x.2.2.2.2.2.2.2.2])
                                    h')) := by kernel_rfl
-- gossamer/gossamerref09.May
theorem w78 (x0_0 : Int) (x0_1 : Int) (x0_2 : Int) (x0_3 : Int) (s0_4 : Str) (s0_5 : Str) (x0_6 : Int) (x0_7 : Int) (b0_8 : Bool) (h : AH) (R : AV → AH → Prop) : fnW prog tyt f78 (.seq .leaf (.seq (.seq .leaf (.cond (.seq .leaf .leaf) .leaf)) (.seq .leaf .leaf))) [(.agg [(.int .i64 x0_0), (.int .i64 x0_1), (.int .i64 x0_2), (.int .i64 x0_3), (.str s0_4), (.str s0_5), (.int .i64 x0_6), (.int .i64 x0_7), (.bool b0_8)])] h R = (
 ∃ (x : Int),
 (h.new
      (AObj.cells false 0 (El.mk 37 true true)
       [AV.int IntKind.i64 x0_0, AV.int IntKind.i64 x0_1, AV.int IntKind.i64 x0_2,
        AV.int IntKind.i64 x0_3, AV.str s0_4, AV.str s0_5,
        AV.int IntKind.i64 x0_6, AV.int IntKind.i64 x0_7, AV.bool b0_8])).rd
    (Pt.mk h.next (0 + 0)) 1 =
   some [AV.int IntKind.i64 x] ∧
  match Decidable.decide (x < (1 : Int)) with
  | true =>
   (true = true →
     R (AV.int IntKind.i64 (1 : Int))
      (h.new
       (AObj.cells false 0 (El.mk 37 true true)
        [AV.int IntKind.i64 x0_0, AV.int IntKind.i64 x0_1, AV.int IntKind.i64 x0_2,
         AV.int IntKind.i64 x0_3, AV.str s0_4, AV.str s0_5,
         AV.int IntKind.i64 x0_6, AV.int IntKind.i64 x0_7, AV.bool b0_8]))) ∧
    (true = false →
     R (AV.int IntKind.i64 (0 : Int))
      (h.new
       (AObj.cells false 0 (El.mk 37 true true)
        [AV.int IntKind.i64 x0_0, AV.int IntKind.i64 x0_1, AV.int IntKind.i64 x0_2,
         AV.int IntKind.i64 x0_3, AV.str s0_4, AV.str s0_5,
         AV.int IntKind.i64 x0_6, AV.int IntKind.i64 x0_7, AV.bool b0_8])))
  | false =>
   ∃ (x : Int),
    (h.new
         (AObj.cells false 0 (El.mk 37 true true)
          [AV.int IntKind.i64 x0_0, AV.int IntKind.i64 x0_1,
           AV.int IntKind.i64 x0_2, AV.int IntKind.i64 x0_3, AV.str s0_4,
           AV.str s0_5, AV.int IntKind.i64 x0_6, AV.int IntKind.i64 x0_7,
           AV.bool b0_8])).rd
       (Pt.mk h.next (0 + 1)) 1 =
      some [AV.int IntKind.i64 x] ∧
     match bif false then true else Decidable.decide (x < (1 : Int)) with
     | true =>
      (true = true →
        R (AV.int IntKind.i64 (1 : Int))
         (h.new
          (AObj.cells false 0 (El.mk 37 true true)
           [AV.int IntKind.i64 x0_0, AV.int IntKind.i64 x0_1,
            AV.int IntKind.i64 x0_2, AV.int IntKind.i64 x0_3, AV.str s0_4,
            AV.str s0_5, AV.int IntKind.i64 x0_6, AV.int IntKind.i64 x0_7,
            AV.bool b0_8]))) ∧
       (true = false →
        R (AV.int IntKind.i64 (0 : Int))
         (h.new
          (AObj.cells false 0 (El.mk 37 true true)
           [AV.int IntKind.i64 x0_0, AV.int IntKind.i64 x0_1,
            AV.int IntKind.i64 x0_2, AV.int IntKind.i64 x0_3, AV.str s0_4,
            AV.str s0_5, AV.int IntKind.i64 x0_6, AV.int IntKind.i64 x0_7,
            AV.bool b0_8])))
     | false =>
      ∃ (x : Int),
       (h.new
            (AObj.cells false 0 (El.mk 37 true true)
             [AV.int IntKind.i64 x0_0, AV.int IntKind.i64 x0_1,
              AV.int IntKind.i64 x0_2, AV.int IntKind.i64 x0_3, AV.str s0_4,
              AV.str s0_5, AV.int IntKind.i64 x0_6, AV.int IntKind.i64 x0_7,
              AV.bool b0_8])).rd
          (Pt.mk h.next (0 + 2)) 1 =
         some [AV.int IntKind.i64 x] ∧
        match bif false then true else Decidable.decide (x < (0 : Int)) with
        | true =>
         (true = true →
           R (AV.int IntKind.i64 (1 : Int))
            (h.new
             (AObj.cells false 0 (El.mk 37 true true)
              [AV.int IntKind.i64 x0_0, AV.int IntKind.i64 x0_1,
               AV.int IntKind.i64 x0_2, AV.int IntKind.i64 x0_3, AV.str s0_4,
               AV.str s0_5, AV.int IntKind.i64 x0_6, AV.int IntKind.i64 x0_7,
               AV.bool b0_8]))) ∧
          (true = false →
           R (AV.int IntKind.i64 (0 : Int))
            (h.new
             (AObj.cells false 0 (El.mk 37 true true)
              [AV.int IntKind.i64 x0_0, AV.int IntKind.i64 x0_1,
               AV.int IntKind.i64 x0_2, AV.int IntKind.i64 x0_3, AV.str s0_4,
               AV.str s0_5, AV.int IntKind.i64 x0_6, AV.int IntKind.i64 x0_7,
               AV.bool b0_8])))
        | false =>
         ∃ (x : Int),
          (h.new
               (AObj.cells false 0 (El.mk 37 true true)
                [AV.int IntKind.i64 x0_0, AV.int IntKind.i64 x0_1,
                 AV.int IntKind.i64 x0_2, AV.int IntKind.i64 x0_3, AV.str s0_4,
                 AV.str s0_5, AV.int IntKind.i64 x0_6, AV.int IntKind.i64 x0_7,
                 AV.bool b0_8])).rd
             (Pt.mk h.next (0 + 3)) 1 =
            some [AV.int IntKind.i64 x] ∧
           match bif false then true else Decidable.decide (x < (0 : Int)) with
           | true =>
            (true = true →
              R (AV.int IntKind.i64 (1 : Int))
               (h.new
                (AObj.cells false 0 (El.mk 37 true true)
                 [AV.int IntKind.i64 x0_0, AV.int IntKind.i64 x0_1,
                  AV.int IntKind.i64 x0_2, AV.int IntKind.i64 x0_3,
                  AV.str s0_4, AV.str s0_5, AV.int IntKind.i64 x0_6,
                  AV.int IntKind.i64 x0_7, AV.bool b0_8]))) ∧
             (true = false →
              R (AV.int IntKind.i64 (0 : Int))
               (h.new
                (AObj.cells false 0 (El.mk 37 true true)
                 [AV.int IntKind.i64 x0_0, AV.int IntKind.i64 x0_1,
                  AV.int IntKind.i64 x0_2, AV.int IntKind.i64 x0_3,
                  AV.str s0_4, AV.str s0_5, AV.int IntKind.i64 x0_6,
                  AV.int IntKind.i64 x0_7, AV.bool b0_8])))
           | false =>
            ∃ (x : List UInt8),
             (h.new
                  (AObj.cells false 0 (El.mk 37 true true)
                   [AV.int IntKind.i64 x0_0, AV.int IntKind.i64 x0_1,
                    AV.int IntKind.i64 x0_2, AV.int IntKind.i64 x0_3,
                    AV.str s0_4, AV.str s0_5, AV.int IntKind.i64 x0_6,
                    AV.int IntKind.i64 x0_7, AV.bool b0_8])).rd
                (Pt.mk h.next (0 + 4)) 1 =
               some [AV.str x] ∧
              ACall prog (AV.func (Fn.func 137) [] [])
               [AV.str x]
               (h.new
                (AObj.cells false 0 (El.mk 37 true true)
                 [AV.int IntKind.i64 x0_0, AV.int IntKind.i64 x0_1,
                  AV.int IntKind.i64 x0_2, AV.int IntKind.i64 x0_3,
                  AV.str s0_4, AV.str s0_5, AV.int IntKind.i64 x0_6,
                  AV.int IntKind.i64 x0_7, AV.bool b0_8]))
               fun (v : AV) (h_1 : AH) ↦
               ∃ (x : Bool),
                v = AV.bool x ∧
                 match bif false then true else !x with
                 | true =>
                  (true = true → R (AV.int IntKind.i64 (1 : Int)) h_1) ∧
                   (true = false → R (AV.int IntKind.i64 (0 : Int)) h_1)
                 | false =>
                  ∃ (x : List UInt8),
                   h_1.rd (Pt.mk h.next (0 + 5)) 1 =
                     some [AV.str x] ∧
                    ACall prog (AV.func (Fn.func 137) [] [])
                     [AV.str x] h_1 fun (v : AV) (h_2 : AH) ↦
                     ∃ (x : Bool),
                      v = AV.bool x ∧
                       match bif false then true else !x with
                       | true =>
                        (true = true →
                          R (AV.int IntKind.i64 (1 : Int)) h_2) ∧
                         (true = false →
                          R (AV.int IntKind.i64 (0 : Int)) h_2)
                       | false =>
                        ∃ (x : Int),
                         h_2.rd (Pt.mk h.next (0 + 6)) 1 =
                           some [AV.int IntKind.i64 x] ∧
                          match
                           bif false then true
                           else Decidable.decide (x < (-4611686018427387904 : Int)) with
                          | true =>
                           (true = true →
                             R (AV.int IntKind.i64 (1 : Int)) h_2) ∧
                            (true = false →
                             R (AV.int IntKind.i64 (0 : Int)) h_2)
                          | false =>
                           ∃ (x : Int),
                            h_2.rd (Pt.mk h.next (0 + 6)) 1 =
                              some [AV.int IntKind.i64 x] ∧
                             ((bif false then true
                                else
                                 Decidable.decide (x ≥ (4611686018427387904 : Int))) =
                                true →
                               R (AV.int IntKind.i64 (1 : Int)) h_2) ∧
                              ((bif false then true
                                else
                                 Decidable.decide (x ≥ (4611686018427387904 : Int))) =
                                false →
                               R (AV.int IntKind.i64 (0 : Int)) h_2)) := by kernel_rfl
-- gossamer/gossamerref01.TakeSigned
theorem w79 (s0 : Str) (h : AH) (R : AV → AH → Prop) : fnW prog tyt f79 (.seq .leaf (.seq .leaf (.seq (.seq .leaf (.cond (.seq .leaf .leaf) .leaf)) (.seq (.seq .leaf (.cond (.seq .leaf .leaf) .leaf)) (.seq .leaf (.seq .leaf (.seq (.seq .leaf (.joinC [(7, false, [.int .i64])] .leaf .leaf)) (.seq .leaf .leaf)))))))) [(.str s0)] h R = (
 ACall prog (AV.func (Fn.func 133) [] [])
 [AV.str s0, AV.int IntKind.i64 (10 : Int)] h fun (v : AV) (h : AH) ↦
 ∃ (x : Int),
  v = AV.int IntKind.i64 x ∧
   match Decidable.decide (x < (0 : Int)) with
   | true =>
    match bif true then Decidable.decide ((↑(List.length s0) : Int) ≥ (10 : Int)) else false with
    | true =>
     (true = true →
       R
        (AV.tuple
         [AV.int IntKind.i64 (0 : Int), AV.int IntKind.i64 (0 : Int),
          AV.int IntKind.i64 (2 : Int)])
        h) ∧
      (true = false →
       (Decidable.decide (x < (0 : Int)) = true →
         R
          (AV.tuple
           [AV.int IntKind.i64 (0 : Int), AV.int IntKind.i64 (0 : Int),
            AV.int IntKind.i64 (3 : Int)])
          h) ∧
        (Decidable.decide (x < (0 : Int)) = false →
         (0 : Int) ≤ IntKind.i64.wrap (x + (1 : Int)) ∧
          IntKind.i64.wrap (x + (1 : Int)) ≤ (↑(List.length s0) : Int) ∧
           ACall prog (AV.func (Fn.func 134) [] [])
            [AV.str (List.drop 0 (List.take (IntKind.i64.wrap (x + (1 : Int))).toNat s0))]
            h fun (v : AV) (h : AH) ↦
            ∃ (x_1 : Int),
             v = AV.int IntKind.u64 x_1 ∧
              (2 : Int) ≠ (0 : Int) ∧
               (2 : Int) ≠ (0 : Int) ∧
                ∃ (J : Int × Unit → AH → Prop),
                 ((x_1.tmod (2 : Int) == (1 : Int)) = true →
                   J
                    (IntKind.i64.wrap
                      (IntKind.i64.wrap
                        ((0 : Int) -
                         IntKind.i64.wrap (IntKind.u64.wrap (x_1.tdiv (2 : Int)))) -
                       (1 : Int)),
                     ())
                    h) ∧
                  ((x_1.tmod (2 : Int) == (1 : Int)) = false →
                    J (IntKind.i64.wrap (IntKind.u64.wrap (x_1.tdiv (2 : Int))), ()) h) ∧
                   ∀ (x_2 : Int) (h' : AH),
                    J (x_2, ()) h' →
                     R
                      (AV.tuple
                       [AV.int IntKind.i64 x_2,
                        AV.int IntKind.i64 (IntKind.i64.wrap (x + (1 : Int))),
                        AV.int IntKind.i64 (0 : Int)])
                      h'))
    | false =>
     match Decidable.decide (x > (0 : Int)) with
     | true =>
      (0 : Int) ≤ x ∧
       x < (↑(List.length s0) : Int) ∧
        match
         bif false then true
         else
          bif true then (↑(List.getD s0 x.toNat (0 : UInt8)).toNat : Int) == (0 : Int)
          else false with
        | true =>
         (true = true →
           R
            (AV.tuple
             [AV.int IntKind.i64 (0 : Int), AV.int IntKind.i64 (0 : Int),
              AV.int IntKind.i64 (2 : Int)])
            h) ∧
          (true = false →
           (Decidable.decide (x < (0 : Int)) = true →
             R
              (AV.tuple
               [AV.int IntKind.i64 (0 : Int), AV.int IntKind.i64 (0 : Int),
                AV.int IntKind.i64 (3 : Int)])
              h) ∧
            (Decidable.decide (x < (0 : Int)) = false →
             (0 : Int) ≤ IntKind.i64.wrap (x + (1 : Int)) ∧
              IntKind.i64.wrap (x + (1 : Int)) ≤ (↑(List.length s0) : Int) ∧
               ACall prog (AV.func (Fn.func 134) [] [])
                [AV.str
                  (List.drop 0 (List.take (IntKind.i64.wrap (x + (1 : Int))).toNat s0))]
                h fun (v : AV) (h : AH) ↦
                ∃ (x_1 : Int),
                 v = AV.int IntKind.u64 x_1 ∧
                  (2 : Int) ≠ (0 : Int) ∧
                   (2 : Int) ≠ (0 : Int) ∧
                    ∃ (J : Int × Unit → AH → Prop),
                     ((x_1.tmod (2 : Int) == (1 : Int)) = true →
                       J
                        (IntKind.i64.wrap
                          (IntKind.i64.wrap
                            ((0 : Int) -
                             IntKind.i64.wrap
                              (IntKind.u64.wrap (x_1.tdiv (2 : Int)))) -
                           (1 : Int)),
                         ())
                        h) ∧
                      ((x_1.tmod (2 : Int) == (1 : Int)) = false →
                        J (IntKind.i64.wrap (IntKind.u64.wrap (x_1.tdiv (2 : Int))), ())
                         h) ∧
                       ∀ (x_2 : Int) (h' : AH),
                        J (x_2, ()) h' →
                         R
                          (AV.tuple
                           [AV.int IntKind.i64 x_2,
                            AV.int IntKind.i64
                             (IntKind.i64.wrap (x + (1 : Int))),
                            AV.int IntKind.i64 (0 : Int)])
                          h'))
        | false =>
         match x == (9 : Int) with
         | true =>
          (0 : Int) ≤ x ∧
           x < (↑(List.length s0) : Int) ∧
            ((bif false then true
               else
                bif true then
                 Decidable.decide ((↑(List.getD s0 x.toNat (0 : UInt8)).toNat : Int) > (1 : Int))
                else false) =
               true →
              R
               (AV.tuple
                [AV.int IntKind.i64 (0 : Int), AV.int IntKind.i64 (0 : Int),
                 AV.int IntKind.i64 (2 : Int)])
               h) ∧
             ((bif false then true
               else
                bif true then
                 Decidable.decide ((↑(List.getD s0 x.toNat (0 : UInt8)).toNat : Int) > (1 : Int))
                else false) =
               false →
              (Decidable.decide (x < (0 : Int)) = true →
                R
                 (AV.tuple
                  [AV.int IntKind.i64 (0 : Int), AV.int IntKind.i64 (0 : Int),
                   AV.int IntKind.i64 (3 : Int)])
                 h) ∧
               (Decidable.decide (x < (0 : Int)) = false →
                (0 : Int) ≤ IntKind.i64.wrap (x + (1 : Int)) ∧
                 IntKind.i64.wrap (x + (1 : Int)) ≤ (↑(List.length s0) : Int) ∧
                  ACall prog (AV.func (Fn.func 134) [] [])
                   [AV.str
                     (List.drop 0
                      (List.take (IntKind.i64.wrap (x + (1 : Int))).toNat s0))]
                   h fun (v : AV) (h : AH) ↦
                   ∃ (x_1 : Int),
                    v = AV.int IntKind.u64 x_1 ∧
                     (2 : Int) ≠ (0 : Int) ∧
                      (2 : Int) ≠ (0 : Int) ∧
                       ∃ (J : Int × Unit → AH → Prop),
                        ((x_1.tmod (2 : Int) == (1 : Int)) = true →
                          J
                           (IntKind.i64.wrap
                             (IntKind.i64.wrap
                               ((0 : Int) -
                                IntKind.i64.wrap
                                 (IntKind.u64.wrap (x_1.tdiv (2 : Int)))) -
                              (1 : Int)),
                            ())
                           h) ∧
                         ((x_1.tmod (2 : Int) == (1 : Int)) = false →
                           J
                            (IntKind.i64.wrap (IntKind.u64.wrap (x_1.tdiv (2 : Int))),
                             ())
                            h) ∧
                          ∀ (x_2 : Int) (h' : AH),
                           J (x_2, ()) h' →
                            R
                             (AV.tuple
                              [AV.int IntKind.i64 x_2,
                               AV.int IntKind.i64
                                (IntKind.i64.wrap (x + (1 : Int))),
                               AV.int IntKind.i64 (0 : Int)])
                             h'))
         | false =>
          (false = true →
            R
             (AV.tuple
              [AV.int IntKind.i64 (0 : Int), AV.int IntKind.i64 (0 : Int),
               AV.int IntKind.i64 (2 : Int)])
             h) ∧
           (false = false →
            (Decidable.decide (x < (0 : Int)) = true →
              R
               (AV.tuple
                [AV.int IntKind.i64 (0 : Int), AV.int IntKind.i64 (0 : Int),
                 AV.int IntKind.i64 (3 : Int)])
               h) ∧
             (Decidable.decide (x < (0 : Int)) = false →
              (0 : Int) ≤ IntKind.i64.wrap (x + (1 : Int)) ∧
               IntKind.i64.wrap (x + (1 : Int)) ≤ (↑(List.length s0) : Int) ∧
                ACall prog (AV.func (Fn.func 134) [] [])
                 [AV.str
                   (List.drop 0 (List.take (IntKind.i64.wrap (x + (1 : Int))).toNat s0))]
                 h fun (v : AV) (h : AH) ↦
                 ∃ (x_1 : Int),
                  v = AV.int IntKind.u64 x_1 ∧
                   (2 : Int) ≠ (0 : Int) ∧
                    (2 : Int) ≠ (0 : Int) ∧
                     ∃ (J : Int × Unit → AH → Prop),
                      ((x_1.tmod (2 : Int) == (1 : Int)) = true →
                        J
                         (IntKind.i64.wrap
                           (IntKind.i64.wrap
                             ((0 : Int) -
                              IntKind.i64.wrap
                               (IntKind.u64.wrap (x_1.tdiv (2 : Int)))) -
                            (1 : Int)),
                          ())
                         h) ∧
                       ((x_1.tmod (2 : Int) == (1 : Int)) = false →
                         J (IntKind.i64.wrap (IntKind.u64.wrap (x_1.tdiv (2 : Int))), ())
                          h) ∧
                        ∀ (x_2 : Int) (h' : AH),
                         J (x_2, ()) h' →
                          R
                           (AV.tuple
                            [AV.int IntKind.i64 x_2,
                             AV.int IntKind.i64
                              (IntKind.i64.wrap (x + (1 : Int))),
                             AV.int IntKind.i64 (0 : Int)])
                           h'))
     | false =>
      match x == (9 : Int) with
      | true =>
       (0 : Int) ≤ x ∧
        x < (↑(List.length s0) : Int) ∧
         ((bif false then true
            else
             bif true then
              Decidable.decide ((↑(List.getD s0 x.toNat (0 : UInt8)).toNat : Int) > (1 : Int))
             else false) =
            true →
           R
            (AV.tuple
             [AV.int IntKind.i64 (0 : Int), AV.int IntKind.i64 (0 : Int),
              AV.int IntKind.i64 (2 : Int)])
            h) ∧
          ((bif false then true
            else
             bif true then
              Decidable.decide ((↑(List.getD s0 x.toNat (0 : UInt8)).toNat : Int) > (1 : Int))
             else false) =
            false →
           (Decidable.decide (x < (0 : Int)) = true →
             R
              (AV.tuple
               [AV.int IntKind.i64 (0 : Int), AV.int IntKind.i64 (0 : Int),
                AV.int IntKind.i64 (3 : Int)])
              h) ∧
            (Decidable.decide (x < (0 : Int)) = false →
             (0 : Int) ≤ IntKind.i64.wrap (x + (1 : Int)) ∧
              IntKind.i64.wrap (x + (1 : Int)) ≤ (↑(List.length s0) : Int) ∧
               ACall prog (AV.func (Fn.func 134) [] [])
                [AV.str
                  (List.drop 0 (List.take (IntKind.i64.wrap (x + (1 : Int))).toNat s0))]
                h fun (v : AV) (h : AH) ↦
                ∃ (x_1 : Int),
                 v = AV.int IntKind.u64 x_1 ∧
                  (2 : Int) ≠ (0 : Int) ∧
                   (2 : Int) ≠ (0 : Int) ∧
                    ∃ (J : Int × Unit → AH → Prop),
                     ((x_1.tmod (2 : Int) == (1 : Int)) = true →
                       J
                        (IntKind.i64.wrap
                          (IntKind.i64.wrap
                            ((0 : Int) -
                             IntKind.i64.wrap
                              (IntKind.u64.wrap (x_1.tdiv (2 : Int)))) -
                           (1 : Int)),
                         ())
                        h) ∧
                      ((x_1.tmod (2 : Int) == (1 : Int)) = false →
                        J (IntKind.i64.wrap (IntKind.u64.wrap (x_1.tdiv (2 : Int))), ())
                         h) ∧
                       ∀ (x_2 : Int) (h' : AH),
                        J (x_2, ()) h' →
                         R
                          (AV.tuple
                           [AV.int IntKind.i64 x_2,
                            AV.int IntKind.i64
                             (IntKind.i64.wrap (x + (1 : Int))),
                            AV.int IntKind.i64 (0 : Int)])
                          h'))
      | false =>
       (false = true →
         R
          (AV.tuple
           [AV.int IntKind.i64 (0 : Int), AV.int IntKind.i64 (0 : Int),
            AV.int IntKind.i64 (2 : Int)])
          h) ∧
        (false = false →
         (Decidable.decide (x < (0 : Int)) = true →
           R
            (AV.tuple
             [AV.int IntKind.i64 (0 : Int), AV.int IntKind.i64 (0 : Int),
              AV.int IntKind.i64 (3 : Int)])
            h) ∧
          (Decidable.decide (x < (0 : Int)) = false →
           (0 : Int) ≤ IntKind.i64.wrap (x + (1 : Int)) ∧
            IntKind.i64.wrap (x + (1 : Int)) ≤ (↑(List.length s0) : Int) ∧
             ACall prog (AV.func (Fn.func 134) [] [])
              [AV.str
                (List.drop 0 (List.take (IntKind.i64.wrap (x + (1 : Int))).toNat s0))]
              h fun (v : AV) (h : AH) ↦
              ∃ (x_1 : Int),
               v = AV.int IntKind.u64 x_1 ∧
                (2 : Int) ≠ (0 : Int) ∧
                 (2 : Int) ≠ (0 : Int) ∧
                  ∃ (J : Int × Unit → AH → Prop),
                   ((x_1.tmod (2 : Int) == (1 : Int)) = true →
                     J
                      (IntKind.i64.wrap
                        (IntKind.i64.wrap
                          ((0 : Int) -
                           IntKind.i64.wrap (IntKind.u64.wrap (x_1.tdiv (2 : Int)))) -
                         (1 : Int)),
                       ())
                      h) ∧
                    ((x_1.tmod (2 : Int) == (1 : Int)) = false →
                      J (IntKind.i64.wrap (IntKind.u64.wrap (x_1.tdiv (2 : Int))), ()) h) ∧
                     ∀ (x_2 : Int) (h' : AH),
                      J (x_2, ()) h' →
                       R
                        (AV.tuple
                         [AV.int IntKind.i64 x_2,
                          AV.int IntKind.i64 (IntKind.i64.wrap (x + (1 : Int))),
                          AV.int IntKind.i64 (0 : Int)])
                        h'))
   | false =>
    match Decidable.decide (x > (0 : Int)) with
    | true =>
     (0 : Int) ≤ x ∧
      x < (↑(List.length s0) : Int) ∧
       match
        bif false then true
        else
         bif true then (↑(List.getD s0 x.toNat (0 : UInt8)).toNat : Int) == (0 : Int) else false with
       | true =>
        (true = true →
          R
           (AV.tuple
            [AV.int IntKind.i64 (0 : Int), AV.int IntKind.i64 (0 : Int),
             AV.int IntKind.i64 (2 : Int)])
           h) ∧
         (true = false →
          (Decidable.decide (x < (0 : Int)) = true →
            R
             (AV.tuple
              [AV.int IntKind.i64 (0 : Int), AV.int IntKind.i64 (0 : Int),
               AV.int IntKind.i64 (3 : Int)])
             h) ∧
           (Decidable.decide (x < (0 : Int)) = false →
            (0 : Int) ≤ IntKind.i64.wrap (x + (1 : Int)) ∧
             IntKind.i64.wrap (x + (1 : Int)) ≤ (↑(List.length s0) : Int) ∧
              ACall prog (AV.func (Fn.func 134) [] [])
               [AV.str
                 (List.drop 0 (List.take (IntKind.i64.wrap (x + (1 : Int))).toNat s0))]
               h fun (v : AV) (h : AH) ↦
               ∃ (x_1 : Int),
                v = AV.int IntKind.u64 x_1 ∧
                 (2 : Int) ≠ (0 : Int) ∧
                  (2 : Int) ≠ (0 : Int) ∧
                   ∃ (J : Int × Unit → AH → Prop),
                    ((x_1.tmod (2 : Int) == (1 : Int)) = true →
                      J
                       (IntKind.i64.wrap
                         (IntKind.i64.wrap
                           ((0 : Int) -
                            IntKind.i64.wrap
                             (IntKind.u64.wrap (x_1.tdiv (2 : Int)))) -
                          (1 : Int)),
                        ())
                       h) ∧
                     ((x_1.tmod (2 : Int) == (1 : Int)) = false →
                       J (IntKind.i64.wrap (IntKind.u64.wrap (x_1.tdiv (2 : Int))), ())
                        h) ∧
                      ∀ (x_2 : Int) (h' : AH),
                       J (x_2, ()) h' →
                        R
                         (AV.tuple
                          [AV.int IntKind.i64 x_2,
                           AV.int IntKind.i64 (IntKind.i64.wrap (x + (1 : Int))),
                           AV.int IntKind.i64 (0 : Int)])
                         h'))
       | false =>
        match x == (9 : Int) with
        | true =>
         (0 : Int) ≤ x ∧
          x < (↑(List.length s0) : Int) ∧
           ((bif false then true
              else
               bif true then
                Decidable.decide ((↑(List.getD s0 x.toNat (0 : UInt8)).toNat : Int) > (1 : Int))
               else false) =
              true →
             R
              (AV.tuple
               [AV.int IntKind.i64 (0 : Int), AV.int IntKind.i64 (0 : Int),
                AV.int IntKind.i64 (2 : Int)])
              h) ∧
            ((bif false then true
              else
               bif true then
                Decidable.decide ((↑(List.getD s0 x.toNat (0 : UInt8)).toNat : Int) > (1 : Int))
               else false) =
              false →
             (Decidable.decide (x < (0 : Int)) = true →
               R
                (AV.tuple
                 [AV.int IntKind.i64 (0 : Int), AV.int IntKind.i64 (0 : Int),
                  AV.int IntKind.i64 (3 : Int)])
                h) ∧
              (Decidable.decide (x < (0 : Int)) = false →
               (0 : Int) ≤ IntKind.i64.wrap (x + (1 : Int)) ∧
                IntKind.i64.wrap (x + (1 : Int)) ≤ (↑(List.length s0) : Int) ∧
                 ACall prog (AV.func (Fn.func 134) [] [])
                  [AV.str
                    (List.drop 0
                     (List.take (IntKind.i64.wrap (x + (1 : Int))).toNat s0))]
                  h fun (v : AV) (h : AH) ↦
                  ∃ (x_1 : Int),
                   v = AV.int IntKind.u64 x_1 ∧
                    (2 : Int) ≠ (0 : Int) ∧
                     (2 : Int) ≠ (0 : Int) ∧
                      ∃ (J : Int × Unit → AH → Prop),
                       ((x_1.tmod (2 : Int) == (1 : Int)) = true →
                         J
                          (IntKind.i64.wrap
                            (IntKind.i64.wrap
                              ((0 : Int) -
                               IntKind.i64.wrap
                                (IntKind.u64.wrap (x_1.tdiv (2 : Int)))) -
                             (1 : Int)),
                           ())
                          h) ∧
                        ((x_1.tmod (2 : Int) == (1 : Int)) = false →
                          J
                           (IntKind.i64.wrap (IntKind.u64.wrap (x_1.tdiv (2 : Int))),
                            ())
                           h) ∧
                         ∀ (x_2 : Int) (h' : AH),
                          J (x_2, ()) h' →
                           R
                            (AV.tuple
                             [AV.int IntKind.i64 x_2,
                              AV.int IntKind.i64
                               (IntKind.i64.wrap (x + (1 : Int))),
                              AV.int IntKind.i64 (0 : Int)])
                            h'))
        | false =>
         (false = true →
           R
            (AV.tuple
             [AV.int IntKind.i64 (0 : Int), AV.int IntKind.i64 (0 : Int),
              AV.int IntKind.i64 (2 : Int)])
            h) ∧
          (false = false →
           (Decidable.decide (x < (0 : Int)) = true →
             R
              (AV.tuple
               [AV.int IntKind.i64 (0 : Int), AV.int IntKind.i64 (0 : Int),
                AV.int IntKind.i64 (3 : Int)])
              h) ∧
            (Decidable.decide (x < (0 : Int)) = false →
             (0 : Int) ≤ IntKind.i64.wrap (x + (1 : Int)) ∧
              IntKind.i64.wrap (x + (1 : Int)) ≤ (↑(List.length s0) : Int) ∧
               ACall prog (AV.func (Fn.func 134) [] [])
                [AV.str
                  (List.drop 0 (List.take (IntKind.i64.wrap (x + (1 : Int))).toNat s0))]
                h fun (v : AV) (h : AH) ↦
                ∃ (x_1 : Int),
                 v = AV.int IntKind.u64 x_1 ∧
                  (2 : Int) ≠ (0 : Int) ∧
                   (2 : Int) ≠ (0 : Int) ∧
                    ∃ (J : Int × Unit → AH → Prop),
                     ((x_1.tmod (2 : Int) == (1 : Int)) = true →
                       J
                        (IntKind.i64.wrap
                          (IntKind.i64.wrap
                            ((0 : Int) -
                             IntKind.i64.wrap
                              (IntKind.u64.wrap (x_1.tdiv (2 : Int)))) -
                           (1 : Int)),
                         ())
                        h) ∧
                      ((x_1.tmod (2 : Int) == (1 : Int)) = false →
                        J (IntKind.i64.wrap (IntKind.u64.wrap (x_1.tdiv (2 : Int))), ())
                         h) ∧
                       ∀ (x_2 : Int) (h' : AH),
                        J (x_2, ()) h' →
                         R
                          (AV.tuple
                           [AV.int IntKind.i64 x_2,
                            AV.int IntKind.i64
                             (IntKind.i64.wrap (x + (1 : Int))),
                            AV.int IntKind.i64 (0 : Int)])
                          h'))
    | false =>
     match x == (9 : Int) with
     | true =>
      (0 : Int) ≤ x ∧
       x < (↑(List.length s0) : Int) ∧
        ((bif false then true
           else
            bif true then
             Decidable.decide ((↑(List.getD s0 x.toNat (0 : UInt8)).toNat : Int) > (1 : Int))
            else false) =
           true →
          R
           (AV.tuple
            [AV.int IntKind.i64 (0 : Int), AV.int IntKind.i64 (0 : Int),
             AV.int IntKind.i64 (2 : Int)])
           h) ∧
         ((bif false then true
           else
            bif true then
             Decidable.decide ((↑(List.getD s0 x.toNat (0 : UInt8)).toNat : Int) > (1 : Int))
            else false) =
           false →
          (Decidable.decide (x < (0 : Int)) = true →
            R
             (AV.tuple
              [AV.int IntKind.i64 (0 : Int), AV.int IntKind.i64 (0 : Int),
               AV.int IntKind.i64 (3 : Int)])
             h) ∧
           (Decidable.decide (x < (0 : Int)) = false →
            (0 : Int) ≤ IntKind.i64.wrap (x + (1 : Int)) ∧
             IntKind.i64.wrap (x + (1 : Int)) ≤ (↑(List.length s0) : Int) ∧
              ACall prog (AV.func (Fn.func 134) [] [])
               [AV.str
                 (List.drop 0 (List.take (IntKind.i64.wrap (x + (1 : Int))).toNat s0))]
               h fun (v : AV) (h : AH) ↦
               ∃ (x_1 : Int),
                v = AV.int IntKind.u64 x_1 ∧
                 (2 : Int) ≠ (0 : Int) ∧
                  (2 : Int) ≠ (0 : Int) ∧
                   ∃ (J : Int × Unit → AH → Prop),
                    ((x_1.tmod (2 : Int) == (1 : Int)) = true →
                      J
                       (IntKind.i64.wrap
                         (IntKind.i64.wrap
                           ((0 : Int) -
                            IntKind.i64.wrap
                             (IntKind.u64.wrap (x_1.tdiv (2 : Int)))) -
                          (1 : Int)),
                        ())
                       h) ∧
                     ((x_1.tmod (2 : Int) == (1 : Int)) = false →
                       J (IntKind.i64.wrap (IntKind.u64.wrap (x_1.tdiv (2 : Int))), ())
                        h) ∧
                      ∀ (x_2 : Int) (h' : AH),
                       J (x_2, ()) h' →
                        R
                         (AV.tuple
                          [AV.int IntKind.i64 x_2,
                           AV.int IntKind.i64 (IntKind.i64.wrap (x + (1 : Int))),
                           AV.int IntKind.i64 (0 : Int)])
                         h'))
     | false =>
      (false = true →
        R
         (AV.tuple
          [AV.int IntKind.i64 (0 : Int), AV.int IntKind.i64 (0 : Int),
           AV.int IntKind.i64 (2 : Int)])
         h) ∧
       (false = false →
        (Decidable.decide (x < (0 : Int)) = true →
          R
           (AV.tuple
            [AV.int IntKind.i64 (0 : Int), AV.int IntKind.i64 (0 : Int),
             AV.int IntKind.i64 (3 : Int)])
           h) ∧
         (Decidable.decide (x < (0 : Int)) = false →
          (0 : Int) ≤ IntKind.i64.wrap (x + (1 : Int)) ∧
           IntKind.i64.wrap (x + (1 : Int)) ≤ (↑(List.length s0) : Int) ∧
            ACall prog (AV.func (Fn.func 134) [] [])
             [AV.str
               (List.drop 0 (List.take (IntKind.i64.wrap (x + (1 : Int))).toNat s0))]
             h fun (v : AV) (h : AH) ↦
             ∃ (x_1 : Int),
              v = AV.int IntKind.u64 x_1 ∧
               (2 : Int) ≠ (0 : Int) ∧
                (2 : Int) ≠ (0 : Int) ∧
                 ∃ (J : Int × Unit → AH → Prop),
                  ((x_1.tmod (2 : Int) == (1 : Int)) = true →
                    J
                     (IntKind.i64.wrap
                       (IntKind.i64.wrap
                         ((0 : Int) -
                          IntKind.i64.wrap (IntKind.u64.wrap (x_1.tdiv (2 : Int)))) -
                        (1 : Int)),
                      ())
                     h) ∧
                   ((x_1.tmod (2 : Int) == (1 : Int)) = false →
                     J (IntKind.i64.wrap (IntKind.u64.wrap (x_1.tdiv (2 : Int))), ()) h) ∧
                    ∀ (x_2 : Int) (h' : AH),
                     J (x_2, ()) h' →
                      R
                       (AV.tuple
                        [AV.int IntKind.i64 x_2,
                         AV.int IntKind.i64 (IntKind.i64.wrap (x + (1 : Int))),
                         AV.int IntKind.i64 (0 : Int)])
                       h'))) := by kernel_rfl
-- (*strings.Builder).WriteString
theorem w120 (p0 : Pt) (s1 : Str) (h : AH) (R : AV → AH → Prop) : fnW prog tyt f120 (.seq .leaf (.seq .leaf (.seq .leaf (.seq .leaf .leaf)))) [(.ptr (some p0)), (.str s1)] h R = (
 ACall prog (AV.func (Fn.func 178) [] []) [AV.ptr (some p0)] h
 fun (v : AV) (h : AH) ↦
 ∃ (x : Unit),
  v = AV.tuple [] ∧
   ∃ (x : Sl),
    h.rd (Pt.mk p0.b (p0.o + 1)) 1 = some [AV.slice x.1 x.len 1] ∧
     x.len + List.length s1 < 4294967296 ∧
      match (List.length s1).beq 0 with
      | true =>
       ∃ (h' : AH),
        h.wr (p0.add 1) [AV.slice x.1 x.len 1] = some h' ∧
         R (AV.tuple [AV.int IntKind.i64 (↑(List.length s1) : Int), AV.nilIface]) h'
      | false =>
       match x.1 with
       | none =>
        ∃ (h' : AH),
         (h.new
              (AObj.cells false 0 (El.mk 5 false true)
               (List.map byteA s1))).wr
            (p0.add 1)
            [AV.slice (some (Pt.mk h.next 0)) (List.length s1) 1] =
           some h' ∧
          R (AV.tuple [AV.int IntKind.i64 (↑(List.length s1) : Int), AV.nilIface]) h'
       | some a =>
        ∃ (fz : Nat),
         ∃ (wh : Bool),
          ∃ (cl : Bool),
           ∃ (c : List AV),
            h.2 a.b = some (AObj.cells false fz (El.mk 5 wh cl) c) ∧
             a.o + x.len * 1 ≤ c.length ∧
              fz ≤ a.o + x.len * 1 ∧
               ∃ (h' : AH),
                ((h.set a.b none).new
                     (AObj.cells false (fz - a.o)
                      (El.mk 5 false (cl && a.o.beq 0))
                      ((List.take (x.len * 1) (List.drop a.o c)).append
                       (List.map byteA s1)))).wr
                   (p0.add 1)
                   [AV.slice (some (Pt.mk h.next 0))
                     (x.len + List.length s1) 1] =
                  some h' ∧
                 R
                  (AV.tuple
                   [AV.int IntKind.i64 (↑(List.length s1) : Int), AV.nilIface])
                  h') := by kernel_rfl
-- gossamer/vari.put
theorem w121 (x0 : Int) (h : AH) (R : AV → AH → Prop) : fnW prog tyt f121 (.seq .leaf (.seq .leaf (.seq (.block (.loop [(0, false, [.int .u64]), (3, false, [.slice 1])] (.seq (.seq .leaf (.cond .leaf .leaf)) (.seq (.block .leaf) .leaf)))) (.seq .leaf .leaf)))) [(.int .u64 x0)] h R = (
 ∃ (I : Int × Sl × Unit → AH → Prop),
 ∃ (μ : Int × Sl × Unit → AH → Nat),
  I (x0, Sl.mk none 0, ()) h ∧
   ∀ (x : Int) (x_1 : Sl) (h1 : AH),
    I (x, x_1, ()) h1 →
     (Decidable.decide (x ≥ (128 : Int)) = true →
       ∃ (ys : List AV),
        SlAt
          (h1.new
           (AObj.cells false 0 (El.mk 5 false true)
            [AV.int IntKind.u8
              (IntKind.u8.wrap
               (↑(BitVec.ofInt IntKind.u8.bits (IntKind.u8.wrap x) |||
                   BitVec.ofInt IntKind.u8.bits (128 : Int)).toNat :
                Int))]))
          (some (Pt.mk h1.next 0)) 1 ys ∧
         x_1.len + 1 < 4294967296 ∧
          match x_1.1 with
          | none =>
           (0 : Int) ≤ (7 : Int) ∧
            I
              (x.fdiv ((2 : Int) ^ Min.min (Int.toNat (7 : Int)) IntKind.u64.bits),
               Sl.mk (some (Pt.mk (h1.next + 1) 0)) 1, ())
              ((h1.new
                 (AObj.cells false 0 (El.mk 5 false true)
                  [AV.int IntKind.u8
                    (IntKind.u8.wrap
                     (↑(BitVec.ofInt IntKind.u8.bits (IntKind.u8.wrap x) |||
                         BitVec.ofInt IntKind.u8.bits (128 : Int)).toNat :
                      Int))])).new
               (AObj.cells false 0 (El.mk 5 false true) ys)) ∧
             μ
               (x.fdiv ((2 : Int) ^ Min.min (Int.toNat (7 : Int)) IntKind.u64.bits),
                Sl.mk (some (Pt.mk (h1.next + 1) 0)) 1, ())
               ((h1.new
                  (AObj.cells false 0 (El.mk 5 false true)
                   [AV.int IntKind.u8
                     (IntKind.u8.wrap
                      (↑(BitVec.ofInt IntKind.u8.bits (IntKind.u8.wrap x) |||
                          BitVec.ofInt IntKind.u8.bits (128 : Int)).toNat :
                       Int))])).new
                (AObj.cells false 0 (El.mk 5 false true)
                 ys)) <
              μ (x, x_1, ()) h1
          | some a =>
           ∃ (fz : Nat),
            ∃ (wh : Bool),
             ∃ (cl : Bool),
              ∃ (c : List AV),
               (h1.new
                    (AObj.cells false 0
                     (El.mk 5 false true)
                     [AV.int IntKind.u8
                       (IntKind.u8.wrap
                        (↑(BitVec.ofInt IntKind.u8.bits (IntKind.u8.wrap x) |||
                            BitVec.ofInt IntKind.u8.bits (128 : Int)).toNat :
                         Int))])).2
                  a.b =
                 some (AObj.cells false fz (El.mk 5 wh cl) c) ∧
                a.o + x_1.len * 1 ≤ c.length ∧
                 fz ≤ a.o + x_1.len * 1 ∧
                  (0 : Int) ≤ (7 : Int) ∧
                   I
                     (x.fdiv ((2 : Int) ^ Min.min (Int.toNat (7 : Int)) IntKind.u64.bits),
                      Sl.mk (some (Pt.mk (h1.next + 1) 0))
                       (x_1.len + 1),
                      ())
                     (((h1.new
                          (AObj.cells false 0
                           (El.mk 5 false true)
                           [AV.int IntKind.u8
                             (IntKind.u8.wrap
                              (↑(BitVec.ofInt IntKind.u8.bits
                                   (IntKind.u8.wrap x) |||
                                  BitVec.ofInt IntKind.u8.bits (128 : Int)).toNat :
                               Int))])).set
                        a.b none).new
                      (AObj.cells false (fz - a.o)
                       (El.mk 5 false (cl && a.o.beq 0))
                       ((List.take (x_1.len * 1) (List.drop a.o c)).append ys))) ∧
                    μ
                      (x.fdiv ((2 : Int) ^ Min.min (Int.toNat (7 : Int)) IntKind.u64.bits),
                       Sl.mk (some (Pt.mk (h1.next + 1) 0))
                        (x_1.len + 1),
                       ())
                      (((h1.new
                           (AObj.cells false 0
                            (El.mk 5 false true)
                            [AV.int IntKind.u8
                              (IntKind.u8.wrap
                               (↑(BitVec.ofInt IntKind.u8.bits
                                    (IntKind.u8.wrap x) |||
                                   BitVec.ofInt IntKind.u8.bits
                                    (128 : Int)).toNat :
                                Int))])).set
                         a.b none).new
                       (AObj.cells false (fz - a.o)
                        (El.mk 5 false (cl && a.o.beq 0))
                        ((List.take (x_1.len * 1) (List.drop a.o c)).append ys))) <
                     μ (x, x_1, ()) h1) ∧
      (Decidable.decide (x ≥ (128 : Int)) = false →
       ∃ (ys : List AV),
        SlAt
          (h1.new
           (AObj.cells false 0 (El.mk 5 false true)
            [AV.int IntKind.u8 (IntKind.u8.wrap x)]))
          (some (Pt.mk h1.next 0)) 1 ys ∧
         x_1.len + 1 < 4294967296 ∧
          match x_1.1 with
          | none =>
           ∃ (s : Str),
            SlAt
              ((h1.new
                 (AObj.cells false 0 (El.mk 5 false true)
                  [AV.int IntKind.u8 (IntKind.u8.wrap x)])).new
               (AObj.cells false 0 (El.mk 5 false true) ys))
              (some (Pt.mk (h1.next + 1) 0)) 1
              (List.map byteA s) ∧
             R (AV.str s)
              ((h1.new
                 (AObj.cells false 0 (El.mk 5 false true)
                  [AV.int IntKind.u8 (IntKind.u8.wrap x)])).new
               (AObj.cells false 0 (El.mk 5 false true) ys))
          | some a =>
           ∃ (fz : Nat),
            ∃ (wh : Bool),
             ∃ (cl : Bool),
              ∃ (c : List AV),
               (h1.new
                    (AObj.cells false 0
                     (El.mk 5 false true)
                     [AV.int IntKind.u8 (IntKind.u8.wrap x)])).2
                  a.b =
                 some (AObj.cells false fz (El.mk 5 wh cl) c) ∧
                a.o + x_1.len * 1 ≤ c.length ∧
                 fz ≤ a.o + x_1.len * 1 ∧
                  ∃ (s : Str),
                   SlAt
                     (((h1.new
                          (AObj.cells false 0
                           (El.mk 5 false true)
                           [AV.int IntKind.u8 (IntKind.u8.wrap x)])).set
                        a.b none).new
                      (AObj.cells false (fz - a.o)
                       (El.mk 5 false (cl && a.o.beq 0))
                       ((List.take (x_1.len * 1) (List.drop a.o c)).append ys)))
                     (some (Pt.mk (h1.next + 1) 0))
                     (x_1.len + 1) (List.map byteA s) ∧
                    R (AV.str s)
                     (((h1.new
                          (AObj.cells false 0
                           (El.mk 5 false true)
                           [AV.int IntKind.u8 (IntKind.u8.wrap x)])).set
                        a.b none).new
                      (AObj.cells false (fz - a.o)
                       (El.mk 5 false (cl && a.o.beq 0))
                       ((List.take (x_1.len * 1) (List.drop a.o c)).append ys))))) := by kernel_rfl
-- gossamer/lot.right$1
theorem w123 (x0_0 : Int) (x0_1 : Int) (x0_2 : Int) (x0_3 : Int) (s0_4 : Str) (s0_5 : Str) (x0_6 : Int) (x0_7 : Int) (b0_8 : Bool) (h : AH) (R : AV → AH → Prop) : fnW prog tyt f123 (.seq .leaf (.seq .leaf .leaf)) [(.agg [(.int .i64 x0_0), (.int .i64 x0_1), (.int .i64 x0_2), (.int .i64 x0_3), (.str s0_4), (.str s0_5), (.int .i64 x0_6), (.int .i64 x0_7), (.bool b0_8)])] h R = (
 ∃ (x : Int × Int × Int × Int × List UInt8 × List UInt8 × Int × Int × Bool),
 (h.new
      (AObj.cells false 0 (El.mk 37 true true)
       [AV.int IntKind.i64 x0_0, AV.int IntKind.i64 x0_1, AV.int IntKind.i64 x0_2,
        AV.int IntKind.i64 x0_3, AV.str s0_4, AV.str s0_5,
        AV.int IntKind.i64 x0_6, AV.int IntKind.i64 x0_7, AV.bool b0_8])).rd
    (Pt.mk h.next 0) 9 =
   some
    [AV.int IntKind.i64 x.1, AV.int IntKind.i64 x.2.1,
     AV.int IntKind.i64 x.2.2.1, AV.int IntKind.i64 x.2.2.2.1,
     AV.str x.2.2.2.2.1, AV.str x.2.2.2.2.2.1,
     AV.int IntKind.i64 x.2.2.2.2.2.2.1,
     AV.int IntKind.i64 x.2.2.2.2.2.2.2.1,
     AV.bool x.2.2.2.2.2.2.2.2] ∧
  ACall prog (AV.func (Fn.func 124) [] [])
   [AV.agg
     [AV.int IntKind.i64 x.1, AV.int IntKind.i64 x.2.1,
      AV.int IntKind.i64 x.2.2.1, AV.int IntKind.i64 x.2.2.2.1,
      AV.str x.2.2.2.2.1, AV.str x.2.2.2.2.2.1,
      AV.int IntKind.i64 x.2.2.2.2.2.2.1,
      AV.int IntKind.i64 x.2.2.2.2.2.2.2.1,
      AV.bool x.2.2.2.2.2.2.2.2]]
   (h.new
    (AObj.cells false 0 (El.mk 37 true true)
     [AV.int IntKind.i64 x0_0, AV.int IntKind.i64 x0_1, AV.int IntKind.i64 x0_2,
      AV.int IntKind.i64 x0_3, AV.str s0_4, AV.str s0_5, AV.int IntKind.i64 x0_6,
      AV.int IntKind.i64 x0_7, AV.bool b0_8]))
   fun (v : AV) (h : AH) ↦
   ∃ (x : Int), v = AV.int IntKind.i64 x ∧ R (AV.bool (x != (0 : Int))) h) := by kernel_rfl
-- (*gossamer/pack.Writer).Text
theorem w125 (p0 : Pt) (s1 : Str) (h : AH) (R : AV → AH → Prop) : fnW prog tyt f125 .leaf [(.ptr (some p0)), (.str s1)] h R = (
 ACall prog (AV.func (Fn.func 62) [] [])
 [AV.int IntKind.i64 (↑(List.length s1) : Int)] h fun (v : AV) (h : AH) ↦
 ∃ (x : List UInt8),
  v = AV.str x ∧
   x.length + List.length s1 < 4611686018427387904 ∧
    ACall prog (AV.func (Fn.func 61) [] [])
     [AV.ptr (some p0), AV.str (x ++ s1)] h fun (v : AV) (h : AH) ↦
     ∃ (x : Unit), v = AV.tuple [] ∧ R (AV.tuple []) h) := by kernel_rfl
-- (*gossamer/pack.Writer).Flag
theorem w126 (p0 : Pt) (b1 : Bool) (h : AH) (R : AV → AH → Prop) : fnW prog tyt f126 (.seq .leaf (.cond .leaf .leaf)) [(.ptr (some p0)), (.bool b1)] h R = (
 (b1 = true →
  ACall prog (AV.func (Fn.func 61) [] [])
   [AV.ptr (some p0), AV.str [(1 : UInt8)]] h fun (v : AV) (h : AH) ↦
   ∃ (x : Unit), v = AV.tuple [] ∧ R (AV.tuple []) h) ∧
 (b1 = false →
  ACall prog (AV.func (Fn.func 61) [] [])
   [AV.ptr (some p0), AV.str [(0 : UInt8)]] h fun (v : AV) (h : AH) ↦
   ∃ (x : Unit), v = AV.tuple [] ∧ R (AV.tuple []) h)) := by kernel_rfl
-- gossamer/gossamerref09.Bytes
theorem w127 (x0_0 : Int) (x0_1 : Int) (x0_2 : Int) (x0_3 : Int) (s0_4 : Str) (s0_5 : Str) (x0_6 : Int) (x0_7 : Int) (b0_8 : Bool) (h : AH) (R : AV → AH → Prop) : fnW prog tyt f127 (.seq .leaf (.seq (.draw [0, 1, 2, 3, 4, 5, 6, 7, 8, 9, 10, 11, 12, 13, 14, 15, 16, 17, 18, 19, 20, 21, 22, 23, 24, 25, 26, 27, 28, 29, 30]) .leaf)) [(.agg [(.int .i64 x0_0), (.int .i64 x0_1), (.int .i64 x0_2), (.int .i64 x0_3), (.str s0_4), (.str s0_5), (.int .i64 x0_6), (.int .i64 x0_7), (.bool b0_8)])] h R = (
 ∃ (x : Int),
 (h.new
      (AObj.cells false 0 (El.mk 37 true true)
       [AV.int IntKind.i64 x0_0, AV.int IntKind.i64 x0_1, AV.int IntKind.i64 x0_2,
        AV.int IntKind.i64 x0_3, AV.str s0_4, AV.str s0_5,
        AV.int IntKind.i64 x0_6, AV.int IntKind.i64 x0_7, AV.bool b0_8])).rd
    (Pt.mk h.next (0 + 0)) 1 =
   some [AV.int IntKind.i64 x] ∧
  ∃ (x_1 : Int),
   (h.new
        (AObj.cells false 0 (El.mk 37 true true)
         [AV.int IntKind.i64 x0_0, AV.int IntKind.i64 x0_1, AV.int IntKind.i64 x0_2,
          AV.int IntKind.i64 x0_3, AV.str s0_4, AV.str s0_5,
          AV.int IntKind.i64 x0_6, AV.int IntKind.i64 x0_7, AV.bool b0_8])).rd
      (Pt.mk h.next (0 + 1)) 1 =
     some [AV.int IntKind.i64 x_1] ∧
    ∃ (x_2 : Int),
     (h.new
          (AObj.cells false 0 (El.mk 37 true true)
           [AV.int IntKind.i64 x0_0, AV.int IntKind.i64 x0_1,
            AV.int IntKind.i64 x0_2, AV.int IntKind.i64 x0_3, AV.str s0_4,
            AV.str s0_5, AV.int IntKind.i64 x0_6, AV.int IntKind.i64 x0_7,
            AV.bool b0_8])).rd
        (Pt.mk h.next (0 + 2)) 1 =
       some [AV.int IntKind.i64 x_2] ∧
      ∃ (x_3 : Int),
       (h.new
            (AObj.cells false 0 (El.mk 37 true true)
             [AV.int IntKind.i64 x0_0, AV.int IntKind.i64 x0_1,
              AV.int IntKind.i64 x0_2, AV.int IntKind.i64 x0_3, AV.str s0_4,
              AV.str s0_5, AV.int IntKind.i64 x0_6, AV.int IntKind.i64 x0_7,
              AV.bool b0_8])).rd
          (Pt.mk h.next (0 + 3)) 1 =
         some [AV.int IntKind.i64 x_3] ∧
        ∃ (x_4 : List UInt8),
         (h.new
              (AObj.cells false 0 (El.mk 37 true true)
               [AV.int IntKind.i64 x0_0, AV.int IntKind.i64 x0_1,
                AV.int IntKind.i64 x0_2, AV.int IntKind.i64 x0_3, AV.str s0_4,
                AV.str s0_5, AV.int IntKind.i64 x0_6, AV.int IntKind.i64 x0_7,
                AV.bool b0_8])).rd
            (Pt.mk h.next (0 + 4)) 1 =
           some [AV.str x_4] ∧
          ∃ (x_5 : List UInt8),
           (h.new
                (AObj.cells false 0 (El.mk 37 true true)
                 [AV.int IntKind.i64 x0_0, AV.int IntKind.i64 x0_1,
                  AV.int IntKind.i64 x0_2, AV.int IntKind.i64 x0_3,
                  AV.str s0_4, AV.str s0_5, AV.int IntKind.i64 x0_6,
                  AV.int IntKind.i64 x0_7, AV.bool b0_8])).rd
              (Pt.mk h.next (0 + 5)) 1 =
             some [AV.str x_5] ∧
            ∃ (x_6 : Int),
             (h.new
                  (AObj.cells false 0 (El.mk 37 true true)
                   [AV.int IntKind.i64 x0_0, AV.int IntKind.i64 x0_1,
                    AV.int IntKind.i64 x0_2, AV.int IntKind.i64 x0_3,
                    AV.str s0_4, AV.str s0_5, AV.int IntKind.i64 x0_6,
                    AV.int IntKind.i64 x0_7, AV.bool b0_8])).rd
                (Pt.mk h.next (0 + 6)) 1 =
               some [AV.int IntKind.i64 x_6] ∧
              ∃ (x_7 : Int),
               (h.new
                    (AObj.cells false 0
                     (El.mk 37 true true)
                     [AV.int IntKind.i64 x0_0, AV.int IntKind.i64 x0_1,
                      AV.int IntKind.i64 x0_2, AV.int IntKind.i64 x0_3,
                      AV.str s0_4, AV.str s0_5, AV.int IntKind.i64 x0_6,
                      AV.int IntKind.i64 x0_7, AV.bool b0_8])).rd
                  (Pt.mk h.next (0 + 7)) 1 =
                 some [AV.int IntKind.i64 x_7] ∧
                ∃ (x_8 : Bool),
                 (h.new
                      (AObj.cells false 0
                       (El.mk 37 true true)
                       [AV.int IntKind.i64 x0_0, AV.int IntKind.i64 x0_1,
                        AV.int IntKind.i64 x0_2, AV.int IntKind.i64 x0_3,
                        AV.str s0_4, AV.str s0_5, AV.int IntKind.i64 x0_6,
                        AV.int IntKind.i64 x0_7, AV.bool b0_8])).rd
                    (Pt.mk h.next (0 + 8)) 1 =
                   some [AV.bool x_8] ∧
                  ACall prog (AV.func (Fn.func 182) [] [])
                   [AV.bool x_8]
                   (h.new
                    (AObj.cells false 0
                     (El.mk 37 true true)
                     [AV.int IntKind.i64 x0_0, AV.int IntKind.i64 x0_1,
                      AV.int IntKind.i64 x0_2, AV.int IntKind.i64 x0_3,
                      AV.str s0_4, AV.str s0_5, AV.int IntKind.i64 x0_6,
                      AV.int IntKind.i64 x0_7, AV.bool b0_8]))
                   fun (v : AV) (h_1 : AH) ↦
                   ∃ (x_9 : Int),
                    v = AV.int IntKind.i64 x_9 ∧
                     h_1.rd (Pt.mk h.next (0 + 7)) 1 =
                       some [AV.int IntKind.i64 x_7] ∧
                      h_1.rd (Pt.mk h.next (0 + 6)) 1 =
                        some [AV.int IntKind.i64 x_6] ∧
                       h_1.rd (Pt.mk h.next (0 + 5)) 1 =
                         some [AV.str x_5] ∧
                        h_1.rd (Pt.mk h.next (0 + 4)) 1 =
                          some [AV.str x_4] ∧
                         h_1.rd (Pt.mk h.next (0 + 3)) 1 =
                           some [AV.int IntKind.i64 x_3] ∧
                          h_1.rd (Pt.mk h.next (0 + 2)) 1 =
                            some [AV.int IntKind.i64 x_2] ∧
                           h_1.rd (Pt.mk h.next (0 + 1)) 1 =
                             some [AV.int IntKind.i64 x_1] ∧
                            h_1.rd (Pt.mk h.next (0 + 0)) 1 =
                              some [AV.int IntKind.i64 x] ∧
                             ACall prog
                              (AV.func (Fn.func 181) [] [])
                              [AV.slice
                                (some (Pt.mk h_1.next 0)) 9
                                3]
                              (h_1.new
                               (AObj.cells false 0
                                (El.mk 297 false true)
                                [AV.int IntKind.i64 (1 : Int),
                                 AV.int IntKind.i64 x, AV.str [],
                                 AV.int IntKind.i64 (1 : Int),
                                 AV.int IntKind.i64 x_1, AV.str [],
                                 AV.int IntKind.i64 (1 : Int),
                                 AV.int IntKind.i64 x_2, AV.str [],
                                 AV.int IntKind.i64 (1 : Int),
                                 AV.int IntKind.i64 x_3, AV.str [],
                                 AV.int IntKind.i64 (3 : Int),
                                 AV.int IntKind.i64 (0 : Int),
                                 AV.str x_4,
                                 AV.int IntKind.i64 (3 : Int),
                                 AV.int IntKind.i64 (0 : Int),
                                 AV.str x_5,
                                 AV.int IntKind.i64 (2 : Int),
                                 AV.int IntKind.i64 x_6, AV.str [],
                                 AV.int IntKind.i64 (2 : Int),
                                 AV.int IntKind.i64 x_7, AV.str [],
                                 AV.int IntKind.i64 (4 : Int),
                                 AV.int IntKind.i64 x_9, AV.str []]))
                              fun (v : AV) (h : AH) ↦
                              ∃ (x : List UInt8),
                               v = AV.str x ∧ R (AV.str x) h) := by kernel_rfl
-- (*gossamer/pack.Reader).fail
theorem w128 (p0 : Pt) (x1 : Int) (h : AH) (R : AV → AH → Prop) : fnW prog tyt f128 (.seq .leaf (.cond .leaf .leaf)) [(.ptr (some p0)), (.int .i64 x1)] h R = (
 ∃ (x : Int),
 h.rd (Pt.mk p0.b (p0.o + 1)) 1 = some [AV.int IntKind.i64 x] ∧
  ((bif true then x == (0 : Int) else false) = true →
    ∃ (h' : AH),
     h.wr (p0.add 1) [AV.int IntKind.i64 x1] = some h' ∧ R (AV.tuple []) h') ∧
   ((bif true then x == (0 : Int) else false) = false → R (AV.tuple []) h)) := by kernel_rfl
-- (*gossamer/pack.rest).cut
theorem w129 (p0 : Pt) (x1 : Int) (h : AH) (R : AV → AH → Prop) : fnW prog tyt f129 (.seq .leaf (.seq .leaf (.seq .leaf (.seq .leaf .leaf)))) [(.ptr (some p0)), (.int .i64 x1)] h R = (
 ∃ (x : List UInt8),
 h.rd (Pt.mk p0.b (p0.o + 0)) 1 = some [AV.str x] ∧
  (0 : Int) ≤ x1 ∧
   x1 ≤ (↑x.length : Int) ∧
    ∃ (x_1 : List UInt8),
     h.rd (Pt.mk p0.b (p0.o + 0)) 1 = some [AV.str x_1] ∧
      (0 : Int) ≤ x1 ∧
       x1 ≤ (↑x_1.length : Int) ∧
        ∃ (h' : AH),
         h.wr (p0.add 0) [AV.str (List.drop x1.toNat (List.take x_1.length x_1))] =
           some h' ∧
          R (AV.str (List.drop 0 (List.take x1.toNat x))) h') := by kernel_rfl
-- gossamer/vari.take
theorem w130 (s0 : Str) (x1 : Int) (h : AH) (R : AV → AH → Prop) : fnW prog tyt f130 (.seq .leaf (.seq .leaf (.seq .leaf (.seq .leaf (.seq (.seq .leaf (.joinB [(8, false, [.int .i64]), (7, false, [.int .u64])] (.loop [(12, false, [.int .i64]), (7, false, [.int .u64]), (8, false, [.int .i64])] (.seq .leaf (.seq (.cond .leaf .leaf) (.seq (.block (.seq .leaf (.seq (.seq .leaf (.cond (.seq .leaf .leaf) .leaf)) (.seq .leaf (.seq .leaf (.seq (.block (.seq .leaf (.cond .leaf (.seq (.seq .leaf (.joinC [(33, false, [.bool])] .leaf .leaf)) (.cond (.seq .leaf .leaf) .leaf))))) (.seq .leaf .leaf))))))) .leaf)))))) (.seq (.seq .leaf (.cond (.seq .leaf .leaf) .leaf)) (.seq .leaf .leaf))))))) [(.str s0), (.int .i64 x1)] h R = (
 ∃ (J : Int × Int × Unit → AH → Prop),
 (∃ (I : Int × Int × Int × Unit → AH → Prop),
   ∃ (μ : Int × Int × Int × Unit → AH → Nat),
    I ((0 : Int), (0 : Int), (0 : Int), ()) h ∧
     ∀ (x x_1 x_2 : Int) (h1 : AH),
      I (x, x_1, x_2, ()) h1 →
       (Decidable.decide (x < x1) = true →
         (Decidable.decide (x ≥ (↑(List.length s0) : Int)) = true →
           R
            (AV.tuple
             [AV.int IntKind.u64 (0 : Int), AV.int IntKind.i64 (0 : Int),
              AV.int IntKind.i64 (3 : Int)])
            h1) ∧
          (Decidable.decide (x ≥ (↑(List.length s0) : Int)) = false →
           (0 : Int) ≤ x ∧
            x < (↑(List.length s0) : Int) ∧
             (0 : Int) ≤ IntKind.i64.wrap ((7 : Int) * x) ∧
              (Decidable.decide ((↑(List.getD s0 x.toNat (0 : UInt8)).toNat : Int) ≥ (128 : Int)) =
                 true →
                I
                  (IntKind.i64.wrap (x + (1 : Int)),
                   IntKind.u64.wrap
                    (↑(BitVec.ofInt IntKind.u64.bits x_1 |||
                        BitVec.ofInt IntKind.u64.bits
                         (IntKind.u64.wrap
                          (IntKind.u64.wrap
                            (IntKind.u8.wrap
                             (↑(BitVec.ofInt IntKind.u8.bits
                                  (↑(List.getD s0 x.toNat (0 : UInt8)).toNat :
                                   Int) &&&
                                 ~~~BitVec.ofInt IntKind.u8.bits
                                   (128 : Int)).toNat :
                              Int)) *
                           (2 : Int) ^
                            Min.min (IntKind.i64.wrap ((7 : Int) * x)).toNat
                             IntKind.u64.bits))).toNat :
                     Int),
                   x_2, ())
                  h1 ∧
                 μ
                   (IntKind.i64.wrap (x + (1 : Int)),
                    IntKind.u64.wrap
                     (↑(BitVec.ofInt IntKind.u64.bits x_1 |||
                         BitVec.ofInt IntKind.u64.bits
                          (IntKind.u64.wrap
                           (IntKind.u64.wrap
                             (IntKind.u8.wrap
                              (↑(BitVec.ofInt IntKind.u8.bits
                                   (↑(List.getD s0 x.toNat (0 : UInt8)).toNat :
                                    Int) &&&
                                  ~~~BitVec.ofInt IntKind.u8.bits
                                    (128 : Int)).toNat :
                               Int)) *
                            (2 : Int) ^
                             Min.min (IntKind.i64.wrap ((7 : Int) * x)).toNat
                              IntKind.u64.bits))).toNat :
                      Int),
                    x_2, ())
                   h1 <
                  μ (x, x_1, x_2, ()) h1) ∧
               (Decidable.decide ((↑(List.getD s0 x.toNat (0 : UInt8)).toNat : Int) ≥ (128 : Int)) =
                 false →
                match (↑(List.getD s0 x.toNat (0 : UInt8)).toNat : Int) == (0 : Int) with
                | true =>
                 ∃ (J_1 : Bool × Unit → AH → Prop),
                  ((bif true then Decidable.decide (x > (0 : Int)) else false) = true →
                    J_1 (bif true then Decidable.decide (x > (0 : Int)) else false, ())
                     h1) ∧
                   ((bif true then Decidable.decide (x > (0 : Int)) else false) =
                      false →
                     match x == (9 : Int) with
                     | true =>
                      J_1
                       (bif true then
                         Decidable.decide
                          ((↑(List.getD s0 x.toNat (0 : UInt8)).toNat : Int) > (1 : Int))
                        else false,
                        ())
                       h1
                     | false => J_1 (false, ()) h1) ∧
                    ∀ (x_3 : Bool) (h' : AH),
                     J_1 (x_3, ()) h' →
                      (x_3 = true →
                        R
                         (AV.tuple
                          [AV.int IntKind.u64 (0 : Int),
                           AV.int IntKind.i64 (0 : Int),
                           AV.int IntKind.i64 (2 : Int)])
                         h') ∧
                       (x_3 = false →
                        J
                         (IntKind.i64.wrap (x + (1 : Int)),
                          IntKind.u64.wrap
                           (↑(BitVec.ofInt IntKind.u64.bits x_1 |||
                               BitVec.ofInt IntKind.u64.bits
                                (IntKind.u64.wrap
                                 (IntKind.u64.wrap
                                   (IntKind.u8.wrap
                                    (↑(BitVec.ofInt IntKind.u8.bits
                                         (↑(List.getD s0 x.toNat
                                             (0 : UInt8)).toNat :
                                          Int) &&&
                                        ~~~BitVec.ofInt IntKind.u8.bits
                                          (128 : Int)).toNat :
                                     Int)) *
                                  (2 : Int) ^
                                   Min.min
                                    (IntKind.i64.wrap ((7 : Int) * x)).toNat
                                    IntKind.u64.bits))).toNat :
                            Int),
                          ())
                         h')
                | false =>
                 ∃ (J_1 : Bool × Unit → AH → Prop),
                  (false = true → J_1 (false, ()) h1) ∧
                   (false = false →
                     match x == (9 : Int) with
                     | true =>
                      J_1
                       (bif true then
                         Decidable.decide
                          ((↑(List.getD s0 x.toNat (0 : UInt8)).toNat : Int) > (1 : Int))
                        else false,
                        ())
                       h1
                     | false => J_1 (false, ()) h1) ∧
                    ∀ (x_3 : Bool) (h' : AH),
                     J_1 (x_3, ()) h' →
                      (x_3 = true →
                        R
                         (AV.tuple
                          [AV.int IntKind.u64 (0 : Int),
                           AV.int IntKind.i64 (0 : Int),
                           AV.int IntKind.i64 (2 : Int)])
                         h') ∧
                       (x_3 = false →
                        J
                         (IntKind.i64.wrap (x + (1 : Int)),
                          IntKind.u64.wrap
                           (↑(BitVec.ofInt IntKind.u64.bits x_1 |||
                               BitVec.ofInt IntKind.u64.bits
                                (IntKind.u64.wrap
                                 (IntKind.u64.wrap
                                   (IntKind.u8.wrap
                                    (↑(BitVec.ofInt IntKind.u8.bits
                                         (↑(List.getD s0 x.toNat
                                             (0 : UInt8)).toNat :
                                          Int) &&&
                                        ~~~BitVec.ofInt IntKind.u8.bits
                                          (128 : Int)).toNat :
                                     Int)) *
                                  (2 : Int) ^
                                   Min.min
                                    (IntKind.i64.wrap ((7 : Int) * x)).toNat
                                    IntKind.u64.bits))).toNat :
                            Int),
                          ())
                         h')))) ∧
        (Decidable.decide (x < x1) = false → J (x_2, x_1, ()) h1)) ∧
  ∀ (x x_1 : Int) (h' : AH),
   J (x, x_1, ()) h' →
    ((x == (0 : Int)) = true →
      R
       (AV.tuple
        [AV.int IntKind.u64 (0 : Int), AV.int IntKind.i64 (0 : Int),
         AV.int IntKind.i64 (2 : Int)])
       h') ∧
     ((x == (0 : Int)) = false →
      R
       (AV.tuple
        [AV.int IntKind.u64 x_1, AV.int IntKind.i64 x, AV.int IntKind.i64 (0 : Int)])
       h')) := by kernel_rfl
-- (*gossamer/pack.Reader).Text
theorem w131 (p0 : Pt) (x1 : Int) (h : AH) (R : AV → AH → Prop) : fnW prog tyt f131 (.seq .leaf (.seq (.seq .leaf (.cond (.seq .leaf .leaf) .leaf)) (.seq .leaf (.seq .leaf (.seq (.joinB [] (.seq .leaf (.cond .leaf (.seq .leaf (.cond .leaf .leaf))))) (.seq (.seq .leaf (.cond (.seq .leaf (.seq .leaf .leaf)) .leaf)) (.seq .leaf .leaf))))))) [(.ptr (some p0)), (.int .i64 x1)] h R = (
 (false = true → R (AV.str []) h) ∧
 (false = false →
  ∃ (x : List UInt8),
   h.rd (Pt.mk (p0.add 0).b ((p0.add 0).o + 0)) 1 =
     some [AV.str x] ∧
    ACall prog (AV.func (Fn.func 30) [] []) [AV.ptr (some p0)] h
     fun (v : AV) (h : AH) ↦
     ∃ (x_1 : Int),
      v = AV.int IntKind.i64 x_1 ∧
       ∃ (J : Unit → AH → Prop),
        (∃ (x : Int),
          h.rd (Pt.mk p0.b (p0.o + 1)) 1 = some [AV.int IntKind.i64 x] ∧
           match x == (0 : Int) with
           | true =>
            ((bif true then Decidable.decide (x_1 > x1) else false) = true →
              ACall prog (AV.func (Fn.func 128) [] [])
               [AV.ptr (some p0), AV.int IntKind.i64 (12 : Int)] h
               fun (v : AV) (h : AH) ↦ ∃ (x : Unit), v = AV.tuple [] ∧ J () h) ∧
             ((bif true then Decidable.decide (x_1 > x1) else false) = false →
              ∃ (x : Int),
               h.rd (Pt.mk p0.b (p0.o + 1)) 1 =
                 some [AV.int IntKind.i64 x] ∧
                match x == (0 : Int) with
                | true =>
                 ∃ (x : List UInt8),
                  h.rd (Pt.mk (p0.add 0).b ((p0.add 0).o + 0))
                     1 =
                    some [AV.str x] ∧
                   ((bif true then Decidable.decide (x_1 > (↑x.length : Int)) else false) =
                      true →
                     ACall prog (AV.func (Fn.func 128) [] [])
                      [AV.ptr (some p0), AV.int IntKind.i64 (3 : Int)] h
                      fun (v : AV) (h : AH) ↦
                      ∃ (x : Unit), v = AV.tuple [] ∧ J () h) ∧
                    ((bif true then Decidable.decide (x_1 > (↑x.length : Int))
                      else false) =
                      false →
                     J () h)
                | false =>
                 (false = true →
                   ACall prog (AV.func (Fn.func 128) [] [])
                    [AV.ptr (some p0), AV.int IntKind.i64 (3 : Int)] h
                    fun (v : AV) (h : AH) ↦
                    ∃ (x : Unit), v = AV.tuple [] ∧ J () h) ∧
                  (false = false → J () h))
           | false =>
            (false = true →
              ACall prog (AV.func (Fn.func 128) [] [])
               [AV.ptr (some p0), AV.int IntKind.i64 (12 : Int)] h
               fun (v : AV) (h : AH) ↦ ∃ (x : Unit), v = AV.tuple [] ∧ J () h) ∧
             (false = false →
              ∃ (x : Int),
               h.rd (Pt.mk p0.b (p0.o + 1)) 1 =
                 some [AV.int IntKind.i64 x] ∧
                match x == (0 : Int) with
                | true =>
                 ∃ (x : List UInt8),
                  h.rd (Pt.mk (p0.add 0).b ((p0.add 0).o + 0))
                     1 =
                    some [AV.str x] ∧
                   ((bif true then Decidable.decide (x_1 > (↑x.length : Int)) else false) =
                      true →
                     ACall prog (AV.func (Fn.func 128) [] [])
                      [AV.ptr (some p0), AV.int IntKind.i64 (3 : Int)] h
                      fun (v : AV) (h : AH) ↦
                      ∃ (x : Unit), v = AV.tuple [] ∧ J () h) ∧
                    ((bif true then Decidable.decide (x_1 > (↑x.length : Int))
                      else false) =
                      false →
                     J () h)
                | false =>
                 (false = true →
                   ACall prog (AV.func (Fn.func 128) [] [])
                    [AV.ptr (some p0), AV.int IntKind.i64 (3 : Int)] h
                    fun (v : AV) (h : AH) ↦
                    ∃ (x : Unit), v = AV.tuple [] ∧ J () h) ∧
                  (false = false → J () h))) ∧
         ∀ (h' : AH),
          J () h' →
           ∃ (x_2 : Int),
            h'.rd (Pt.mk p0.b (p0.o + 1)) 1 =
              some [AV.int IntKind.i64 x_2] ∧
             ((x_2 != (0 : Int)) = true →
               ∃ (h'_1 : AH),
                h'.wr ((p0.add 0).add 0) [AV.str x] = some h'_1 ∧
                 R (AV.str []) h'_1) ∧
              ((x_2 != (0 : Int)) = false →
               ACall prog (AV.func (Fn.func 129) [] [])
                [AV.ptr (some (Pt.mk p0.b (p0.o + 0))),
                 AV.int IntKind.i64 x_1]
                h' fun (v : AV) (h : AH) ↦
                ∃ (x : List UInt8), v = AV.str x ∧ R (AV.str x) h))) := by kernel_rfl
-- (*gossamer/pack.Reader).Flag
theorem w132 (p0 : Pt) (h : AH) (R : AV → AH → Prop) : fnW prog tyt f132 (.seq .leaf (.seq (.block (.seq .leaf (.cond (.seq .leaf .leaf) (.seq .leaf (.cond (.seq .leaf (.seq .leaf .leaf)) (.seq .leaf (.cond (.seq .leaf (.seq .leaf .leaf)) .leaf))))))) (.seq .leaf .leaf))) [(.ptr (some p0))] h R = (
 ∃ (x : Int),
 h.rd (Pt.mk p0.b (p0.o + 1)) 1 = some [AV.int IntKind.i64 x] ∧
  ((bif false then true else x != (0 : Int)) = true → R (AV.bool false) h) ∧
   ((bif false then true else x != (0 : Int)) = false →
    ∃ (x : List UInt8),
     h.rd (Pt.mk (p0.add 0).b ((p0.add 0).o + 0)) 1 =
       some [AV.str x] ∧
      ((x == #[].toList) = true →
        ACall prog (AV.func (Fn.func 128) [] [])
         [AV.ptr (some p0), AV.int IntKind.i64 (3 : Int)] h
         fun (v : AV) (h : AH) ↦
         ∃ (x : Unit), v = AV.tuple [] ∧ R (AV.bool false) h) ∧
       ((x == #[].toList) = false →
        ∃ (x : List UInt8),
         h.rd (Pt.mk (p0.add 0).b ((p0.add 0).o + 0)) 1 =
           some [AV.str x] ∧
          (0 : Int) ≤ (0 : Int) ∧
           (0 : Int) < (↑x.length : Int) ∧
            (Decidable.decide ((↑(x.getD (Int.toNat (0 : Int)) (0 : UInt8)).toNat : Int) > (1 : Int)) =
               true →
              ACall prog (AV.func (Fn.func 128) [] [])
               [AV.ptr (some p0), AV.int IntKind.i64 (2 : Int)] h
               fun (v : AV) (h : AH) ↦
               ∃ (x : Unit), v = AV.tuple [] ∧ R (AV.bool false) h) ∧
             (Decidable.decide ((↑(x.getD (Int.toNat (0 : Int)) (0 : UInt8)).toNat : Int) > (1 : Int)) =
               false →
              ACall prog (AV.func (Fn.func 129) [] [])
               [AV.ptr (some (Pt.mk p0.b (p0.o + 0))),
                AV.int IntKind.i64 (1 : Int)]
               h fun (v : AV) (h : AH) ↦
               ∃ (x : List UInt8),
                v = AV.str x ∧ R (AV.bool (x == #[(1 : UInt8)].toList)) h)))) := by kernel_rfl
-- gossamer/gossamerref01.last
theorem w133 (s0 : Str) (x1 : Int) (h : AH) (R : AV → AH → Prop) : fnW prog tyt f133 (.seq .leaf (.seq (.seq .leaf (.block (.loop [(5, false, [.int .i64])] (.seq (.seq .leaf (.cond .leaf .leaf)) (.seq (.block (.seq .leaf (.cond (.seq .leaf .leaf) .leaf))) .leaf))))) (.seq .leaf .leaf))) [(.str s0), (.int .i64 x1)] h R = (
 ∃ (I : Int × Unit → AH → Prop),
 ∃ (μ : Int × Unit → AH → Nat),
  I ((0 : Int), ()) h ∧
   ∀ (x : Int) (h1 : AH),
    I (x, ()) h1 →
     match Decidable.decide (x < (↑(List.length s0) : Int)) with
     | true =>
      ((bif true then Decidable.decide (x < x1) else false) = true →
        (0 : Int) ≤ x ∧
         x < (↑(List.length s0) : Int) ∧
          (Decidable.decide ((↑(List.getD s0 x.toNat (0 : UInt8)).toNat : Int) < (128 : Int)) = true →
            R (AV.int IntKind.i64 x) h1) ∧
           (Decidable.decide ((↑(List.getD s0 x.toNat (0 : UInt8)).toNat : Int) < (128 : Int)) = false →
            I (IntKind.i64.wrap (x + (1 : Int)), ()) h1 ∧
             μ (IntKind.i64.wrap (x + (1 : Int)), ()) h1 < μ (x, ()) h1)) ∧
       ((bif true then Decidable.decide (x < x1) else false) = false →
        R (AV.int IntKind.i64 (-1 : Int)) h1)
     | false =>
      (false = true →
        (0 : Int) ≤ x ∧
         x < (↑(List.length s0) : Int) ∧
          (Decidable.decide ((↑(List.getD s0 x.toNat (0 : UInt8)).toNat : Int) < (128 : Int)) = true →
            R (AV.int IntKind.i64 x) h1) ∧
           (Decidable.decide ((↑(List.getD s0 x.toNat (0 : UInt8)).toNat : Int) < (128 : Int)) = false →
            I (IntKind.i64.wrap (x + (1 : Int)), ()) h1 ∧
             μ (IntKind.i64.wrap (x + (1 : Int)), ()) h1 < μ (x, ()) h1)) ∧
       (false = false → R (AV.int IntKind.i64 (-1 : Int)) h1)) := by kernel_rfl
-- gossamer/gossamerref01.value
theorem w134 (s0 : Str) (h : AH) (R : AV → AH → Prop) : fnW prog tyt f134 (.seq .leaf (.seq .leaf (.seq (.seq .leaf (.block (.loop [(4, false, [.int .i64]), (3, false, [.int .u64])] (.seq (.seq .leaf (.cond .leaf .leaf)) (.seq (.block .leaf) .leaf))))) (.seq .leaf .leaf)))) [(.str s0)] h R = (
 ∃ (I : Int × Int × Unit → AH → Prop),
 ∃ (μ : Int × Int × Unit → AH → Nat),
  I (IntKind.i64.wrap ((↑(List.length s0) : Int) - (1 : Int)), (0 : Int), ()) h ∧
   ∀ (x x_1 : Int) (h1 : AH),
    I (x, x_1, ()) h1 →
     (Decidable.decide (x ≥ (0 : Int)) = true →
       (0 : Int) ≤ x ∧
        x < (↑(List.length s0) : Int) ∧
         (128 : Int) ≠ (0 : Int) ∧
          I
            (IntKind.i64.wrap (x - (1 : Int)),
             IntKind.u64.wrap
              (IntKind.u64.wrap (x_1 * (128 : Int)) +
               IntKind.u64.wrap ((↑(List.getD s0 x.toNat (0 : UInt8)).toNat : Int).tmod (128 : Int))),
             ())
            h1 ∧
           μ
             (IntKind.i64.wrap (x - (1 : Int)),
              IntKind.u64.wrap
               (IntKind.u64.wrap (x_1 * (128 : Int)) +
                IntKind.u64.wrap
                 ((↑(List.getD s0 x.toNat (0 : UInt8)).toNat : Int).tmod (128 : Int))),
              ())
             h1 <
            μ (x, x_1, ()) h1) ∧
      (Decidable.decide (x ≥ (0 : Int)) = false → R (AV.int IntKind.u64 x_1) h1)) := by kernel_rfl
-- (*gossamer/gossamerref05.Reader).Text
theorem w135 (p0 : Pt) (x1 : Int) (h : AH) (R : AV → AH → Prop) : fnW prog tyt f135 (.seq .leaf (.seq (.seq .leaf (.cond (.seq .leaf .leaf) .leaf)) (.seq .leaf (.seq (.seq .leaf (.joinC [(7, false, [.int .i64])] .leaf .leaf)) (.seq (.seq .leaf (.joinC [(7, false, [.int .i64])] .leaf .leaf)) (.seq (.seq .leaf (.cond (.seq .leaf (.seq .leaf .leaf)) .leaf)) (.seq .leaf (.seq .leaf (.seq .leaf .leaf))))))))) [(.ptr (some p0)), (.int .i64 x1)] h R = (
 ∃ (x : Int),
 h.rd (Pt.mk p0.b (p0.o + 1)) 1 = some [AV.int IntKind.i64 x] ∧
  ((x != (0 : Int)) = true → R (AV.str []) h) ∧
   ((x != (0 : Int)) = false →
    ∃ (x : List UInt8),
     h.rd (Pt.mk p0.b (p0.o + 0)) 1 = some [AV.str x] ∧
      ACall prog (AV.func (Fn.func 75) [] []) [AV.str x] h
       fun (v : AV) (h : AH) ↦
       ∃ (x : Int × Int × Int × Unit),
        v =
          AV.tuple
           [AV.int IntKind.i64 x.1, AV.int IntKind.i64 x.2.1,
            AV.int IntKind.i64 x.2.2.1] ∧
         match x.2.2.1 == (0 : Int) with
         | true =>
          ∃ (J : Int × Unit → AH → Prop),
           ((bif true then Decidable.decide (x.1 > x1) else false) = true →
             J ((12 : Int), ()) h) ∧
            ((bif true then Decidable.decide (x.1 > x1) else false) = false →
              J (x.2.2.1, ()) h) ∧
             ∀ (x_1 : Int) (h' : AH),
              J (x_1, ()) h' →
               match x_1 == (0 : Int) with
               | true =>
                ∃ (x_2 : List UInt8),
                 h'.rd (Pt.mk p0.b (p0.o + 0)) 1 =
                   some [AV.str x_2] ∧
                  ∃ (J : Int × Unit → AH → Prop),
                   ((bif true then
                       Decidable.decide
                        (x.1 > IntKind.i64.wrap ((↑x_2.length : Int) - x.2.1))
                      else false) =
                      true →
                     J ((3 : Int), ()) h') ∧
                    ((bif true then
                        Decidable.decide
                         (x.1 > IntKind.i64.wrap ((↑x_2.length : Int) - x.2.1))
                       else false) =
                       false →
                      J (x_1, ()) h') ∧
                     ∀ (x_3 : Int) (h' : AH),
                      J (x_3, ()) h' →
                       ((x_3 != (0 : Int)) = true →
                         ∃ (h'_1 : AH),
                          h'.wr (p0.add 1) [AV.int IntKind.i64 x_3] =
                            some h'_1 ∧
                           R (AV.str []) h'_1) ∧
                        ((x_3 != (0 : Int)) = false →
                         ∃ (x_4 : List UInt8),
                          h'.rd (Pt.mk p0.b (p0.o + 0)) 1 =
                            some [AV.str x_4] ∧
                           (0 : Int) ≤ x.2.1 ∧
                            x.2.1 ≤ IntKind.i64.wrap (x.2.1 + x.1) ∧
                             IntKind.i64.wrap (x.2.1 + x.1) ≤
                               (↑x_4.length : Int) ∧
                              ∃ (x_5 : List UInt8),
                               h'.rd (Pt.mk p0.b (p0.o + 0)) 1 =
                                 some [AV.str x_5] ∧
                                (0 : Int) ≤ IntKind.i64.wrap (x.2.1 + x.1) ∧
                                 IntKind.i64.wrap (x.2.1 + x.1) ≤
                                   (↑x_5.length : Int) ∧
                                  ∃ (h'_1 : AH),
                                   h'.wr (p0.add 0)
                                      [AV.str
                                        (List.drop
                                         (IntKind.i64.wrap
                                           (x.2.1 + x.1)).toNat
                                         (List.take x_5.length x_5))] =
                                     some h'_1 ∧
                                    R
                                     (AV.str
                                      (List.drop (Int.toNat x.2.1)
                                       (List.take
                                        (IntKind.i64.wrap
                                          (x.2.1 + x.1)).toNat
                                        x_4)))
                                     h'_1)
               | false =>
                ∃ (J : Int × Unit → AH → Prop),
                 (false = true → J ((3 : Int), ()) h') ∧
                  (false = false → J (x_1, ()) h') ∧
                   ∀ (x_2 : Int) (h' : AH),
                    J (x_2, ()) h' →
                     ((x_2 != (0 : Int)) = true →
                       ∃ (h'_1 : AH),
                        h'.wr (p0.add 1) [AV.int IntKind.i64 x_2] =
                          some h'_1 ∧
                         R (AV.str []) h'_1) ∧
                      ((x_2 != (0 : Int)) = false →
                       ∃ (x_3 : List UInt8),
                        h'.rd (Pt.mk p0.b (p0.o + 0)) 1 =
                          some [AV.str x_3] ∧
                         (0 : Int) ≤ x.2.1 ∧
                          x.2.1 ≤ IntKind.i64.wrap (x.2.1 + x.1) ∧
                           IntKind.i64.wrap (x.2.1 + x.1) ≤ (↑x_3.length : Int) ∧
                            ∃ (x_4 : List UInt8),
                             h'.rd (Pt.mk p0.b (p0.o + 0)) 1 =
                               some [AV.str x_4] ∧
                              (0 : Int) ≤ IntKind.i64.wrap (x.2.1 + x.1) ∧
                               IntKind.i64.wrap (x.2.1 + x.1) ≤
                                 (↑x_4.length : Int) ∧
                                ∃ (h'_1 : AH),
                                 h'.wr (p0.add 0)
                                    [AV.str
                                      (List.drop
                                       (IntKind.i64.wrap
                                         (x.2.1 + x.1)).toNat
                                       (List.take x_4.length x_4))] =
                                   some h'_1 ∧
                                  R
                                   (AV.str
                                    (List.drop (Int.toNat x.2.1)
                                     (List.take
                                      (IntKind.i64.wrap
                                        (x.2.1 + x.1)).toNat
                                      x_3)))
                                   h'_1)
         | false =>
          ∃ (J : Int × Unit → AH → Prop),
           (false = true → J ((12 : Int), ()) h) ∧
            (false = false → J (x.2.2.1, ()) h) ∧
             ∀ (x_1 : Int) (h' : AH),
              J (x_1, ()) h' →
               match x_1 == (0 : Int) with
               | true =>
                ∃ (x_2 : List UInt8),
                 h'.rd (Pt.mk p0.b (p0.o + 0)) 1 =
                   some [AV.str x_2] ∧
                  ∃ (J : Int × Unit → AH → Prop),
                   ((bif true then
                       Decidable.decide
                        (x.1 > IntKind.i64.wrap ((↑x_2.length : Int) - x.2.1))
                      else false) =
                      true →
                     J ((3 : Int), ()) h') ∧
                    ((bif true then
                        Decidable.decide
                         (x.1 > IntKind.i64.wrap ((↑x_2.length : Int) - x.2.1))
                       else false) =
                       false →
                      J (x_1, ()) h') ∧
                     ∀ (x_3 : Int) (h' : AH),
                      J (x_3, ()) h' →
                       ((x_3 != (0 : Int)) = true →
                         ∃ (h'_1 : AH),
                          h'.wr (p0.add 1) [AV.int IntKind.i64 x_3] =
                            some h'_1 ∧
                           R (AV.str []) h'_1) ∧
                        ((x_3 != (0 : Int)) = false →
                         ∃ (x_4 : List UInt8),
                          h'.rd (Pt.mk p0.b (p0.o + 0)) 1 =
                            some [AV.str x_4] ∧
                           (0 : Int) ≤ x.2.1 ∧
                            x.2.1 ≤ IntKind.i64.wrap (x.2.1 + x.1) ∧
                             IntKind.i64.wrap (x.2.1 + x.1) ≤
                               (↑x_4.length : Int) ∧
                              ∃ (x_5 : List UInt8),
                               h'.rd (Pt.mk p0.b (p0.o + 0)) 1 =
                                 some [AV.str x_5] ∧
                                (0 : Int) ≤ IntKind.i64.wrap (x.2.1 + x.1) ∧
                                 IntKind.i64.wrap (x.2.1 + x.1) ≤
                                   (↑x_5.length : Int) ∧
                                  ∃ (h'_1 : AH),
                                   h'.wr (p0.add 0)
                                      [AV.str
                                        (List.drop
                                         (IntKind.i64.wrap
                                           (x.2.1 + x.1)).toNat
                                         (List.take x_5.length x_5))] =
                                     some h'_1 ∧
                                    R
                                     (AV.str
                                      (List.drop (Int.toNat x.2.1)
                                       (List.take
                                        (IntKind.i64.wrap
                                          (x.2.1 + x.1)).toNat
                                        x_4)))
                                     h'_1)
               | false =>
                ∃ (J : Int × Unit → AH → Prop),
                 (false = true → J ((3 : Int), ()) h') ∧
                  (false = false → J (x_1, ()) h') ∧
                   ∀ (x_2 : Int) (h' : AH),
                    J (x_2, ()) h' →
                     ((x_2 != (0 : Int)) = true →
                       ∃ (h'_1 : AH),
                        h'.wr (p0.add 1) [AV.int IntKind.i64 x_2] =
                          some h'_1 ∧
                         R (AV.str []) h'_1) ∧
                      ((x_2 != (0 : Int)) = false →
                       ∃ (x_3 : List UInt8),
                        h'.rd (Pt.mk p0.b (p0.o + 0)) 1 =
                          some [AV.str x_3] ∧
                         (0 : Int) ≤ x.2.1 ∧
                          x.2.1 ≤ IntKind.i64.wrap (x.2.1 + x.1) ∧
                           IntKind.i64.wrap (x.2.1 + x.1) ≤ (↑x_3.length : Int) ∧
                            ∃ (x_4 : List UInt8),
                             h'.rd (Pt.mk p0.b (p0.o + 0)) 1 =
                               some [AV.str x_4] ∧
                              (0 : Int) ≤ IntKind.i64.wrap (x.2.1 + x.1) ∧
                               IntKind.i64.wrap (x.2.1 + x.1) ≤
                                 (↑x_4.length : Int) ∧
                                ∃ (h'_1 : AH),
                                 h'.wr (p0.add 0)
                                    [AV.str
                                      (List.drop
                                       (IntKind.i64.wrap
                                         (x.2.1 + x.1)).toNat
                                       (List.take x_4.length x_4))] =
                                   some h'_1 ∧
                                  R
                                   (AV.str
                                    (List.drop (Int.toNat x.2.1)
                                     (List.take
                                      (IntKind.i64.wrap
                                        (x.2.1 + x.1)).toNat
                                      x_3)))
                                   h'_1))) := by kernel_rfl
-- (*gossamer/gossamerref05.Reader).Flag
theorem w136 (p0 : Pt) (h : AH) (R : AV → AH → Prop) : fnW prog tyt f136 (.seq .leaf (.seq (.seq .leaf (.cond (.seq .leaf .leaf) .leaf)) (.seq (.seq .leaf (.cond (.seq .leaf (.seq .leaf .leaf)) .leaf)) (.seq .leaf (.seq (.seq .leaf (.cond (.seq .leaf (.seq .leaf .leaf)) .leaf)) (.seq .leaf (.seq .leaf .leaf))))))) [(.ptr (some p0))] h R = (
 ∃ (x : Int),
 h.rd (Pt.mk p0.b (p0.o + 1)) 1 = some [AV.int IntKind.i64 x] ∧
  ((x != (0 : Int)) = true → R (AV.bool false) h) ∧
   ((x != (0 : Int)) = false →
    ∃ (x : List UInt8),
     h.rd (Pt.mk p0.b (p0.o + 0)) 1 = some [AV.str x] ∧
      ((x == #[].toList) = true →
        ∃ (h' : AH),
         h.wr (p0.add 1) [AV.int IntKind.i64 (3 : Int)] = some h' ∧
          R (AV.bool false) h') ∧
       ((x == #[].toList) = false →
        ∃ (x : List UInt8),
         h.rd (Pt.mk p0.b (p0.o + 0)) 1 = some [AV.str x] ∧
          (0 : Int) ≤ (0 : Int) ∧
           (0 : Int) < (↑x.length : Int) ∧
            (Decidable.decide ((↑(x.getD (Int.toNat (0 : Int)) (0 : UInt8)).toNat : Int) > (1 : Int)) =
               true →
              ∃ (h' : AH),
               h.wr (p0.add 1) [AV.int IntKind.i64 (2 : Int)] = some h' ∧
                R (AV.bool false) h') ∧
             (Decidable.decide ((↑(x.getD (Int.toNat (0 : Int)) (0 : UInt8)).toNat : Int) > (1 : Int)) =
               false →
              ∃ (x_1 : List UInt8),
               h.rd (Pt.mk p0.b (p0.o + 0)) 1 = some [AV.str x_1] ∧
                (0 : Int) ≤ (1 : Int) ∧
                 (1 : Int) ≤ (↑x_1.length : Int) ∧
                  ∃ (h' : AH),
                   h.wr (p0.add 0)
                      [AV.str
                        (List.drop (Int.toNat (1 : Int)) (List.take x_1.length x_1))] =
                     some h' ∧
                    R
                     (AV.bool
                      ((↑(x.getD (Int.toNat (0 : Int)) (0 : UInt8)).toNat : Int) == (1 : Int)))
                     h')))) := by kernel_rfl
-- gossamer/gossamerref09.name
theorem w137 (s0 : Str) (h : AH) (R : AV → AH → Prop) : fnW prog tyt f137 (.seq .leaf (.seq (.seq .leaf (.block (.loop [(3, false, [.int .i64])] (.seq (.seq .leaf (.cond .leaf .leaf)) (.seq (.block (.seq .leaf (.cond (.seq .leaf .leaf) .leaf))) .leaf))))) (.seq .leaf .leaf))) [(.str s0)] h R = (
 ∃ (I : Int × Unit → AH → Prop),
 ∃ (μ : Int × Unit → AH → Nat),
  I ((0 : Int), ()) h ∧
   ∀ (x : Int) (h1 : AH),
    I (x, ()) h1 →
     (Decidable.decide (x < (↑(List.length s0) : Int)) = true →
       (0 : Int) ≤ x ∧
        x < (↑(List.length s0) : Int) ∧
         match Decidable.decide ((↑(List.getD s0 x.toNat (0 : UInt8)).toNat : Int) < (33 : Int)) with
         | true =>
          (true = true → R (AV.bool false) h1) ∧
           (true = false →
            I (IntKind.i64.wrap (x + (1 : Int)), ()) h1 ∧
             μ (IntKind.i64.wrap (x + (1 : Int)), ()) h1 < μ (x, ()) h1)
         | false =>
          (0 : Int) ≤ x ∧
           x < (↑(List.length s0) : Int) ∧
            ((bif false then true
               else Decidable.decide ((↑(List.getD s0 x.toNat (0 : UInt8)).toNat : Int) > (126 : Int))) =
               true →
              R (AV.bool false) h1) ∧
             ((bif false then true
               else Decidable.decide ((↑(List.getD s0 x.toNat (0 : UInt8)).toNat : Int) > (126 : Int))) =
               false →
              I (IntKind.i64.wrap (x + (1 : Int)), ()) h1 ∧
               μ (IntKind.i64.wrap (x + (1 : Int)), ()) h1 < μ (x, ()) h1)) ∧
      (Decidable.decide (x < (↑(List.length s0) : Int)) = false →
       match Decidable.decide ((↑(List.length s0) : Int) ≥ (1 : Int)) with
       | true =>
        R
         (AV.bool
          (bif true then Decidable.decide ((↑(List.length s0) : Int) ≤ (24 : Int)) else false))
         h1
       | false => R (AV.bool false) h1)) := by kernel_rfl
-- (*strings.Builder).copyCheck
theorem w178 (p0 : Pt) (h : AH) (R : AV → AH → Prop) : fnW prog tyt f178 (.seq .leaf (.cond .leaf (.seq .leaf (.cond .leaf .leaf)))) [(.ptr (some p0))] h R = (
 ∃ (x : Option Pt),
 h.rd (Pt.mk p0.b (p0.o + 0)) 1 = some [AV.ptr x] ∧
  (x.isNone = true →
    ∃ (c : List AV),
     h.rd p0 1 = some c ∧
      ACall prog (AV.func (Fn.func 251) [] [])
       [AV.ptr (some p0)] h fun (v : AV) (h : AH) ↦
       match tyt.find 373, tyt.find 56, v with
       | some (TI.plain agg ks d), some (TI.plain false [K1.int k] d_1),
        AV.int k_1 n =>
        ∃ (h' : AH),
         h.wr (p0.add 0) [AV.int k (k.wrap n)] = some h' ∧ R (AV.tuple []) h'
       | some (TI.plain false [K1.str] d),
        some (TI.plain false [K1.str] d_1), AV.str s =>
        ∃ (h' : AH), h.wr (p0.add 0) [AV.str s] = some h' ∧ R (AV.tuple []) h'
       | some (TI.plain false [K1.slice sz] (TD.slice 1 el)),
        some (TI.plain false [K1.str] d), AV.slice p n sz_1 =>
        match tyt.find el with
        | some (TI.plain false [K1.int IntKind.u8] d) =>
         ∃ (s : Str),
          SlAt h p n (List.map byteA s) ∧
           ∃ (h' : AH),
            h.wr (p0.add 0) [AV.str s] = some h' ∧ R (AV.tuple []) h'
        | x => False
       | some (TI.plain false [K1.ptr] (TD.ptr e)), some TI.uptr,
        AV.ptr q =>
        match q with
        | some a =>
         match tyt.find e with
         | some (TI.plain agg (head :: tail) d) =>
          ∃ (c : List AV),
           h.rd a 1 = some c ∧
            ∃ (h' : AH),
             h.wr (p0.add 0) [AV.ptr (some a)] = some h' ∧
              R (AV.tuple []) h'
         | x => False
        | none => False
       | some TI.uptr, some (TI.plain false [K1.ptr] (TD.ptr e)),
        AV.ptr q =>
        match q with
        | some a =>
         ∃ (ro : Bool),
          ∃ (fz : Nat),
           ∃ (el : El),
            ∃ (c : List AV),
             h.2 a.b = some (AObj.cells ro fz el c) ∧
              el.wh = true ∧
               Go.liesAt prog prog.depth el.t
                  (c.length / prog.cellsOf el.t) a.o e 1 =
                 true ∧
                ∃ (h' : AH),
                 h.wr (p0.add 0) [AV.ptr (some a)] = some h' ∧
                  R (AV.tuple []) h'
        | none => False
       | x, x_1, x_2 => False) ∧
   (x.isNone = false →
    ∃ (x : Option Pt),
     h.rd (Pt.mk p0.b (p0.o + 0)) 1 = some [AV.ptr x] ∧
      match AV.ptr x, AV.ptr (some p0) with
      | AV.int k x, AV.int k' y =>
       match Decidable.decide (k = k') with
       | true => ((x != y) = true → False) ∧ ((x != y) = false → R (AV.tuple []) h)
       | false => False
      | AV.str x, AV.str y =>
       ((!x == y) = true → False) ∧ ((!x == y) = false → R (AV.tuple []) h)
      | AV.bool x, AV.bool y => False
      | AV.ptr q, AV.ptr none =>
       ((!q.isNone) = true → False) ∧ ((!q.isNone) = false → R (AV.tuple []) h)
      | AV.ptr (some p), AV.ptr (some q) =>
       p = q ∧ (false = true → False) ∧ (false = false → R (AV.tuple []) h)
      | AV.slice q len sz, AV.slice none 0 sz_1 => False
      | AV.map q, AV.map none => False
      | AV.agg x, AV.agg y => False
      | x, x_1 => False)) := by kernel_rfl
-- gossamer/code.named
theorem w180 (s0 : Str) (h : AH) (R : AV → AH → Prop) : fnW prog tyt f180 (.seq .leaf (.seq (.seq .leaf (.block (.loop [(8, false, [.int .i64])] (.seq .leaf (.seq (.cond .leaf .leaf) (.seq (.block (.seq .leaf (.seq .leaf (.cond (.seq .leaf .leaf) .leaf)))) .leaf)))))) (.seq .leaf .leaf))) [(.str s0)] h R = (
 ∃ (I : Int × Unit → AH → Prop),
 ∃ (μ : Int × Unit → AH → Nat),
  I ((0 : Int), ())
    (h.new
     (AObj.cells false 0 (El.mk 5 false false)
      (List.map byteA s0))) ∧
   ∀ (x : Int) (h1 : AH),
    I (x, ()) h1 →
     (Decidable.decide (x < (↑(List.length s0) : Int)) = true →
       (0 : Int) ≤ x ∧
        x < (↑(List.length s0) : Int) ∧
         ∃ (x_1 : Int),
          h1.rd (Pt.mk h.next (0 + x.toNat * 1)) 1 =
            some [AV.int IntKind.u8 x_1] ∧
           match Decidable.decide (x_1 ≤ (32 : Int)) with
           | true =>
            (true = true → R (AV.bool false) h1) ∧
             (true = false →
              I (IntKind.i64.wrap (x + (1 : Int)), ()) h1 ∧
               μ (IntKind.i64.wrap (x + (1 : Int)), ()) h1 < μ (x, ()) h1)
           | false =>
            ((bif false then true else Decidable.decide (x_1 > (126 : Int))) = true →
              R (AV.bool false) h1) ∧
             ((bif false then true else Decidable.decide (x_1 > (126 : Int))) = false →
              I (IntKind.i64.wrap (x + (1 : Int)), ()) h1 ∧
               μ (IntKind.i64.wrap (x + (1 : Int)), ()) h1 < μ (x, ()) h1)) ∧
      (Decidable.decide (x < (↑(List.length s0) : Int)) = false →
       match !s0 == #[].toList with
       | true =>
        R
         (AV.bool
          (bif true then Decidable.decide ((↑(List.length s0) : Int) ≤ (24 : Int)) else false))
         h1
       | false => R (AV.bool false) h1)) := by kernel_rfl
-- gossamer/gossamerref05.Bytes
theorem w181 (a0 : Option Pt) (n0 : Nat) (h : AH) (R : AV → AH → Prop) : fnW prog tyt f181 (.seq .leaf (.seq .leaf (.seq (.seq .leaf (.block (.loop [(4, false, [.int .i64]), (3, false, [.str])] (.seq (.seq .leaf (.cond .leaf .leaf)) (.seq (.block .leaf) .leaf))))) (.seq .leaf .leaf)))) [(.slice a0 n0 3)] h R = (
 ∃ (I : Int × List UInt8 × Unit → AH → Prop),
 ∃ (μ : Int × List UInt8 × Unit → AH → Nat),
  I ((0 : Int), #[].toList, ()) h ∧
   ∀ (x : Int) (x_1 : List UInt8) (h1 : AH),
    I (x, x_1, ()) h1 →
     (Decidable.decide (x < (↑n0 : Int)) = true →
       (0 : Int) ≤ x ∧
        x < (↑n0 : Int) ∧
         match a0 with
         | some a =>
          ∃ (x_2 : Int × Int × List UInt8),
           h1.rd (Pt.mk a.b (a.o + x.toNat * 3)) 3 =
             some
              [AV.int IntKind.i64 x_2.1, AV.int IntKind.i64 x_2.2.1,
               AV.str x_2.2.2] ∧
            ACall prog (AV.func (Fn.func 252) [] [])
             [AV.agg
               [AV.int IntKind.i64 x_2.1, AV.int IntKind.i64 x_2.2.1,
                AV.str x_2.2.2]]
             h1 fun (v : AV) (h : AH) ↦
             ∃ (x_3 : List UInt8),
              v = AV.str x_3 ∧
               x_1.length + x_3.length < 4611686018427387904 ∧
                I (IntKind.i64.wrap (x + (1 : Int)), x_1 ++ x_3, ()) h ∧
                 μ (IntKind.i64.wrap (x + (1 : Int)), x_1 ++ x_3, ()) h < μ (x, x_1, ()) h1
         | none => False) ∧
      (Decidable.decide (x < (↑n0 : Int)) = false → R (AV.str x_1) h1)) := by kernel_rfl
-- gossamer/gossamerref09.one
theorem w182 (b0 : Bool) (h : AH) (R : AV → AH → Prop) : fnW prog tyt f182 (.seq .leaf (.seq (.seq .leaf (.cond (.seq .leaf .leaf) .leaf)) (.seq .leaf .leaf))) [(.bool b0)] h R = (
 (b0 = true → R (AV.int IntKind.i64 (1 : Int)) h) ∧
 (b0 = false → R (AV.int IntKind.i64 (0 : Int)) h)) := by kernel_rfl
-- gossamer/gossamerref05.Put
theorem w252 (x0_0 : Int) (x0_1 : Int) (s0_2 : Str) (h : AH) (R : AV → AH → Prop) : fnW prog tyt f252 (.seq .leaf (.seq (.seq .leaf (.block (.seq .leaf (.cond (.seq .leaf .leaf) (.seq .leaf (.cond (.seq .leaf .leaf) (.seq .leaf (.cond (.seq (.draw [0, 1, 2, 4, 5, 3, 6, 7]) .leaf) (.seq .leaf (.cond (.seq (.seq .leaf (.cond (.seq .leaf .leaf) .leaf)) (.seq .leaf .leaf)) .leaf)))))))))) (.seq .leaf .leaf))) [(.agg [(.int .i64 x0_0), (.int .i64 x0_1), (.str s0_2)])] h R = (
 ∃ (x : Int),
 (h.new
      (AObj.cells false 0 (El.mk 297 true true)
       [AV.int IntKind.i64 x0_0, AV.int IntKind.i64 x0_1, AV.str s0_2])).rd
    (Pt.mk h.next (0 + 0)) 1 =
   some [AV.int IntKind.i64 x] ∧
  ((x == (1 : Int)) = true →
    ∃ (x : Int),
     (h.new
          (AObj.cells false 0 (El.mk 297 true true)
           [AV.int IntKind.i64 x0_0, AV.int IntKind.i64 x0_1, AV.str s0_2])).rd
        (Pt.mk h.next (0 + 1)) 1 =
       some [AV.int IntKind.i64 x] ∧
      ACall prog (AV.func (Fn.func 67) [] [])
       [AV.int IntKind.i64 x]
       (h.new
        (AObj.cells false 0 (El.mk 297 true true)
         [AV.int IntKind.i64 x0_0, AV.int IntKind.i64 x0_1, AV.str s0_2]))
       fun (v : AV) (h : AH) ↦ ∃ (x : List UInt8), v = AV.str x ∧ R (AV.str x) h) ∧
   ((x == (1 : Int)) = false →
    ((x == (2 : Int)) = true →
      ∃ (x : Int),
       (h.new
            (AObj.cells false 0 (El.mk 297 true true)
             [AV.int IntKind.i64 x0_0, AV.int IntKind.i64 x0_1, AV.str s0_2])).rd
          (Pt.mk h.next (0 + 1)) 1 =
         some [AV.int IntKind.i64 x] ∧
        ACall prog (AV.func (Fn.func 28) [] [])
         [AV.int IntKind.i64 x]
         (h.new
          (AObj.cells false 0 (El.mk 297 true true)
           [AV.int IntKind.i64 x0_0, AV.int IntKind.i64 x0_1, AV.str s0_2]))
         fun (v : AV) (h : AH) ↦ ∃ (x : List UInt8), v = AV.str x ∧ R (AV.str x) h) ∧
     ((x == (2 : Int)) = false →
      ((x == (3 : Int)) = true →
        ∃ (x : List UInt8),
         (h.new
              (AObj.cells false 0 (El.mk 297 true true)
               [AV.int IntKind.i64 x0_0, AV.int IntKind.i64 x0_1,
                AV.str s0_2])).rd
            (Pt.mk h.next (0 + 2)) 1 =
           some [AV.str x] ∧
          ∃ (x_1 : List UInt8),
           (h.new
                (AObj.cells false 0 (El.mk 297 true true)
                 [AV.int IntKind.i64 x0_0, AV.int IntKind.i64 x0_1,
                  AV.str s0_2])).rd
              (Pt.mk h.next (0 + 2)) 1 =
             some [AV.str x_1] ∧
            ACall prog (AV.func (Fn.func 67) [] [])
             [AV.int IntKind.i64 (↑x.length : Int)]
             (h.new
              (AObj.cells false 0 (El.mk 297 true true)
               [AV.int IntKind.i64 x0_0, AV.int IntKind.i64 x0_1, AV.str s0_2]))
             fun (v : AV) (h_1 : AH) ↦
             ∃ (x : List UInt8),
              v = AV.str x ∧
               h_1.rd (Pt.mk h.next (0 + 2)) 1 =
                 some [AV.str x_1] ∧
                x.length + x_1.length < 4611686018427387904 ∧ R (AV.str (x ++ x_1)) h_1) ∧
       ((x == (3 : Int)) = false →
        ((x == (4 : Int)) = true →
          ∃ (x : Int),
           (h.new
                (AObj.cells false 0 (El.mk 297 true true)
                 [AV.int IntKind.i64 x0_0, AV.int IntKind.i64 x0_1,
                  AV.str s0_2])).rd
              (Pt.mk h.next (0 + 1)) 1 =
             some [AV.int IntKind.i64 x] ∧
            ((x == (1 : Int)) = true →
              R (AV.str [(1 : UInt8)])
               (h.new
                (AObj.cells false 0 (El.mk 297 true true)
                 [AV.int IntKind.i64 x0_0, AV.int IntKind.i64 x0_1,
                  AV.str s0_2]))) ∧
             ((x == (1 : Int)) = false →
              R (AV.str [(0 : UInt8)])
               (h.new
                (AObj.cells false 0 (El.mk 297 true true)
                 [AV.int IntKind.i64 x0_0, AV.int IntKind.i64 x0_1,
                  AV.str s0_2])))) ∧
         ((x == (4 : Int)) = false →
          R (AV.str [])
           (h.new
            (AObj.cells false 0 (El.mk 297 true true)
             [AV.int IntKind.i64 x0_0, AV.int IntKind.i64 x0_1, AV.str s0_2]))))))) := by kernel_rfl
-- slices.ContainsFunc[[]gossamer/api.Span,gossamer/api.Span]
theorem w122 (a0 : Option Pt) (n0 : Nat) (g1 : AV) (h : AH) (R : AV → AH → Prop) : fnW prog tyt f122 (.seq .leaf (.seq .leaf .leaf)) [(.slice a0 n0 9), g1] h R = (
 ACall prog (AV.func (Fn.func 179) [] []) [AV.slice a0 n0 9, g1] h
 fun (v : AV) (h : AH) ↦
 ∃ (x : Int), v = AV.int IntKind.i64 x ∧ R (AV.bool (Decidable.decide (x ≥ (0 : Int)))) h) := by kernel_rfl
-- slices.IndexFunc[[]gossamer/api.Span,gossamer/api.Span]
theorem w179 (a0 : Option Pt) (n0 : Nat) (g1 : AV) (h : AH) (R : AV → AH → Prop) : fnW prog tyt f179 (.seq .leaf (.seq (.seq .leaf (.block (.loop [(8, false, [.int .i64])] (.seq .leaf (.seq (.cond .leaf .leaf) (.seq (.block (.seq .leaf (.seq .leaf (.cond (.seq .leaf .leaf) .leaf)))) .leaf)))))) (.seq .leaf .leaf))) [(.slice a0 n0 9), g1] h R = (
 ∃ (I : Int × Unit → AH → Prop),
 ∃ (μ : Int × Unit → AH → Nat),
  I ((0 : Int), ()) h ∧
   ∀ (x : Int) (h1 : AH),
    I (x, ()) h1 →
     (Decidable.decide (x < (↑n0 : Int)) = true →
       (0 : Int) ≤ x ∧
        x < (↑n0 : Int) ∧
         match a0 with
         | some a =>
          ∃ (x_1 : Int × Int × Int × Int × List UInt8 × List UInt8 × Int × Int × Bool),
           h1.rd (Pt.mk a.b (a.o + x.toNat * 9)) 9 =
             some
              [AV.int IntKind.i64 x_1.1, AV.int IntKind.i64 x_1.2.1,
               AV.int IntKind.i64 x_1.2.2.1,
               AV.int IntKind.i64 x_1.2.2.2.1, AV.str x_1.2.2.2.2.1,
               AV.str x_1.2.2.2.2.2.1,
               AV.int IntKind.i64 x_1.2.2.2.2.2.2.1,
               AV.int IntKind.i64 x_1.2.2.2.2.2.2.2.1,
               AV.bool x_1.2.2.2.2.2.2.2.2] ∧
            ACall prog g1
             [AV.agg
               [AV.int IntKind.i64 x_1.1, AV.int IntKind.i64 x_1.2.1,
                AV.int IntKind.i64 x_1.2.2.1,
                AV.int IntKind.i64 x_1.2.2.2.1, AV.str x_1.2.2.2.2.1,
                AV.str x_1.2.2.2.2.2.1,
                AV.int IntKind.i64 x_1.2.2.2.2.2.2.1,
                AV.int IntKind.i64 x_1.2.2.2.2.2.2.2.1,
                AV.bool x_1.2.2.2.2.2.2.2.2]]
             h1 fun (v : AV) (h : AH) ↦
             ∃ (x_2 : Bool),
              v = AV.bool x_2 ∧
               (x_2 = true → R (AV.int IntKind.i64 x) h) ∧
                (x_2 = false →
                 I (IntKind.i64.wrap (x + (1 : Int)), ()) h ∧
                  μ (IntKind.i64.wrap (x + (1 : Int)), ()) h < μ (x, ()) h1)
         | none => False) ∧
      (Decidable.decide (x < (↑n0 : Int)) = false → R (AV.int IntKind.i64 (-1 : Int)) h1)) := by kernel_rfl
-- gossamer/code.May
theorem w124 (x0_0 : Int) (x0_1 : Int) (x0_2 : Int) (x0_3 : Int) (s0_4 : Str) (s0_5 : Str) (x0_6 : Int) (x0_7 : Int) (b0_8 : Bool) (h : AH) (R : AV → AH → Prop) : fnW prog tyt f124 (.seq .leaf (.seq .leaf (.seq (.seq .leaf (.cond (.seq .leaf .leaf) .leaf)) (.seq .leaf .leaf)))) [(.agg [(.int .i64 x0_0), (.int .i64 x0_1), (.int .i64 x0_2), (.int .i64 x0_3), (.str s0_4), (.str s0_5), (.int .i64 x0_6), (.int .i64 x0_7), (.bool b0_8)])] h R = (
 ∃ (x : Int),
 (h.new
      (AObj.cells false 0 (El.mk 37 true true)
       [AV.int IntKind.i64 x0_0, AV.int IntKind.i64 x0_1, AV.int IntKind.i64 x0_2,
        AV.int IntKind.i64 x0_3, AV.str s0_4, AV.str s0_5,
        AV.int IntKind.i64 x0_6, AV.int IntKind.i64 x0_7, AV.bool b0_8])).rd
    (Pt.mk h.next (0 + 0)) 1 =
   some [AV.int IntKind.i64 x] ∧
  match Decidable.decide (x > (0 : Int)) with
  | true =>
   ∃ (x : Int),
    (h.new
         (AObj.cells false 0 (El.mk 37 true true)
          [AV.int IntKind.i64 x0_0, AV.int IntKind.i64 x0_1,
           AV.int IntKind.i64 x0_2, AV.int IntKind.i64 x0_3, AV.str s0_4,
           AV.str s0_5, AV.int IntKind.i64 x0_6, AV.int IntKind.i64 x0_7,
           AV.bool b0_8])).rd
       (Pt.mk h.next (0 + 1)) 1 =
      some [AV.int IntKind.i64 x] ∧
     match bif true then Decidable.decide (x > (0 : Int)) else false with
     | true =>
      ∃ (x : Int),
       (h.new
            (AObj.cells false 0 (El.mk 37 true true)
             [AV.int IntKind.i64 x0_0, AV.int IntKind.i64 x0_1,
              AV.int IntKind.i64 x0_2, AV.int IntKind.i64 x0_3, AV.str s0_4,
              AV.str s0_5, AV.int IntKind.i64 x0_6, AV.int IntKind.i64 x0_7,
              AV.bool b0_8])).rd
          (Pt.mk h.next (0 + 2)) 1 =
         some [AV.int IntKind.i64 x] ∧
        match bif true then Decidable.decide (x ≥ (0 : Int)) else false with
        | true =>
         ∃ (x : Int),
          (h.new
               (AObj.cells false 0 (El.mk 37 true true)
                [AV.int IntKind.i64 x0_0, AV.int IntKind.i64 x0_1,
                 AV.int IntKind.i64 x0_2, AV.int IntKind.i64 x0_3, AV.str s0_4,
                 AV.str s0_5, AV.int IntKind.i64 x0_6, AV.int IntKind.i64 x0_7,
                 AV.bool b0_8])).rd
             (Pt.mk h.next (0 + 3)) 1 =
            some [AV.int IntKind.i64 x] ∧
           match !bif true then Decidable.decide (x ≥ (0 : Int)) else false with
           | true =>
            (true = true →
              R (AV.int IntKind.i64 (1 : Int))
               (h.new
                (AObj.cells false 0 (El.mk 37 true true)
                 [AV.int IntKind.i64 x0_0, AV.int IntKind.i64 x0_1,
                  AV.int IntKind.i64 x0_2, AV.int IntKind.i64 x0_3,
                  AV.str s0_4, AV.str s0_5, AV.int IntKind.i64 x0_6,
                  AV.int IntKind.i64 x0_7, AV.bool b0_8]))) ∧
             (true = false →
              R (AV.int IntKind.i64 (0 : Int))
               (h.new
                (AObj.cells false 0 (El.mk 37 true true)
                 [AV.int IntKind.i64 x0_0, AV.int IntKind.i64 x0_1,
                  AV.int IntKind.i64 x0_2, AV.int IntKind.i64 x0_3,
                  AV.str s0_4, AV.str s0_5, AV.int IntKind.i64 x0_6,
                  AV.int IntKind.i64 x0_7, AV.bool b0_8])))
           | false =>
            ∃ (x : List UInt8),
             (h.new
                  (AObj.cells false 0 (El.mk 37 true true)
                   [AV.int IntKind.i64 x0_0, AV.int IntKind.i64 x0_1,
                    AV.int IntKind.i64 x0_2, AV.int IntKind.i64 x0_3,
                    AV.str s0_4, AV.str s0_5, AV.int IntKind.i64 x0_6,
                    AV.int IntKind.i64 x0_7, AV.bool b0_8])).rd
                (Pt.mk h.next (0 + 4)) 1 =
               some [AV.str x] ∧
              ACall prog (AV.func (Fn.func 180) [] [])
               [AV.str x]
               (h.new
                (AObj.cells false 0 (El.mk 37 true true)
                 [AV.int IntKind.i64 x0_0, AV.int IntKind.i64 x0_1,
                  AV.int IntKind.i64 x0_2, AV.int IntKind.i64 x0_3,
                  AV.str s0_4, AV.str s0_5, AV.int IntKind.i64 x0_6,
                  AV.int IntKind.i64 x0_7, AV.bool b0_8]))
               fun (v : AV) (h_1 : AH) ↦
               ∃ (x : Bool),
                v = AV.bool x ∧
                 match bif false then true else !x with
                 | true =>
                  (true = true → R (AV.int IntKind.i64 (1 : Int)) h_1) ∧
                   (true = false → R (AV.int IntKind.i64 (0 : Int)) h_1)
                 | false =>
                  ∃ (x : List UInt8),
                   h_1.rd (Pt.mk h.next (0 + 5)) 1 =
                     some [AV.str x] ∧
                    ACall prog (AV.func (Fn.func 180) [] [])
                     [AV.str x] h_1 fun (v : AV) (h_2 : AH) ↦
                     ∃ (x : Bool),
                      v = AV.bool x ∧
                       match bif false then true else !x with
                       | true =>
                        (true = true →
                          R (AV.int IntKind.i64 (1 : Int)) h_2) ∧
                         (true = false →
                          R (AV.int IntKind.i64 (0 : Int)) h_2)
                       | false =>
                        ∃ (x : Int),
                         h_2.rd (Pt.mk h.next (0 + 6)) 1 =
                           some [AV.int IntKind.i64 x] ∧
                          match
                           bif false then true
                           else Decidable.decide (x < (-4611686018427387904 : Int)) with
                          | true =>
                           (true = true →
                             R (AV.int IntKind.i64 (1 : Int)) h_2) ∧
                            (true = false →
                             R (AV.int IntKind.i64 (0 : Int)) h_2)
                          | false =>
                           ∃ (x : Int),
                            h_2.rd (Pt.mk h.next (0 + 6)) 1 =
                              some [AV.int IntKind.i64 x] ∧
                             ((bif false then true
                                else
                                 Decidable.decide (x > (4611686018427387903 : Int))) =
                                true →
                               R (AV.int IntKind.i64 (1 : Int)) h_2) ∧
                              ((bif false then true
                                else
                                 Decidable.decide (x > (4611686018427387903 : Int))) =
                                false →
                               R (AV.int IntKind.i64 (0 : Int)) h_2)
        | false =>
         (true = true →
           R (AV.int IntKind.i64 (1 : Int))
            (h.new
             (AObj.cells false 0 (El.mk 37 true true)
              [AV.int IntKind.i64 x0_0, AV.int IntKind.i64 x0_1,
               AV.int IntKind.i64 x0_2, AV.int IntKind.i64 x0_3, AV.str s0_4,
               AV.str s0_5, AV.int IntKind.i64 x0_6, AV.int IntKind.i64 x0_7,
               AV.bool b0_8]))) ∧
          (true = false →
           R (AV.int IntKind.i64 (0 : Int))
            (h.new
             (AObj.cells false 0 (El.mk 37 true true)
              [AV.int IntKind.i64 x0_0, AV.int IntKind.i64 x0_1,
               AV.int IntKind.i64 x0_2, AV.int IntKind.i64 x0_3, AV.str s0_4,
               AV.str s0_5, AV.int IntKind.i64 x0_6, AV.int IntKind.i64 x0_7,
               AV.bool b0_8])))
     | false =>
      (true = true →
        R (AV.int IntKind.i64 (1 : Int))
         (h.new
          (AObj.cells false 0 (El.mk 37 true true)
           [AV.int IntKind.i64 x0_0, AV.int IntKind.i64 x0_1,
            AV.int IntKind.i64 x0_2, AV.int IntKind.i64 x0_3, AV.str s0_4,
            AV.str s0_5, AV.int IntKind.i64 x0_6, AV.int IntKind.i64 x0_7,
            AV.bool b0_8]))) ∧
       (true = false →
        R (AV.int IntKind.i64 (0 : Int))
         (h.new
          (AObj.cells false 0 (El.mk 37 true true)
           [AV.int IntKind.i64 x0_0, AV.int IntKind.i64 x0_1,
            AV.int IntKind.i64 x0_2, AV.int IntKind.i64 x0_3, AV.str s0_4,
            AV.str s0_5, AV.int IntKind.i64 x0_6, AV.int IntKind.i64 x0_7,
            AV.bool b0_8])))
  | false =>
   (true = true →
     R (AV.int IntKind.i64 (1 : Int))
      (h.new
       (AObj.cells false 0 (El.mk 37 true true)
        [AV.int IntKind.i64 x0_0, AV.int IntKind.i64 x0_1, AV.int IntKind.i64 x0_2,
         AV.int IntKind.i64 x0_3, AV.str s0_4, AV.str s0_5,
         AV.int IntKind.i64 x0_6, AV.int IntKind.i64 x0_7, AV.bool b0_8]))) ∧
    (true = false →
     R (AV.int IntKind.i64 (0 : Int))
      (h.new
       (AObj.cells false 0 (El.mk 37 true true)
        [AV.int IntKind.i64 x0_0, AV.int IntKind.i64 x0_1, AV.int IntKind.i64 x0_2,
         AV.int IntKind.i64 x0_3, AV.str s0_4, AV.str s0_5,
         AV.int IntKind.i64 x0_6, AV.int IntKind.i64 x0_7, AV.bool b0_8])))) := by kernel_rfl
end Go.Lm
/- Law 36, main part: heaps, and what the functions compute. -/
namespace Go.Lm
open Go Go.La Go.RowKit Go.Proofs.Tryz

theorem get_new (h : AH) (o : AObj) : (h.new o).get h.next = some o := by rw [AH.new_get, if_pos rfl]
theorem get_new' {h : AH} {o : AObj} {b : Nat} {x : Option AObj} (e : h.get b = x) (hb : b < h.next) : (h.new o).get b = x := by rw [AH.new_get, if_neg (by omega)]; exact e
theorem get_set (h : AH) (b : Nat) (o : Option AObj) : (h.set b o).get b = o := by rw [AH.set_get, if_pos rfl]
theorem get_set' {h : AH} {b c : Nat} {o x : Option AObj} (e : h.get b = x) (hb : b ≠ c) : (h.set c o).get b = x := by rw [AH.set_get, if_neg hb]; exact e
theorem rdg {h : AH} {b o n : Nat} {ro : Bool} {fz : Nat} {el : El} {c : List AV} (hb : h.get b = some (.cells ro fz el c)) (hl : o + n ≤ c.length) : h.rd ⟨b, o⟩ n = some ((c.drop o).take n) := by
  simp only [AH.rd, hb, hl, if_true]
theorem wrg {h : AH} {b o : Nat} {fz : Nat} {el : El} {c l : List AV} (hb : h.get b = some (.cells false fz el c)) (hl : o + l.length ≤ c.length) (hf : fz ≤ o) : h.wr ⟨b, o⟩ l = some (h.set b (some (.cells false fz el (splice c o l)))) := by
  simp only [AH.wr, hb, hl, hf, and_self, if_true]

/-- Digits to the base 128. -/
def dig (n : Nat) : Str := if n < 128 then [UInt8.ofNat n] else UInt8.ofNat (n % 128 + 128) :: dig (n / 128)
termination_by n
decreasing_by omega
theorem dig_lt {n : Nat} (h : n < 128) : dig n = [UInt8.ofNat n] := by rw [dig, if_pos h]
theorem dig_ge {n : Nat} (h : ¬ n < 128) : dig n = UInt8.ofNat (n % 128 + 128) :: dig (n / 128) := by rw [dig, if_neg h]
theorem dig_len : ∀ (k n : Nat), n < 128 ^ (k + 1) → (dig n).length ≤ k + 1
  | 0, n, h => by rw [dig_lt (by simpa using h)]; simp
  | k + 1, n, h => by
    by_cases hn : n < 128
    · rw [dig_lt hn]; simp
    · rw [dig_ge hn]
      have := dig_len k (n / 128) (by rw [Nat.div_lt_iff_lt_mul (by omega)]; rw [Nat.pow_succ] at h; exact h)
      simp only [List.length_cons]; omega
theorem dig_len10 {n : Nat} (h : n < 2 ^ 64) : (dig n).length ≤ 10 := dig_len 9 n (by omega)
def zig (n : Int) : Nat := if 0 ≤ n then (2 * n).toNat else (2 * (-(n + 1)) + 1).toNat
def num (n : Int) : Str := if n < 0 then [] else dig n.toNat
def sgn (n : Int) : Str := dig (zig n)
def I64 (n : Int) : Prop := -(2 ^ 63) ≤ n ∧ n < 2 ^ 63

theorem wrap_u64 {n : Int} (h0 : 0 ≤ n) (h1 : n < 2 ^ 64) : IntKind.u64.wrap n = n := by
  simp only [IntKind.wrap, IntKind.signed, IntKind.bits]; simp; omega
theorem wrap_u8 (n : Int) : IntKind.u8.wrap n = n % 256 := by
  simp only [IntKind.wrap, IntKind.signed, IntKind.bits]; simp
theorem wrap_i64 {n : Int} (h : I64 n) : IntKind.i64.wrap n = n := by
  unfold I64 at h
  simp only [IntKind.wrap, IntKind.signed, IntKind.bits]; simp; omega
end Go.Lm
