/- Part 5 of the proof: WfA. By an AI agent. -/
import Derived.Test.YtjfodgdlgohioaaGreatDoorP4
set_option linter.all false
namespace Go.Lm
open Go Go.La Go.RowKit Go.Proofs.Tryz
set_option maxRecDepth 100000
-- gossamer/gossamerlaw36.ReviveCodes
theorem w3 (x0_0 : Int) (a0_1 : Option Pt) (n0_1 : Nat) (x0_2 : Int) (s1 : Str) (h : AH) (R : AV → AH → Prop) : fnW prog tyt f3 (.seq .leaf (.seq (.seq .leaf (.cond (.seq .leaf .leaf) .leaf)) (.seq .leaf (.seq .leaf (.seq .leaf (.seq .leaf (.seq .leaf .leaf))))))) [(.agg [(.int .i64 x0_0), (.slice a0_1 n0_1 9), (.int .i64 x0_2)]), (.str s1)] h R = (
 ∃ (x : Sl),
 (h.new
      (AObj.cells false 0 (El.mk 24 true true)
       [AV.int IntKind.i64 x0_0, AV.slice a0_1 n0_1 9,
        AV.int IntKind.i64 x0_2])).rd
    (Pt.mk h.next (0 + 1)) 1 =
   some [AV.slice x.1 x.len 9] ∧
  ACall prog (AV.func (Fn.func 5) [] [])
   [AV.slice x.1 x.len 9, AV.int IntKind.i64 (8 : Int)]
   (h.new
    (AObj.cells false 0 (El.mk 24 true true)
     [AV.int IntKind.i64 x0_0, AV.slice a0_1 n0_1 9, AV.int IntKind.i64 x0_2]))
   fun (v : AV) (h_1 : AH) ↦
   ∃ (x : Bool),
    v = AV.bool x ∧
     match !x with
     | true =>
      (true = true →
        ACall prog (AV.func (Fn.func 6) [] []) [] h_1
         fun (v : AV) (h : AH) ↦ ∃ (x : Bool), v = AV.bool x ∧ R (AV.bool x) h) ∧
       (true = false →
        ∃ (x : Int × Sl × Int),
         h_1.rd (Pt.mk h.next 0) 3 =
           some
            [AV.int IntKind.i64 x.1, AV.slice x.2.1.1 x.2.1.len 9,
             AV.int IntKind.i64 x.2.2] ∧
          ACall prog (AV.func (Fn.func 7) [] [])
           [AV.agg
             [AV.int IntKind.i64 x.1, AV.slice x.2.1.1 x.2.1.len 9,
              AV.int IntKind.i64 x.2.2]]
           h_1 fun (v : AV) (h_2 : AH) ↦
           ∃ (x : List UInt8 × Int × Unit),
            v = AV.tuple [AV.str x.1, AV.int IntKind.i64 x.2.1] ∧
             ∃ (x_1 : Int × Sl × Int),
              h_2.rd (Pt.mk h.next 0) 3 =
                some
                 [AV.int IntKind.i64 x_1.1,
                  AV.slice x_1.2.1.1 x_1.2.1.len 9,
                  AV.int IntKind.i64 x_1.2.2] ∧
               ACall prog (AV.func (Fn.func 8) [] [])
                [AV.agg
                  [AV.int IntKind.i64 x_1.1,
                   AV.slice x_1.2.1.1 x_1.2.1.len 9,
                   AV.int IntKind.i64 x_1.2.2]]
                h_2 fun (v : AV) (h : AH) ↦
                ∃ (x_2 : List UInt8 × Int × Unit),
                 v = AV.tuple [AV.str x_2.1, AV.int IntKind.i64 x_2.2.1] ∧
                  ACall prog (AV.func (Fn.func 9) [] [])
                   [AV.str s1] h fun (v : AV) (h : AH) ↦
                   ∃ (x_3 : (Int × Sl × Int) × Int × Unit),
                    v =
                      AV.tuple
                       [AV.agg
                         [AV.int IntKind.i64 x_3.1.1,
                          AV.slice x_3.1.2.1.1 x_3.1.2.1.len 9,
                          AV.int IntKind.i64 x_3.1.2.2],
                        AV.int IntKind.i64 x_3.2.1] ∧
                     ∃ (h' : AH),
                      (h.new
                           (AObj.cells false 0
                            (El.mk 24 true true)
                            [AV.int IntKind.i64 (0 : Int),
                             AV.slice none 0 9,
                             AV.int IntKind.i64 (0 : Int)])).wr
                         (Pt.mk h.next 0)
                         (encTup
                          [K1.int IntKind.i64, K1.slice 9,
                           K1.int IntKind.i64]
                          x_3.1) =
                        some h' ∧
                       ACall prog
                        (AV.func (Fn.func 10) [] []) [AV.str s1] h'
                        fun (v : AV) (h_3 : AH) ↦
                        ∃ (x_4 : (Int × Sl × Int) × Int × Unit),
                         v =
                           AV.tuple
                            [AV.agg
                              [AV.int IntKind.i64 x_4.1.1,
                               AV.slice x_4.1.2.1.1 x_4.1.2.1.len
                                9,
                               AV.int IntKind.i64 x_4.1.2.2],
                             AV.int IntKind.i64 x_4.2.1] ∧
                          ∃ (h' : AH),
                           (h_3.new
                                (AObj.cells false 0
                                 (El.mk 24 true true)
                                 [AV.int IntKind.i64 (0 : Int),
                                  AV.slice none 0 9,
                                  AV.int IntKind.i64 (0 : Int)])).wr
                              (Pt.mk h_3.next 0)
                              (encTup
                               [K1.int IntKind.i64, K1.slice 9,
                                K1.int IntKind.i64]
                               x_4.1) =
                             some h' ∧
                            match x.1 == x_2.1 with
                            | true =>
                             match
                              bif true then x.2.1 == x_2.2.1
                              else false with
                             | true =>
                              ∃ (x : Int × Sl × Int),
                               h'.rd (Pt.mk h.next 0) 3 =
                                 some
                                  [AV.int IntKind.i64 x.1,
                                   AV.slice x.2.1.1 x.2.1.len
                                    9,
                                   AV.int IntKind.i64 x.2.2] ∧
                                ∃ (x_5 : Int × Sl × Int),
                                 h'.rd (Pt.mk h_3.next 0) 3 =
                                   some
                                    [AV.int IntKind.i64 x_5.1,
                                     AV.slice x_5.2.1.1 x_5.2.1.len
                                      9,
                                     AV.int IntKind.i64 x_5.2.2] ∧
                                  ACall prog
                                   (AV.func (Fn.func 11) [] [])
                                   [AV.agg
                                     [AV.int IntKind.i64 x.1,
                                      AV.slice x.2.1.1 x.2.1.len
                                       9,
                                      AV.int IntKind.i64 x.2.2],
                                    AV.agg
                                     [AV.int IntKind.i64 x_5.1,
                                      AV.slice x_5.2.1.1 x_5.2.1.len
                                       9,
                                      AV.int IntKind.i64 x_5.2.2]]
                                   h' fun (v : AV) (h : AH) ↦
                                   ∃ (x : Bool),
                                    v = AV.bool x ∧
                                     match
                                      bif true then x else false with
                                     | true =>
                                      match
                                       bif true then
                                        x_3.2.1 == x_4.2.1
                                       else false with
                                      | true =>
                                       ACall prog
                                        (AV.func (Fn.func 6) []
                                         [])
                                        [] h fun (v : AV) (h : AH) ↦
                                        ∃ (x : Bool),
                                         v = AV.bool x ∧
                                          R
                                           (AV.bool
                                            (bif true then x
                                            else false))
                                           h
                                      | false =>
                                       R (AV.bool false) h
                                     | false => R (AV.bool false) h
                             | false => R (AV.bool false) h'
                            | false => R (AV.bool false) h')
     | false =>
      ((bif false then true else Decidable.decide ((↑(List.length s1) : Int) > (1024 : Int))) =
         true →
        ACall prog (AV.func (Fn.func 6) [] []) [] h_1
         fun (v : AV) (h : AH) ↦ ∃ (x : Bool), v = AV.bool x ∧ R (AV.bool x) h) ∧
       ((bif false then true else Decidable.decide ((↑(List.length s1) : Int) > (1024 : Int))) =
         false →
        ∃ (x : Int × Sl × Int),
         h_1.rd (Pt.mk h.next 0) 3 =
           some
            [AV.int IntKind.i64 x.1, AV.slice x.2.1.1 x.2.1.len 9,
             AV.int IntKind.i64 x.2.2] ∧
          ACall prog (AV.func (Fn.func 7) [] [])
           [AV.agg
             [AV.int IntKind.i64 x.1, AV.slice x.2.1.1 x.2.1.len 9,
              AV.int IntKind.i64 x.2.2]]
           h_1 fun (v : AV) (h_2 : AH) ↦
           ∃ (x : List UInt8 × Int × Unit),
            v = AV.tuple [AV.str x.1, AV.int IntKind.i64 x.2.1] ∧
             ∃ (x_1 : Int × Sl × Int),
              h_2.rd (Pt.mk h.next 0) 3 =
                some
                 [AV.int IntKind.i64 x_1.1,
                  AV.slice x_1.2.1.1 x_1.2.1.len 9,
                  AV.int IntKind.i64 x_1.2.2] ∧
               ACall prog (AV.func (Fn.func 8) [] [])
                [AV.agg
                  [AV.int IntKind.i64 x_1.1,
                   AV.slice x_1.2.1.1 x_1.2.1.len 9,
                   AV.int IntKind.i64 x_1.2.2]]
                h_2 fun (v : AV) (h : AH) ↦
                ∃ (x_2 : List UInt8 × Int × Unit),
                 v = AV.tuple [AV.str x_2.1, AV.int IntKind.i64 x_2.2.1] ∧
                  ACall prog (AV.func (Fn.func 9) [] [])
                   [AV.str s1] h fun (v : AV) (h : AH) ↦
                   ∃ (x_3 : (Int × Sl × Int) × Int × Unit),
                    v =
                      AV.tuple
                       [AV.agg
                         [AV.int IntKind.i64 x_3.1.1,
                          AV.slice x_3.1.2.1.1 x_3.1.2.1.len 9,
                          AV.int IntKind.i64 x_3.1.2.2],
                        AV.int IntKind.i64 x_3.2.1] ∧
                     ∃ (h' : AH),
                      (h.new
                           (AObj.cells false 0
                            (El.mk 24 true true)
                            [AV.int IntKind.i64 (0 : Int),
                             AV.slice none 0 9,
                             AV.int IntKind.i64 (0 : Int)])).wr
                         (Pt.mk h.next 0)
                         (encTup
                          [K1.int IntKind.i64, K1.slice 9,
                           K1.int IntKind.i64]
                          x_3.1) =
                        some h' ∧
                       ACall prog
                        (AV.func (Fn.func 10) [] []) [AV.str s1] h'
                        fun (v : AV) (h_3 : AH) ↦
                        ∃ (x_4 : (Int × Sl × Int) × Int × Unit),
                         v =
                           AV.tuple
                            [AV.agg
                              [AV.int IntKind.i64 x_4.1.1,
                               AV.slice x_4.1.2.1.1 x_4.1.2.1.len
                                9,
                               AV.int IntKind.i64 x_4.1.2.2],
                             AV.int IntKind.i64 x_4.2.1] ∧
                          ∃ (h' : AH),
                           (h_3.new
                                (AObj.cells false 0
                                 (El.mk 24 true true)
                                 [AV.int IntKind.i64 (0 : Int),
                                  AV.slice none 0 9,
                                  AV.int IntKind.i64 (0 : Int)])).wr
                              (Pt.mk h_3.next 0)
                              (encTup
                               [K1.int IntKind.i64, K1.slice 9,
                                K1.int IntKind.i64]
                               x_4.1) =
                             some h' ∧
                            match x.1 == x_2.1 with
                            | true =>
                             match
                              bif true then x.2.1 == x_2.2.1
                              else false with
                             | true =>
                              ∃ (x : Int × Sl × Int),
                               h'.rd (Pt.mk h.next 0) 3 =
                                 some
                                  [AV.int IntKind.i64 x.1,
                                   AV.slice x.2.1.1 x.2.1.len
                                    9,
                                   AV.int IntKind.i64 x.2.2] ∧
                                ∃ (x_5 : Int × Sl × Int),
                                 h'.rd (Pt.mk h_3.next 0) 3 =
                                   some
                                    [AV.int IntKind.i64 x_5.1,
                                     AV.slice x_5.2.1.1 x_5.2.1.len
                                      9,
                                     AV.int IntKind.i64 x_5.2.2] ∧
                                  ACall prog
                                   (AV.func (Fn.func 11) [] [])
                                   [AV.agg
                                     [AV.int IntKind.i64 x.1,
                                      AV.slice x.2.1.1 x.2.1.len
                                       9,
                                      AV.int IntKind.i64 x.2.2],
                                    AV.agg
                                     [AV.int IntKind.i64 x_5.1,
                                      AV.slice x_5.2.1.1 x_5.2.1.len
                                       9,
                                      AV.int IntKind.i64 x_5.2.2]]
                                   h' fun (v : AV) (h : AH) ↦
                                   ∃ (x : Bool),
                                    v = AV.bool x ∧
                                     match
                                      bif true then x else false with
                                     | true =>
                                      match
                                       bif true then
                                        x_3.2.1 == x_4.2.1
                                       else false with
                                      | true =>
                                       ACall prog
                                        (AV.func (Fn.func 6) []
                                         [])
                                        [] h fun (v : AV) (h : AH) ↦
                                        ∃ (x : Bool),
                                         v = AV.bool x ∧
                                          R
                                           (AV.bool
                                            (bif true then x
                                            else false))
                                           h
                                      | false =>
                                       R (AV.bool false) h
                                     | false => R (AV.bool false) h
                             | false => R (AV.bool false) h'
                            | false => R (AV.bool false) h')) := by kernel_rfl
-- gossamer/gossamerlaw36.ReviveBack
theorem w4 (x0_0 : Int) (a0_1 : Option Pt) (n0_1 : Nat) (x0_2 : Int) (s1 : Str) (h : AH) (R : AV → AH → Prop) : fnW prog tyt f4 (.seq .leaf (.seq (.seq .leaf (.cond (.seq .leaf .leaf) .leaf)) (.seq .leaf (.seq (.seq .leaf (.joinC [] (.seq .leaf (.seq (.draw [0, 1, 2, 3, 4, 5, 6, 7, 8]) (.cond (.seq .leaf .leaf) .leaf))) .leaf)) (.seq .leaf (.seq (.seq .leaf (.cond (.seq .leaf .leaf) .leaf)) (.seq .leaf (.seq .leaf .leaf)))))))) [(.agg [(.int .i64 x0_0), (.slice a0_1 n0_1 9), (.int .i64 x0_2)]), (.str s1)] h R = (
 ∃ (x : Sl),
 (h.new
      (AObj.cells false 0 (El.mk 24 true true)
       [AV.int IntKind.i64 x0_0, AV.slice a0_1 n0_1 9,
        AV.int IntKind.i64 x0_2])).rd
    (Pt.mk h.next (0 + 1)) 1 =
   some [AV.slice x.1 x.len 9] ∧
  ACall prog (AV.func (Fn.func 5) [] [])
   [AV.slice x.1 x.len 9, AV.int IntKind.i64 (8 : Int)]
   (h.new
    (AObj.cells false 0 (El.mk 24 true true)
     [AV.int IntKind.i64 x0_0, AV.slice a0_1 n0_1 9, AV.int IntKind.i64 x0_2]))
   fun (v : AV) (h_1 : AH) ↦
   ∃ (x : Bool),
    v = AV.bool x ∧
     match !x with
     | true =>
      (true = true →
        ACall prog (AV.func (Fn.func 6) [] []) [] h_1
         fun (v : AV) (h : AH) ↦ ∃ (x : Bool), v = AV.bool x ∧ R (AV.bool x) h) ∧
       (true = false →
        ∃ (x : Int × Sl × Int),
         h_1.rd (Pt.mk h.next 0) 3 =
           some
            [AV.int IntKind.i64 x.1, AV.slice x.2.1.1 x.2.1.len 9,
             AV.int IntKind.i64 x.2.2] ∧
          ACall prog (AV.func (Fn.func 7) [] [])
           [AV.agg
             [AV.int IntKind.i64 x.1, AV.slice x.2.1.1 x.2.1.len 9,
              AV.int IntKind.i64 x.2.2]]
           h_1 fun (v : AV) (h_2 : AH) ↦
           ∃ (x : List UInt8 × Int × Unit),
            v = AV.tuple [AV.str x.1, AV.int IntKind.i64 x.2.1] ∧
             ∃ (J : Unit → AH → Prop),
              ((x.2.1 == (0 : Int)) = true →
                ACall prog (AV.func (Fn.func 9) [] [])
                 [AV.str x.1] h_2 fun (v : AV) (h_3 : AH) ↦
                 ∃ (x : (Int × Sl × Int) × Int × Unit),
                  v =
                    AV.tuple
                     [AV.agg
                       [AV.int IntKind.i64 x.1.1,
                        AV.slice x.1.2.1.1 x.1.2.1.len 9,
                        AV.int IntKind.i64 x.1.2.2],
                      AV.int IntKind.i64 x.2.1] ∧
                   ∃ (h' : AH),
                    (h_3.new
                         (AObj.cells false 0
                          (El.mk 24 true true)
                          [AV.int IntKind.i64 (0 : Int),
                           AV.slice none 0 9,
                           AV.int IntKind.i64 (0 : Int)])).wr
                       (Pt.mk h_3.next 0)
                       (encTup
                        [K1.int IntKind.i64, K1.slice 9,
                         K1.int IntKind.i64]
                        x.1) =
                      some h' ∧
                     match x.2.1 != (0 : Int) with
                     | true =>
                      (true = true → R (AV.bool false) h') ∧
                       (true = false → J () h')
                     | false =>
                      ∃ (x : Int × Sl × Int),
                       h'.rd (Pt.mk h_3.next 0) 3 =
                         some
                          [AV.int IntKind.i64 x.1,
                           AV.slice x.2.1.1 x.2.1.len 9,
                           AV.int IntKind.i64 x.2.2] ∧
                        ∃ (x_1 : Int × Sl × Int),
                         h'.rd (Pt.mk h.next 0) 3 =
                           some
                            [AV.int IntKind.i64 x_1.1,
                             AV.slice x_1.2.1.1 x_1.2.1.len 9,
                             AV.int IntKind.i64 x_1.2.2] ∧
                          ACall prog
                           (AV.func (Fn.func 12) [] [])
                           [AV.agg
                             [AV.int IntKind.i64 x_1.1,
                              AV.slice x_1.2.1.1 x_1.2.1.len 9,
                              AV.int IntKind.i64 x_1.2.2]]
                           h' fun (v : AV) (h : AH) ↦
                           ∃ (x_2 : Int × Sl × Int),
                            v =
                              AV.agg
                               [AV.int IntKind.i64 x_2.1,
                                AV.slice x_2.2.1.1 x_2.2.1.len 9,
                                AV.int IntKind.i64 x_2.2.2] ∧
                             h.rd (Pt.mk h_3.next 0) 3 =
                               some
                                [AV.int IntKind.i64 x.1,
                                 AV.slice x.2.1.1 x.2.1.len 9,
                                 AV.int IntKind.i64 x.2.2] ∧
                              ACall prog
                               (AV.func (Fn.func 11) [] [])
                               [AV.agg
                                 [AV.int IntKind.i64 x.1,
                                  AV.slice x.2.1.1 x.2.1.len 9,
                                  AV.int IntKind.i64 x.2.2],
                                AV.agg
                                 [AV.int IntKind.i64 x_2.1,
                                  AV.slice x_2.2.1.1 x_2.2.1.len
                                   9,
                                  AV.int IntKind.i64 x_2.2.2]]
                               h fun (v : AV) (h : AH) ↦
                               ∃ (x : Bool),
                                v = AV.bool x ∧
                                 ((bif false then true else !x) = true →
                                   R (AV.bool false) h) ∧
                                  ((bif false then true else !x) =
                                    false →
                                   J () h)) ∧
               ((x.2.1 == (0 : Int)) = false → J () h_2) ∧
                ∀ (h' : AH),
                 J () h' →
                  ACall prog (AV.func (Fn.func 9) [] [])
                   [AV.str s1] h' fun (v : AV) (h : AH) ↦
                   ∃ (x : (Int × Sl × Int) × Int × Unit),
                    v =
                      AV.tuple
                       [AV.agg
                         [AV.int IntKind.i64 x.1.1,
                          AV.slice x.1.2.1.1 x.1.2.1.len 9,
                          AV.int IntKind.i64 x.1.2.2],
                        AV.int IntKind.i64 x.2.1] ∧
                     ∃ (h' : AH),
                      (h.new
                           (AObj.cells false 0
                            (El.mk 24 true true)
                            [AV.int IntKind.i64 (0 : Int),
                             AV.slice none 0 9,
                             AV.int IntKind.i64 (0 : Int)])).wr
                         (Pt.mk h.next 0)
                         (encTup
                          [K1.int IntKind.i64, K1.slice 9,
                           K1.int IntKind.i64]
                          x.1) =
                        some h' ∧
                       ((x.2.1 != (0 : Int)) = true →
                         ∃ (x : Int × Sl × Int),
                          h'.rd (Pt.mk h.next 0) 3 =
                            some
                             [AV.int IntKind.i64 x.1,
                              AV.slice x.2.1.1 x.2.1.len 9,
                              AV.int IntKind.i64 x.2.2] ∧
                           ACall prog
                            (AV.func (Fn.func 11) [] [])
                            [AV.agg
                              [AV.int IntKind.i64 x.1,
                               AV.slice x.2.1.1 x.2.1.len 9,
                               AV.int IntKind.i64 x.2.2],
                             AV.agg
                              [AV.int IntKind.i64 (0 : Int),
                               AV.slice none 0 9,
                               AV.int IntKind.i64 (0 : Int)]]
                            h' fun (v : AV) (h : AH) ↦
                            ∃ (x : Bool),
                             v = AV.bool x ∧
                              match x with
                              | true =>
                               ACall prog
                                (AV.func (Fn.func 6) [] []) [] h
                                fun (v : AV) (h : AH) ↦
                                ∃ (x : Bool),
                                 v = AV.bool x ∧
                                  R
                                   (AV.bool
                                    (bif true then x else false))
                                   h
                              | false => R (AV.bool false) h) ∧
                        ((x.2.1 != (0 : Int)) = false →
                         ∃ (x : Int × Sl × Int),
                          h'.rd (Pt.mk h.next 0) 3 =
                            some
                             [AV.int IntKind.i64 x.1,
                              AV.slice x.2.1.1 x.2.1.len 9,
                              AV.int IntKind.i64 x.2.2] ∧
                           ACall prog
                            (AV.func (Fn.func 7) [] [])
                            [AV.agg
                              [AV.int IntKind.i64 x.1,
                               AV.slice x.2.1.1 x.2.1.len 9,
                               AV.int IntKind.i64 x.2.2]]
                            h' fun (v : AV) (h : AH) ↦
                            ∃ (x : List UInt8 × Int × Unit),
                             v =
                               AV.tuple
                                [AV.str x.1,
                                 AV.int IntKind.i64 x.2.1] ∧
                              match x.1 == s1 with
                              | true =>
                               match
                                bif true then x.2.1 == (0 : Int)
                                else false with
                               | true =>
                                ACall prog
                                 (AV.func (Fn.func 6) [] []) [] h
                                 fun (v : AV) (h : AH) ↦
                                 ∃ (x : Bool),
                                  v = AV.bool x ∧
                                   R
                                    (AV.bool
                                     (bif true then x else false))
                                    h
                               | false => R (AV.bool false) h
                              | false => R (AV.bool false) h))
     | false =>
      ((bif false then true else Decidable.decide ((↑(List.length s1) : Int) > (1024 : Int))) =
         true →
        ACall prog (AV.func (Fn.func 6) [] []) [] h_1
         fun (v : AV) (h : AH) ↦ ∃ (x : Bool), v = AV.bool x ∧ R (AV.bool x) h) ∧
       ((bif false then true else Decidable.decide ((↑(List.length s1) : Int) > (1024 : Int))) =
         false →
        ∃ (x : Int × Sl × Int),
         h_1.rd (Pt.mk h.next 0) 3 =
           some
            [AV.int IntKind.i64 x.1, AV.slice x.2.1.1 x.2.1.len 9,
             AV.int IntKind.i64 x.2.2] ∧
          ACall prog (AV.func (Fn.func 7) [] [])
           [AV.agg
             [AV.int IntKind.i64 x.1, AV.slice x.2.1.1 x.2.1.len 9,
              AV.int IntKind.i64 x.2.2]]
           h_1 fun (v : AV) (h_2 : AH) ↦
           ∃ (x : List UInt8 × Int × Unit),
            v = AV.tuple [AV.str x.1, AV.int IntKind.i64 x.2.1] ∧
             ∃ (J : Unit → AH → Prop),
              ((x.2.1 == (0 : Int)) = true →
                ACall prog (AV.func (Fn.func 9) [] [])
                 [AV.str x.1] h_2 fun (v : AV) (h_3 : AH) ↦
                 ∃ (x : (Int × Sl × Int) × Int × Unit),
                  v =
                    AV.tuple
                     [AV.agg
                       [AV.int IntKind.i64 x.1.1,
                        AV.slice x.1.2.1.1 x.1.2.1.len 9,
                        AV.int IntKind.i64 x.1.2.2],
                      AV.int IntKind.i64 x.2.1] ∧
                   ∃ (h' : AH),
                    (h_3.new
                         (AObj.cells false 0
                          (El.mk 24 true true)
                          [AV.int IntKind.i64 (0 : Int),
                           AV.slice none 0 9,
                           AV.int IntKind.i64 (0 : Int)])).wr
                       (Pt.mk h_3.next 0)
                       (encTup
                        [K1.int IntKind.i64, K1.slice 9,
                         K1.int IntKind.i64]
                        x.1) =
                      some h' ∧
                     match x.2.1 != (0 : Int) with
                     | true =>
                      (true = true → R (AV.bool false) h') ∧
                       (true = false → J () h')
                     | false =>
                      ∃ (x : Int × Sl × Int),
                       h'.rd (Pt.mk h_3.next 0) 3 =
                         some
                          [AV.int IntKind.i64 x.1,
                           AV.slice x.2.1.1 x.2.1.len 9,
                           AV.int IntKind.i64 x.2.2] ∧
                        ∃ (x_1 : Int × Sl × Int),
                         h'.rd (Pt.mk h.next 0) 3 =
                           some
                            [AV.int IntKind.i64 x_1.1,
                             AV.slice x_1.2.1.1 x_1.2.1.len 9,
                             AV.int IntKind.i64 x_1.2.2] ∧
                          ACall prog
                           (AV.func (Fn.func 12) [] [])
                           [AV.agg
                             [AV.int IntKind.i64 x_1.1,
                              AV.slice x_1.2.1.1 x_1.2.1.len 9,
                              AV.int IntKind.i64 x_1.2.2]]
                           h' fun (v : AV) (h : AH) ↦
                           ∃ (x_2 : Int × Sl × Int),
                            v =
                              AV.agg
                               [AV.int IntKind.i64 x_2.1,
                                AV.slice x_2.2.1.1 x_2.2.1.len 9,
                                AV.int IntKind.i64 x_2.2.2] ∧
                             h.rd (Pt.mk h_3.next 0) 3 =
                               some
                                [AV.int IntKind.i64 x.1,
                                 AV.slice x.2.1.1 x.2.1.len 9,
                                 AV.int IntKind.i64 x.2.2] ∧
                              ACall prog
                               (AV.func (Fn.func 11) [] [])
                               [AV.agg
                                 [AV.int IntKind.i64 x.1,
                                  AV.slice x.2.1.1 x.2.1.len 9,
                                  AV.int IntKind.i64 x.2.2],
                                AV.agg
                                 [AV.int IntKind.i64 x_2.1,
                                  AV.slice x_2.2.1.1 x_2.2.1.len
                                   9,
                                  AV.int IntKind.i64 x_2.2.2]]
                               h fun (v : AV) (h : AH) ↦
                               ∃ (x : Bool),
                                v = AV.bool x ∧
                                 ((bif false then true else !x) = true →
                                   R (AV.bool false) h) ∧
                                  ((bif false then true else !x) =
                                    false →
                                   J () h)) ∧
               ((x.2.1 == (0 : Int)) = false → J () h_2) ∧
                ∀ (h' : AH),
                 J () h' →
                  ACall prog (AV.func (Fn.func 9) [] [])
                   [AV.str s1] h' fun (v : AV) (h : AH) ↦
                   ∃ (x : (Int × Sl × Int) × Int × Unit),
                    v =
                      AV.tuple
                       [AV.agg
                         [AV.int IntKind.i64 x.1.1,
                          AV.slice x.1.2.1.1 x.1.2.1.len 9,
                          AV.int IntKind.i64 x.1.2.2],
                        AV.int IntKind.i64 x.2.1] ∧
                     ∃ (h' : AH),
                      (h.new
                           (AObj.cells false 0
                            (El.mk 24 true true)
                            [AV.int IntKind.i64 (0 : Int),
                             AV.slice none 0 9,
                             AV.int IntKind.i64 (0 : Int)])).wr
                         (Pt.mk h.next 0)
                         (encTup
                          [K1.int IntKind.i64, K1.slice 9,
                           K1.int IntKind.i64]
                          x.1) =
                        some h' ∧
                       ((x.2.1 != (0 : Int)) = true →
                         ∃ (x : Int × Sl × Int),
                          h'.rd (Pt.mk h.next 0) 3 =
                            some
                             [AV.int IntKind.i64 x.1,
                              AV.slice x.2.1.1 x.2.1.len 9,
                              AV.int IntKind.i64 x.2.2] ∧
                           ACall prog
                            (AV.func (Fn.func 11) [] [])
                            [AV.agg
                              [AV.int IntKind.i64 x.1,
                               AV.slice x.2.1.1 x.2.1.len 9,
                               AV.int IntKind.i64 x.2.2],
                             AV.agg
                              [AV.int IntKind.i64 (0 : Int),
                               AV.slice none 0 9,
                               AV.int IntKind.i64 (0 : Int)]]
                            h' fun (v : AV) (h : AH) ↦
                            ∃ (x : Bool),
                             v = AV.bool x ∧
                              match x with
                              | true =>
                               ACall prog
                                (AV.func (Fn.func 6) [] []) [] h
                                fun (v : AV) (h : AH) ↦
                                ∃ (x : Bool),
                                 v = AV.bool x ∧
                                  R
                                   (AV.bool
                                    (bif true then x else false))
                                   h
                              | false => R (AV.bool false) h) ∧
                        ((x.2.1 != (0 : Int)) = false →
                         ∃ (x : Int × Sl × Int),
                          h'.rd (Pt.mk h.next 0) 3 =
                            some
                             [AV.int IntKind.i64 x.1,
                              AV.slice x.2.1.1 x.2.1.len 9,
                              AV.int IntKind.i64 x.2.2] ∧
                           ACall prog
                            (AV.func (Fn.func 7) [] [])
                            [AV.agg
                              [AV.int IntKind.i64 x.1,
                               AV.slice x.2.1.1 x.2.1.len 9,
                               AV.int IntKind.i64 x.2.2]]
                            h' fun (v : AV) (h : AH) ↦
                            ∃ (x : List UInt8 × Int × Unit),
                             v =
                               AV.tuple
                                [AV.str x.1,
                                 AV.int IntKind.i64 x.2.1] ∧
                              match x.1 == s1 with
                              | true =>
                               match
                                bif true then x.2.1 == (0 : Int)
                                else false with
                               | true =>
                                ACall prog
                                 (AV.func (Fn.func 6) [] []) [] h
                                 fun (v : AV) (h : AH) ↦
                                 ∃ (x : Bool),
                                  v = AV.bool x ∧
                                   R
                                    (AV.bool
                                     (bif true then x else false))
                                    h
                               | false => R (AV.bool false) h
                              | false => R (AV.bool false) h))) := by kernel_rfl
-- gossamer/gossamerref09.Few
theorem w5 (a0 : Option Pt) (n0 : Nat) (x1 : Int) (h : AH) (R : AV → AH → Prop) : fnW prog tyt f5 (.seq .leaf (.seq (.seq .leaf (.block (.loop [(5, false, [.int .i64])] (.seq (.seq .leaf (.cond .leaf .leaf)) (.seq (.block (.seq .leaf (.cond (.seq .leaf .leaf) .leaf))) .leaf))))) (.seq .leaf .leaf))) [(.slice a0 n0 9), (.int .i64 x1)] h R = (
 ∃ (I : Int × Unit → AH → Prop),
 ∃ (μ : Int × Unit → AH → Nat),
  I ((0 : Int), ()) h ∧
   ∀ (x : Int) (h1 : AH),
    I (x, ()) h1 →
     match Decidable.decide (x < (↑n0 : Int)) with
     | true =>
      ((bif true then Decidable.decide (x < x1) else false) = true →
        (0 : Int) ≤ x ∧
         x < (↑n0 : Int) ∧
          match a0 with
          | some a =>
           ∃ (x_1 : Int × Int × Int × Int × List UInt8 × List UInt8 × Int × Int × Bool),
            h1.rd (Pt.mk a.b (a.o + x.toNat * 9)) 9 =
              some
               [AV.int IntKind.i64 x_1.1, AV.int IntKind.i64 x_1.2.1,
                AV.int IntKind.i64 x_1.2.2.1,
                AV.int IntKind.i64 x_1.2.2.2.1, AV.str x_1.2.2.2.2.1,
                AV.str x_1.2.2.2.2.2.1,
                AV.int IntKind.i64 x_1.2.2.2.2.2.2.1,
                AV.int IntKind.i64 x_1.2.2.2.2.2.2.2.1,
                AV.bool x_1.2.2.2.2.2.2.2.2] ∧
             ACall prog (AV.func (Fn.func 13) [] [])
              [AV.agg
                [AV.int IntKind.i64 x_1.1, AV.int IntKind.i64 x_1.2.1,
                 AV.int IntKind.i64 x_1.2.2.1,
                 AV.int IntKind.i64 x_1.2.2.2.1, AV.str x_1.2.2.2.2.1,
                 AV.str x_1.2.2.2.2.2.1,
                 AV.int IntKind.i64 x_1.2.2.2.2.2.2.1,
                 AV.int IntKind.i64 x_1.2.2.2.2.2.2.2.1,
                 AV.bool x_1.2.2.2.2.2.2.2.2]]
              h1 fun (v : AV) (h : AH) ↦
              ∃ (x_2 : Bool),
               v = AV.bool x_2 ∧
                ((!x_2) = true → R (AV.bool false) h) ∧
                 ((!x_2) = false →
                  I (IntKind.i64.wrap (x + (1 : Int)), ()) h ∧
                   μ (IntKind.i64.wrap (x + (1 : Int)), ()) h < μ (x, ()) h1)
          | none => False) ∧
       ((bif true then Decidable.decide (x < x1) else false) = false →
        R (AV.bool (Decidable.decide ((↑n0 : Int) ≤ x1))) h1)
     | false =>
      (false = true →
        (0 : Int) ≤ x ∧
         x < (↑n0 : Int) ∧
          match a0 with
          | some a =>
           ∃ (x_1 : Int × Int × Int × Int × List UInt8 × List UInt8 × Int × Int × Bool),
            h1.rd (Pt.mk a.b (a.o + x.toNat * 9)) 9 =
              some
               [AV.int IntKind.i64 x_1.1, AV.int IntKind.i64 x_1.2.1,
                AV.int IntKind.i64 x_1.2.2.1,
                AV.int IntKind.i64 x_1.2.2.2.1, AV.str x_1.2.2.2.2.1,
                AV.str x_1.2.2.2.2.2.1,
                AV.int IntKind.i64 x_1.2.2.2.2.2.2.1,
                AV.int IntKind.i64 x_1.2.2.2.2.2.2.2.1,
                AV.bool x_1.2.2.2.2.2.2.2.2] ∧
             ACall prog (AV.func (Fn.func 13) [] [])
              [AV.agg
                [AV.int IntKind.i64 x_1.1, AV.int IntKind.i64 x_1.2.1,
                 AV.int IntKind.i64 x_1.2.2.1,
                 AV.int IntKind.i64 x_1.2.2.2.1, AV.str x_1.2.2.2.2.1,
                 AV.str x_1.2.2.2.2.2.1,
                 AV.int IntKind.i64 x_1.2.2.2.2.2.2.1,
                 AV.int IntKind.i64 x_1.2.2.2.2.2.2.2.1,
                 AV.bool x_1.2.2.2.2.2.2.2.2]]
              h1 fun (v : AV) (h : AH) ↦
              ∃ (x_2 : Bool),
               v = AV.bool x_2 ∧
                ((!x_2) = true → R (AV.bool false) h) ∧
                 ((!x_2) = false →
                  I (IntKind.i64.wrap (x + (1 : Int)), ()) h ∧
                   μ (IntKind.i64.wrap (x + (1 : Int)), ()) h < μ (x, ()) h1)
          | none => False) ∧
       (false = false → R (AV.bool (Decidable.decide ((↑n0 : Int) ≤ x1))) h1)) := by kernel_rfl
-- gossamer/revive.Encode
theorem w7 (x0_0 : Int) (a0_1 : Option Pt) (n0_1 : Nat) (x0_2 : Int) (h : AH) (R : AV → AH → Prop) : fnW prog tyt f7 (.seq .leaf (.seq .leaf (.seq .leaf (.seq (.seq .leaf (.block (.seq .leaf (.cond (.seq .leaf (.seq (.seq .leaf (.cond (.seq .leaf .leaf) .leaf)) (.seq .leaf .leaf))) (.seq .leaf (.cond (.seq .leaf (.seq .leaf .leaf)) .leaf)))))) (.seq .leaf .leaf))))) [(.agg [(.int .i64 x0_0), (.slice a0_1 n0_1 9), (.int .i64 x0_2)])] h R = (
 ∃ (x : Int),
 ((h.new
        (AObj.cells false 0 (El.mk 24 true true)
         [AV.int IntKind.i64 x0_0, AV.slice a0_1 n0_1 9,
          AV.int IntKind.i64 x0_2])).new
      (AObj.cells false 0 (El.mk 61 true true)
       [AV.ptr none, AV.slice none 0 1])).rd
    (Pt.mk h.next (0 + 0)) 1 =
   some [AV.int IntKind.i64 x] ∧
  ACall prog (AV.func (Fn.func 23) [] [])
   [AV.ptr (some (Pt.mk (h.next + 1) 0)), AV.int IntKind.i64 x]
   ((h.new
      (AObj.cells false 0 (El.mk 24 true true)
       [AV.int IntKind.i64 x0_0, AV.slice a0_1 n0_1 9,
        AV.int IntKind.i64 x0_2])).new
    (AObj.cells false 0 (El.mk 61 true true)
     [AV.ptr none, AV.slice none 0 1]))
   fun (v : AV) (h_1 : AH) ↦
   ∃ (x : Unit),
    v = AV.tuple [] ∧
     ∃ (x : Int),
      h_1.rd (Pt.mk h.next (0 + 0)) 1 =
        some [AV.int IntKind.i64 x] ∧
       ((x == (1 : Int)) = true →
         ∃ (x : Sl),
          h_1.rd (Pt.mk h.next (0 + 1)) 1 =
            some [AV.slice x.1 x.len 9] ∧
           ACall prog (AV.func (Fn.func 24) [] [])
            [AV.slice x.1 x.len 9] h_1 fun (v : AV) (h_2 : AH) ↦
            ∃ (x : List UInt8 × Int × Unit),
             v = AV.tuple [AV.str x.1, AV.int IntKind.i64 x.2.1] ∧
              ((x.2.1 != (0 : Int)) = true →
                R (AV.tuple [AV.str [], AV.int IntKind.i64 x.2.1]) h_2) ∧
               ((x.2.1 != (0 : Int)) = false →
                ACall prog (AV.func (Fn.func 25) [] [])
                 [AV.ptr (some (Pt.mk (h.next + 1) 0))] h_2
                 fun (v : AV) (h : AH) ↦
                 ∃ (x_1 : List UInt8),
                  v = AV.str x_1 ∧
                   x_1.length + List.length x.1 < 4611686018427387904 ∧
                    R
                     (AV.tuple
                      [AV.str (x_1 ++ x.1), AV.int IntKind.i64 (0 : Int)])
                     h)) ∧
        ((x == (1 : Int)) = false →
         ((x == (2 : Int)) = true →
           ∃ (x : Int),
            h_1.rd (Pt.mk h.next (0 + 2)) 1 =
              some [AV.int IntKind.i64 x] ∧
             ACall prog (AV.func (Fn.func 26) [] [])
              [AV.ptr (some (Pt.mk (h.next + 1) 0)),
               AV.int IntKind.i64 x]
              h_1 fun (v : AV) (h_2 : AH) ↦
              ∃ (x : Unit),
               v = AV.tuple [] ∧
                ACall prog (AV.func (Fn.func 25) [] [])
                 [AV.ptr (some (Pt.mk (h.next + 1) 0))] h_2
                 fun (v : AV) (h : AH) ↦
                 ∃ (x : List UInt8),
                  v = AV.str x ∧
                   R (AV.tuple [AV.str x, AV.int IntKind.i64 (0 : Int)]) h) ∧
          ((x == (2 : Int)) = false →
           R (AV.tuple [AV.str [], AV.int IntKind.i64 (2 : Int)]) h_1))) := by kernel_rfl
-- gossamer/gossamerref36.Encode
theorem w8 (x0_0 : Int) (a0_1 : Option Pt) (n0_1 : Nat) (x0_2 : Int) (h : AH) (R : AV → AH → Prop) : fnW prog tyt f8 (.seq .leaf (.seq (.seq .leaf (.block (.seq .leaf (.cond (.seq .leaf (.seq (.seq .leaf (.cond (.seq .leaf .leaf) .leaf)) (.seq .leaf .leaf))) (.seq .leaf (.cond (.seq .leaf .leaf) .leaf)))))) (.seq .leaf .leaf))) [(.agg [(.int .i64 x0_0), (.slice a0_1 n0_1 9), (.int .i64 x0_2)])] h R = (
 ∃ (x : Int),
 (h.new
      (AObj.cells false 0 (El.mk 24 true true)
       [AV.int IntKind.i64 x0_0, AV.slice a0_1 n0_1 9,
        AV.int IntKind.i64 x0_2])).rd
    (Pt.mk h.next (0 + 0)) 1 =
   some [AV.int IntKind.i64 x] ∧
  ((x == (1 : Int)) = true →
    ∃ (x : Sl),
     (h.new
          (AObj.cells false 0 (El.mk 24 true true)
           [AV.int IntKind.i64 x0_0, AV.slice a0_1 n0_1 9,
            AV.int IntKind.i64 x0_2])).rd
        (Pt.mk h.next (0 + 1)) 1 =
       some [AV.slice x.1 x.len 9] ∧
      ACall prog (AV.func (Fn.func 27) [] [])
       [AV.slice x.1 x.len 9]
       (h.new
        (AObj.cells false 0 (El.mk 24 true true)
         [AV.int IntKind.i64 x0_0, AV.slice a0_1 n0_1 9,
          AV.int IntKind.i64 x0_2]))
       fun (v : AV) (h : AH) ↦
       ∃ (x : List UInt8 × Int × Unit),
        v = AV.tuple [AV.str x.1, AV.int IntKind.i64 x.2.1] ∧
         ((x.2.1 != (0 : Int)) = true →
           R (AV.tuple [AV.str [], AV.int IntKind.i64 x.2.1]) h) ∧
          ((x.2.1 != (0 : Int)) = false →
           #[(1 : UInt8)].toList.length + List.length x.1 < 4611686018427387904 ∧
            R
             (AV.tuple
              [AV.str (#[(1 : UInt8)].toList ++ x.1), AV.int IntKind.i64 (0 : Int)])
             h)) ∧
   ((x == (1 : Int)) = false →
    ((x == (2 : Int)) = true →
      ∃ (x : Int),
       (h.new
            (AObj.cells false 0 (El.mk 24 true true)
             [AV.int IntKind.i64 x0_0, AV.slice a0_1 n0_1 9,
              AV.int IntKind.i64 x0_2])).rd
          (Pt.mk h.next (0 + 2)) 1 =
         some [AV.int IntKind.i64 x] ∧
        ACall prog (AV.func (Fn.func 28) [] [])
         [AV.int IntKind.i64 x]
         (h.new
          (AObj.cells false 0 (El.mk 24 true true)
           [AV.int IntKind.i64 x0_0, AV.slice a0_1 n0_1 9,
            AV.int IntKind.i64 x0_2]))
         fun (v : AV) (h : AH) ↦
         ∃ (x : List UInt8),
          v = AV.str x ∧
           #[(2 : UInt8)].toList.length + x.length < 4611686018427387904 ∧
            R
             (AV.tuple
              [AV.str (#[(2 : UInt8)].toList ++ x), AV.int IntKind.i64 (0 : Int)])
             h) ∧
     ((x == (2 : Int)) = false →
      R (AV.tuple [AV.str [], AV.int IntKind.i64 (2 : Int)])
       (h.new
        (AObj.cells false 0 (El.mk 24 true true)
         [AV.int IntKind.i64 x0_0, AV.slice a0_1 n0_1 9,
          AV.int IntKind.i64 x0_2]))))) := by kernel_rfl
-- gossamer/revive.Decode
theorem w9 (s0 : Str) (h : AH) (R : AV → AH → Prop) : fnW prog tyt f9 (.seq .leaf (.seq .leaf (.seq .leaf (.seq .leaf (.seq (.joinB [(6, false, [.int .i64])] (.seq .leaf (.cond .leaf (.seq .leaf (.cond .leaf (.seq .leaf (.cond (.seq .leaf .leaf) .leaf))))))) (.seq (.seq .leaf (.cond (.seq .leaf .leaf) .leaf)) (.seq .leaf .leaf))))))) [(.str s0)] h R = (
 ACall prog (AV.func (Fn.func 29) [] []) [AV.str s0]
 (h.new
  (AObj.cells false 0 (El.mk 24 true true)
   [AV.int IntKind.i64 (0 : Int), AV.slice none 0 9,
    AV.int IntKind.i64 (0 : Int)]))
 fun (v : AV) (h_1 : AH) ↦
 ∃ (x : Option Pt),
  v = AV.ptr x ∧
   ACall prog (AV.func (Fn.func 30) [] []) [AV.ptr x] h_1
    fun (v : AV) (h_2 : AH) ↦
    ∃ (x_1 : Int),
     v = AV.int IntKind.i64 x_1 ∧
      ∃ (h' : AH),
       (h_2.new
            (AObj.cells false 0 (El.mk 24 true true)
             [AV.int IntKind.i64 (0 : Int), AV.slice none 0 9,
              AV.int IntKind.i64 (0 : Int)])).wr
          (Pt.mk h_2.next 0)
          [AV.int IntKind.i64 x_1, AV.slice none 0 9,
           AV.int IntKind.i64 (0 : Int)] =
         some h' ∧
        ACall prog (AV.func (Fn.func 31) [] []) [AV.ptr x] h'
         fun (v : AV) (h_3 : AH) ↦
         ∃ (x_2 : Int),
          v = AV.int IntKind.i64 x_2 ∧
           ∃ (J : Int × Unit → AH → Prop),
            (((x_2 != (0 : Int)) = true → J (x_2, ()) h_3) ∧
              ((x_2 != (0 : Int)) = false →
               ∃ (x_3 : Int),
                h_3.rd (Pt.mk h_2.next (0 + 0)) 1 =
                  some [AV.int IntKind.i64 x_3] ∧
                 ((x_3 == (1 : Int)) = true →
                   ACall prog (AV.func (Fn.func 33) [] [])
                    [AV.ptr x] h_3 fun (v : AV) (h : AH) ↦
                    ∃ (x : Int),
                     v = AV.int IntKind.i64 x ∧
                      (0 : Int) ≤ IntKind.i64.wrap ((↑(List.length s0) : Int) - x) ∧
                       IntKind.i64.wrap ((↑(List.length s0) : Int) - x) ≤
                         (↑(List.length s0) : Int) ∧
                        ACall prog
                         (AV.func (Fn.func 32) [] [])
                         [AV.str
                           (List.drop
                            (IntKind.i64.wrap ((↑(List.length s0) : Int) - x)).toNat
                            (List.take (List.length s0) s0))]
                         h fun (v : AV) (h : AH) ↦
                         ∃ (x : Sl × Int × Unit),
                          v =
                            AV.tuple
                             [AV.slice x.1.1 x.1.len 9,
                              AV.int IntKind.i64 x.2.1] ∧
                           ∃ (h' : AH),
                            h.wr ((Pt.mk h_2.next 0).add 1)
                               [AV.slice x.1.1 x.1.len 9] =
                              some h' ∧
                             J (x.2.1, ()) h') ∧
                  ((x_3 == (1 : Int)) = false →
                   ∃ (x_4 : Int),
                    h_3.rd (Pt.mk h_2.next (0 + 0)) 1 =
                      some [AV.int IntKind.i64 x_4] ∧
                     ((x_4 == (2 : Int)) = true →
                       ACall prog
                        (AV.func (Fn.func 34) [] []) [AV.ptr x] h_3
                        fun (v : AV) (h : AH) ↦
                        ∃ (x_5 : Int),
                         v = AV.int IntKind.i64 x_5 ∧
                          ∃ (h' : AH),
                           h.wr ((Pt.mk h_2.next 0).add 2)
                              [AV.int IntKind.i64 x_5] =
                             some h' ∧
                            ACall prog
                             (AV.func (Fn.func 35) [] []) [AV.ptr x]
                             h' fun (v : AV) (h : AH) ↦
                             ∃ (x : Int),
                              v = AV.int IntKind.i64 x ∧ J (x, ()) h) ∧
                      ((x_4 == (2 : Int)) = false → J ((2 : Int), ()) h_3)))) ∧
             ∀ (x : Int) (h' : AH),
              J (x, ()) h' →
               ((x != (0 : Int)) = true →
                 ∃ (h'_1 : AH),
                  h'.wr (Pt.mk h.next 0)
                     [AV.int IntKind.i64 (0 : Int),
                      AV.slice none 0 9,
                      AV.int IntKind.i64 (0 : Int)] =
                    some h'_1 ∧
                   ∃ (x_3 : Int × Sl × Int),
                    h'_1.rd (Pt.mk h.next 0) 3 =
                      some
                       [AV.int IntKind.i64 x_3.1,
                        AV.slice x_3.2.1.1 x_3.2.1.len 9,
                        AV.int IntKind.i64 x_3.2.2] ∧
                     R
                      (AV.tuple
                       [AV.agg
                         [AV.int IntKind.i64 x_3.1,
                          AV.slice x_3.2.1.1 x_3.2.1.len 9,
                          AV.int IntKind.i64 x_3.2.2],
                        AV.int IntKind.i64 x])
                      h'_1) ∧
                ((x != (0 : Int)) = false →
                 ∃ (x : Int × Sl × Int),
                  h'.rd (Pt.mk h_2.next 0) 3 =
                    some
                     [AV.int IntKind.i64 x.1,
                      AV.slice x.2.1.1 x.2.1.len 9,
                      AV.int IntKind.i64 x.2.2] ∧
                   ∃ (h'_1 : AH),
                    h'.wr (Pt.mk h.next 0)
                       (encTup
                        [K1.int IntKind.i64, K1.slice 9,
                         K1.int IntKind.i64]
                        x) =
                      some h'_1 ∧
                     ∃ (x : Int × Sl × Int),
                      h'_1.rd (Pt.mk h.next 0) 3 =
                        some
                         [AV.int IntKind.i64 x.1,
                          AV.slice x.2.1.1 x.2.1.len 9,
                          AV.int IntKind.i64 x.2.2] ∧
                       R
                        (AV.tuple
                         [AV.agg
                           [AV.int IntKind.i64 x.1,
                            AV.slice x.2.1.1 x.2.1.len 9,
                            AV.int IntKind.i64 x.2.2],
                          AV.int IntKind.i64 (0 : Int)])
                        h'_1)) := by kernel_rfl
-- gossamer/gossamerref36.Decode
theorem w10 (s0 : Str) (h : AH) (R : AV → AH → Prop) : fnW prog tyt f10 (.seq .leaf (.seq .leaf (.seq .leaf (.seq (.seq .leaf (.cond (.seq (.draw [0, 1, 2, 3, 4, 5, 6]) .leaf) .leaf)) (.seq (.seq .leaf (.cond (.seq .leaf (.seq (.seq .leaf (.cond (.seq .leaf .leaf) .leaf)) (.seq .leaf .leaf))) .leaf)) (.seq (.seq .leaf (.cond (.seq .leaf .leaf) .leaf)) (.seq .leaf (.seq (.seq .leaf (.seq .leaf (.cond (.seq .leaf .leaf) .leaf))) (.seq .leaf .leaf))))))))) [(.str s0)] h R = (
 ACall prog (AV.func (Fn.func 36) [] [])
 [AV.ptr (some (Pt.mk (h.next + 1) 0))]
 ((h.new
    (AObj.cells false 0 (El.mk 24 true true)
     [AV.int IntKind.i64 (0 : Int), AV.slice none 0 9,
      AV.int IntKind.i64 (0 : Int)])).new
  (AObj.cells false 0 (El.mk 74 true true)
   [AV.str s0, AV.int IntKind.i64 (0 : Int)]))
 fun (v : AV) (h_1 : AH) ↦
 ∃ (x : Int),
  v = AV.int IntKind.i64 x ∧
   ∃ (x_1 : Int),
    h_1.rd (Pt.mk (h.next + 1) (0 + 1)) 1 =
      some [AV.int IntKind.i64 x_1] ∧
     ((x_1 != (0 : Int)) = true →
       ∃ (x : Int),
        h_1.rd (Pt.mk (h.next + 1) (0 + 1)) 1 =
          some [AV.int IntKind.i64 x] ∧
         ∃ (h' : AH),
          h_1.wr (Pt.mk h.next 0)
             [AV.int IntKind.i64 (0 : Int), AV.slice none 0 9,
              AV.int IntKind.i64 (0 : Int)] =
            some h' ∧
           h'.rd (Pt.mk (h.next + 1) (0 + 1)) 1 =
             some [AV.int IntKind.i64 x] ∧
            ∃ (x_2 : Int × Sl × Int),
             h'.rd (Pt.mk h.next 0) 3 =
               some
                [AV.int IntKind.i64 x_2.1,
                 AV.slice x_2.2.1.1 x_2.2.1.len 9,
                 AV.int IntKind.i64 x_2.2.2] ∧
              R
               (AV.tuple
                [AV.agg
                  [AV.int IntKind.i64 x_2.1,
                   AV.slice x_2.2.1.1 x_2.2.1.len 9,
                   AV.int IntKind.i64 x_2.2.2],
                 AV.int IntKind.i64 x])
               h') ∧
      ((x_1 != (0 : Int)) = false →
       ((x == (1 : Int)) = true →
         ∃ (x : List UInt8),
          h_1.rd (Pt.mk (h.next + 1) (0 + 0)) 1 =
            some [AV.str x] ∧
           ACall prog (AV.func (Fn.func 37) [] []) [AV.str x] h_1
            fun (v : AV) (h_2 : AH) ↦
            ∃ (x : Sl × Int × Unit),
             v =
               AV.tuple
                [AV.slice x.1.1 x.1.len 9, AV.int IntKind.i64 x.2.1] ∧
              ((x.2.1 != (0 : Int)) = true →
                ∃ (h' : AH),
                 h_2.wr (Pt.mk h.next 0)
                    [AV.int IntKind.i64 (0 : Int),
                     AV.slice none 0 9,
                     AV.int IntKind.i64 (0 : Int)] =
                   some h' ∧
                  ∃ (x_2 : Int × Sl × Int),
                   h'.rd (Pt.mk h.next 0) 3 =
                     some
                      [AV.int IntKind.i64 x_2.1,
                       AV.slice x_2.2.1.1 x_2.2.1.len 9,
                       AV.int IntKind.i64 x_2.2.2] ∧
                    R
                     (AV.tuple
                      [AV.agg
                        [AV.int IntKind.i64 x_2.1,
                         AV.slice x_2.2.1.1 x_2.2.1.len 9,
                         AV.int IntKind.i64 x_2.2.2],
                       AV.int IntKind.i64 x.2.1])
                     h') ∧
               ((x.2.1 != (0 : Int)) = false →
                ∃ (h' : AH),
                 h_2.wr (Pt.mk h.next 0)
                    [AV.int IntKind.i64 (1 : Int),
                     AV.slice x.1.1 x.1.len 9,
                     AV.int IntKind.i64 (0 : Int)] =
                   some h' ∧
                  ∃ (x : Int × Sl × Int),
                   h'.rd (Pt.mk h.next 0) 3 =
                     some
                      [AV.int IntKind.i64 x.1,
                       AV.slice x.2.1.1 x.2.1.len 9,
                       AV.int IntKind.i64 x.2.2] ∧
                    R
                     (AV.tuple
                      [AV.agg
                        [AV.int IntKind.i64 x.1,
                         AV.slice x.2.1.1 x.2.1.len 9,
                         AV.int IntKind.i64 x.2.2],
                       AV.int IntKind.i64 (0 : Int)])
                     h')) ∧
        ((x == (1 : Int)) = false →
         ((x != (2 : Int)) = true →
           ∃ (h' : AH),
            h_1.wr (Pt.mk h.next 0)
               [AV.int IntKind.i64 (0 : Int), AV.slice none 0 9,
                AV.int IntKind.i64 (0 : Int)] =
              some h' ∧
             ∃ (x : Int × Sl × Int),
              h'.rd (Pt.mk h.next 0) 3 =
                some
                 [AV.int IntKind.i64 x.1,
                  AV.slice x.2.1.1 x.2.1.len 9,
                  AV.int IntKind.i64 x.2.2] ∧
               R
                (AV.tuple
                 [AV.agg
                   [AV.int IntKind.i64 x.1,
                    AV.slice x.2.1.1 x.2.1.len 9,
                    AV.int IntKind.i64 x.2.2],
                  AV.int IntKind.i64 (2 : Int)])
                h') ∧
          ((x != (2 : Int)) = false →
           ACall prog (AV.func (Fn.func 38) [] [])
            [AV.ptr (some (Pt.mk (h.next + 1) 0))] h_1
            fun (v : AV) (h_2 : AH) ↦
            ∃ (x : Int),
             v = AV.int IntKind.i64 x ∧
              ACall prog (AV.func (Fn.func 39) [] [])
               [AV.ptr (some (Pt.mk (h.next + 1) 0))] h_2
               fun (v : AV) (h_3 : AH) ↦
               ∃ (x_2 : Int),
                v = AV.int IntKind.i64 x_2 ∧
                 ((x_2 != (0 : Int)) = true →
                   ∃ (h' : AH),
                    h_3.wr (Pt.mk h.next 0)
                       [AV.int IntKind.i64 (0 : Int),
                        AV.slice none 0 9,
                        AV.int IntKind.i64 (0 : Int)] =
                      some h' ∧
                     ∃ (x : Int × Sl × Int),
                      h'.rd (Pt.mk h.next 0) 3 =
                        some
                         [AV.int IntKind.i64 x.1,
                          AV.slice x.2.1.1 x.2.1.len 9,
                          AV.int IntKind.i64 x.2.2] ∧
                       R
                        (AV.tuple
                         [AV.agg
                           [AV.int IntKind.i64 x.1,
                            AV.slice x.2.1.1 x.2.1.len 9,
                            AV.int IntKind.i64 x.2.2],
                          AV.int IntKind.i64 x_2])
                        h') ∧
                  ((x_2 != (0 : Int)) = false →
                   ∃ (h' : AH),
                    h_3.wr (Pt.mk h.next 0)
                       [AV.int IntKind.i64 (2 : Int),
                        AV.slice none 0 9,
                        AV.int IntKind.i64 x] =
                      some h' ∧
                     ∃ (x : Int × Sl × Int),
                      h'.rd (Pt.mk h.next 0) 3 =
                        some
                         [AV.int IntKind.i64 x.1,
                          AV.slice x.2.1.1 x.2.1.len 9,
                          AV.int IntKind.i64 x.2.2] ∧
                       R
                        (AV.tuple
                         [AV.agg
                           [AV.int IntKind.i64 x.1,
                            AV.slice x.2.1.1 x.2.1.len 9,
                            AV.int IntKind.i64 x.2.2],
                          AV.int IntKind.i64 (0 : Int)])
                        h'))))) := by kernel_rfl
-- gossamer/gossamerref36.Same
theorem w11 (x0_0 : Int) (a0_1 : Option Pt) (n0_1 : Nat) (x0_2 : Int) (x1_0 : Int) (a1_1 : Option Pt) (n1_1 : Nat) (x1_2 : Int) (h : AH) (R : AV → AH → Prop) : fnW prog tyt f11 (.seq .leaf (.seq .leaf .leaf)) [(.agg [(.int .i64 x0_0), (.slice a0_1 n0_1 9), (.int .i64 x0_2)]), (.agg [(.int .i64 x1_0), (.slice a1_1 n1_1 9), (.int .i64 x1_2)])] h R = (
 ∃ (x : Int),
 ((h.new
        (AObj.cells false 0 (El.mk 24 true true)
         [AV.int IntKind.i64 x0_0, AV.slice a0_1 n0_1 9,
          AV.int IntKind.i64 x0_2])).new
      (AObj.cells false 0 (El.mk 24 true true)
       [AV.int IntKind.i64 x1_0, AV.slice a1_1 n1_1 9,
        AV.int IntKind.i64 x1_2])).rd
    (Pt.mk h.next (0 + 0)) 1 =
   some [AV.int IntKind.i64 x] ∧
  ∃ (x_1 : Int),
   ((h.new
          (AObj.cells false 0 (El.mk 24 true true)
           [AV.int IntKind.i64 x0_0, AV.slice a0_1 n0_1 9,
            AV.int IntKind.i64 x0_2])).new
        (AObj.cells false 0 (El.mk 24 true true)
         [AV.int IntKind.i64 x1_0, AV.slice a1_1 n1_1 9,
          AV.int IntKind.i64 x1_2])).rd
      (Pt.mk (h.next + 1) (0 + 0)) 1 =
     some [AV.int IntKind.i64 x_1] ∧
    match x == x_1 with
    | true =>
     ∃ (x : Sl),
      ((h.new
             (AObj.cells false 0 (El.mk 24 true true)
              [AV.int IntKind.i64 x0_0, AV.slice a0_1 n0_1 9,
               AV.int IntKind.i64 x0_2])).new
           (AObj.cells false 0 (El.mk 24 true true)
            [AV.int IntKind.i64 x1_0, AV.slice a1_1 n1_1 9,
             AV.int IntKind.i64 x1_2])).rd
         (Pt.mk h.next (0 + 1)) 1 =
        some [AV.slice x.1 x.len 9] ∧
       ∃ (x_2 : Sl),
        ((h.new
               (AObj.cells false 0 (El.mk 24 true true)
                [AV.int IntKind.i64 x0_0, AV.slice a0_1 n0_1 9,
                 AV.int IntKind.i64 x0_2])).new
             (AObj.cells false 0 (El.mk 24 true true)
              [AV.int IntKind.i64 x1_0, AV.slice a1_1 n1_1 9,
               AV.int IntKind.i64 x1_2])).rd
           (Pt.mk (h.next + 1) (0 + 1)) 1 =
          some [AV.slice x_2.1 x_2.len 9] ∧
         ACall prog (AV.func (Fn.func 20) [] [])
          [AV.slice x.1 x.len 9, AV.slice x_2.1 x_2.len 9]
          ((h.new
             (AObj.cells false 0 (El.mk 24 true true)
              [AV.int IntKind.i64 x0_0, AV.slice a0_1 n0_1 9,
               AV.int IntKind.i64 x0_2])).new
           (AObj.cells false 0 (El.mk 24 true true)
            [AV.int IntKind.i64 x1_0, AV.slice a1_1 n1_1 9,
             AV.int IntKind.i64 x1_2]))
          fun (v : AV) (h_1 : AH) ↦
          ∃ (x : Bool),
           v = AV.bool x ∧
            match bif true then x else false with
            | true =>
             ∃ (x : Int),
              h_1.rd (Pt.mk h.next (0 + 2)) 1 =
                some [AV.int IntKind.i64 x] ∧
               ∃ (x_3 : Int),
                h_1.rd (Pt.mk (h.next + 1) (0 + 2)) 1 =
                  some [AV.int IntKind.i64 x_3] ∧
                 R (AV.bool (bif true then x == x_3 else false)) h_1
            | false => R (AV.bool false) h_1
    | false =>
     R (AV.bool false)
      ((h.new
         (AObj.cells false 0 (El.mk 24 true true)
          [AV.int IntKind.i64 x0_0, AV.slice a0_1 n0_1 9,
           AV.int IntKind.i64 x0_2])).new
       (AObj.cells false 0 (El.mk 24 true true)
        [AV.int IntKind.i64 x1_0, AV.slice a1_1 n1_1 9,
         AV.int IntKind.i64 x1_2]))) := by kernel_rfl
-- gossamer/gossamerref36.Bare
theorem w12 (x0_0 : Int) (a0_1 : Option Pt) (n0_1 : Nat) (x0_2 : Int) (h : AH) (R : AV → AH → Prop) : fnW prog tyt f12 (.seq .leaf (.seq (.seq .leaf (.block (.seq .leaf (.cond (.seq .leaf .leaf) (.seq .leaf (.cond (.seq .leaf .leaf) .leaf)))))) (.seq .leaf .leaf))) [(.agg [(.int .i64 x0_0), (.slice a0_1 n0_1 9), (.int .i64 x0_2)])] h R = (
 ∃ (x : Int),
 ((h.new
        (AObj.cells false 0 (El.mk 24 true true)
         [AV.int IntKind.i64 x0_0, AV.slice a0_1 n0_1 9,
          AV.int IntKind.i64 x0_2])).new
      (AObj.cells false 0 (El.mk 24 true true)
       [AV.int IntKind.i64 (0 : Int), AV.slice none 0 9,
        AV.int IntKind.i64 (0 : Int)])).rd
    (Pt.mk h.next (0 + 0)) 1 =
   some [AV.int IntKind.i64 x] ∧
  ((x == (1 : Int)) = true →
    ∃ (x : Sl),
     ((h.new
            (AObj.cells false 0 (El.mk 24 true true)
             [AV.int IntKind.i64 x0_0, AV.slice a0_1 n0_1 9,
              AV.int IntKind.i64 x0_2])).new
          (AObj.cells false 0 (El.mk 24 true true)
           [AV.int IntKind.i64 (0 : Int), AV.slice none 0 9,
            AV.int IntKind.i64 (0 : Int)])).rd
        (Pt.mk h.next (0 + 1)) 1 =
       some [AV.slice x.1 x.len 9] ∧
      ∃ (h' : AH),
       ((h.new
              (AObj.cells false 0 (El.mk 24 true true)
               [AV.int IntKind.i64 x0_0, AV.slice a0_1 n0_1 9,
                AV.int IntKind.i64 x0_2])).new
            (AObj.cells false 0 (El.mk 24 true true)
             [AV.int IntKind.i64 (0 : Int), AV.slice none 0 9,
              AV.int IntKind.i64 (0 : Int)])).wr
          (Pt.mk (h.next + 1) 0)
          [AV.int IntKind.i64 (1 : Int), AV.slice x.1 x.len 9,
           AV.int IntKind.i64 (0 : Int)] =
         some h' ∧
        ∃ (x : Int × Sl × Int),
         h'.rd (Pt.mk (h.next + 1) 0) 3 =
           some
            [AV.int IntKind.i64 x.1, AV.slice x.2.1.1 x.2.1.len 9,
             AV.int IntKind.i64 x.2.2] ∧
          R
           (AV.agg
            [AV.int IntKind.i64 x.1, AV.slice x.2.1.1 x.2.1.len 9,
             AV.int IntKind.i64 x.2.2])
           h') ∧
   ((x == (1 : Int)) = false →
    ((x == (2 : Int)) = true →
      ∃ (x : Int),
       ((h.new
              (AObj.cells false 0 (El.mk 24 true true)
               [AV.int IntKind.i64 x0_0, AV.slice a0_1 n0_1 9,
                AV.int IntKind.i64 x0_2])).new
            (AObj.cells false 0 (El.mk 24 true true)
             [AV.int IntKind.i64 (0 : Int), AV.slice none 0 9,
              AV.int IntKind.i64 (0 : Int)])).rd
          (Pt.mk h.next (0 + 2)) 1 =
         some [AV.int IntKind.i64 x] ∧
        ∃ (h' : AH),
         ((h.new
                (AObj.cells false 0 (El.mk 24 true true)
                 [AV.int IntKind.i64 x0_0, AV.slice a0_1 n0_1 9,
                  AV.int IntKind.i64 x0_2])).new
              (AObj.cells false 0 (El.mk 24 true true)
               [AV.int IntKind.i64 (0 : Int), AV.slice none 0 9,
                AV.int IntKind.i64 (0 : Int)])).wr
            (Pt.mk (h.next + 1) 0)
            [AV.int IntKind.i64 (2 : Int), AV.slice none 0 9,
             AV.int IntKind.i64 x] =
           some h' ∧
          ∃ (x : Int × Sl × Int),
           h'.rd (Pt.mk (h.next + 1) 0) 3 =
             some
              [AV.int IntKind.i64 x.1, AV.slice x.2.1.1 x.2.1.len 9,
               AV.int IntKind.i64 x.2.2] ∧
            R
             (AV.agg
              [AV.int IntKind.i64 x.1, AV.slice x.2.1.1 x.2.1.len 9,
               AV.int IntKind.i64 x.2.2])
             h') ∧
     ((x == (2 : Int)) = false →
      ∃ (x : Int),
       ((h.new
              (AObj.cells false 0 (El.mk 24 true true)
               [AV.int IntKind.i64 x0_0, AV.slice a0_1 n0_1 9,
                AV.int IntKind.i64 x0_2])).new
            (AObj.cells false 0 (El.mk 24 true true)
             [AV.int IntKind.i64 (0 : Int), AV.slice none 0 9,
              AV.int IntKind.i64 (0 : Int)])).rd
          (Pt.mk h.next (0 + 0)) 1 =
         some [AV.int IntKind.i64 x] ∧
        ∃ (h' : AH),
         ((h.new
                (AObj.cells false 0 (El.mk 24 true true)
                 [AV.int IntKind.i64 x0_0, AV.slice a0_1 n0_1 9,
                  AV.int IntKind.i64 x0_2])).new
              (AObj.cells false 0 (El.mk 24 true true)
               [AV.int IntKind.i64 (0 : Int), AV.slice none 0 9,
                AV.int IntKind.i64 (0 : Int)])).wr
            (Pt.mk (h.next + 1) 0)
            [AV.int IntKind.i64 x, AV.slice none 0 9,
             AV.int IntKind.i64 (0 : Int)] =
           some h' ∧
          ∃ (x : Int × Sl × Int),
           h'.rd (Pt.mk (h.next + 1) 0) 3 =
             some
              [AV.int IntKind.i64 x.1, AV.slice x.2.1.1 x.2.1.len 9,
               AV.int IntKind.i64 x.2.2] ∧
            R
             (AV.agg
              [AV.int IntKind.i64 x.1, AV.slice x.2.1.1 x.2.1.len 9,
               AV.int IntKind.i64 x.2.2])
             h'))) := by kernel_rfl
-- gossamer/gossamerref09.Short
theorem w13 (x0_0 : Int) (x0_1 : Int) (x0_2 : Int) (x0_3 : Int) (s0_4 : Str) (s0_5 : Str) (x0_6 : Int) (x0_7 : Int) (b0_8 : Bool) (h : AH) (R : AV → AH → Prop) : fnW prog tyt f13 (.seq .leaf (.seq .leaf .leaf)) [(.agg [(.int .i64 x0_0), (.int .i64 x0_1), (.int .i64 x0_2), (.int .i64 x0_3), (.str s0_4), (.str s0_5), (.int .i64 x0_6), (.int .i64 x0_7), (.bool b0_8)])] h R = (
 ∃ (x : List UInt8),
 (h.new
      (AObj.cells false 0 (El.mk 37 true true)
       [AV.int IntKind.i64 x0_0, AV.int IntKind.i64 x0_1, AV.int IntKind.i64 x0_2,
        AV.int IntKind.i64 x0_3, AV.str s0_4, AV.str s0_5,
        AV.int IntKind.i64 x0_6, AV.int IntKind.i64 x0_7, AV.bool b0_8])).rd
    (Pt.mk h.next (0 + 4)) 1 =
   some [AV.str x] ∧
  match Decidable.decide ((↑x.length : Int) ≤ (100 : Int)) with
  | true =>
   ∃ (x : List UInt8),
    (h.new
         (AObj.cells false 0 (El.mk 37 true true)
          [AV.int IntKind.i64 x0_0, AV.int IntKind.i64 x0_1,
           AV.int IntKind.i64 x0_2, AV.int IntKind.i64 x0_3, AV.str s0_4,
           AV.str s0_5, AV.int IntKind.i64 x0_6, AV.int IntKind.i64 x0_7,
           AV.bool b0_8])).rd
       (Pt.mk h.next (0 + 5)) 1 =
      some [AV.str x] ∧
     R (AV.bool (bif true then Decidable.decide ((↑x.length : Int) ≤ (100 : Int)) else false))
      (h.new
       (AObj.cells false 0 (El.mk 37 true true)
        [AV.int IntKind.i64 x0_0, AV.int IntKind.i64 x0_1, AV.int IntKind.i64 x0_2,
         AV.int IntKind.i64 x0_3, AV.str s0_4, AV.str s0_5,
         AV.int IntKind.i64 x0_6, AV.int IntKind.i64 x0_7, AV.bool b0_8]))
  | false =>
   R (AV.bool false)
    (h.new
     (AObj.cells false 0 (El.mk 37 true true)
      [AV.int IntKind.i64 x0_0, AV.int IntKind.i64 x0_1, AV.int IntKind.i64 x0_2,
       AV.int IntKind.i64 x0_3, AV.str s0_4, AV.str s0_5, AV.int IntKind.i64 x0_6,
       AV.int IntKind.i64 x0_7, AV.bool b0_8]))) := by kernel_rfl
-- gossamer/gossamerref09.Same
theorem w20 (a0 : Option Pt) (n0 : Nat) (a1 : Option Pt) (n1 : Nat) (h : AH) (R : AV → AH → Prop) : fnW prog tyt f20 (.seq .leaf (.seq (.seq .leaf (.cond (.seq .leaf .leaf) .leaf)) (.seq (.seq .leaf (.block (.loop [(5, false, [.int .i64])] (.seq (.seq .leaf (.cond .leaf .leaf)) (.seq (.block (.seq (.draw [0, 1, 2, 3, 4, 5, 6, 7, 8]) (.cond (.seq .leaf .leaf) .leaf))) .leaf))))) (.seq .leaf .leaf)))) [(.slice a0 n0 9), (.slice a1 n1 9)] h R = (
 (((↑n0 : Int) != (↑n1 : Int)) = true → R (AV.bool false) h) ∧
 (((↑n0 : Int) != (↑n1 : Int)) = false →
  ∃ (I : Int × Unit → AH → Prop),
   ∃ (μ : Int × Unit → AH → Nat),
    I ((0 : Int), ()) h ∧
     ∀ (x : Int) (h1 : AH),
      I (x, ()) h1 →
       match Decidable.decide (x < (↑n0 : Int)) with
       | true =>
        ((bif true then Decidable.decide (x < (↑n1 : Int)) else false) = true →
          (0 : Int) ≤ x ∧
           x < (↑n0 : Int) ∧
            match a0 with
            | some a =>
             ∃ (x_1 : Int × Int × Int × Int × List UInt8 × List UInt8 × Int × Int × Bool),
              h1.rd (Pt.mk a.b (a.o + x.toNat * 9)) 9 =
                some
                 [AV.int IntKind.i64 x_1.1, AV.int IntKind.i64 x_1.2.1,
                  AV.int IntKind.i64 x_1.2.2.1,
                  AV.int IntKind.i64 x_1.2.2.2.1,
                  AV.str x_1.2.2.2.2.1, AV.str x_1.2.2.2.2.2.1,
                  AV.int IntKind.i64 x_1.2.2.2.2.2.2.1,
                  AV.int IntKind.i64 x_1.2.2.2.2.2.2.2.1,
                  AV.bool x_1.2.2.2.2.2.2.2.2] ∧
               (0 : Int) ≤ x ∧
                x < (↑n1 : Int) ∧
                 match a1 with
                 | some a =>
                  ∃ (x_2 : Int × Int × Int × Int × List UInt8 × List UInt8 × Int × Int × Bool),
                   h1.rd (Pt.mk a.b (a.o + x.toNat * 9)) 9 =
                     some
                      [AV.int IntKind.i64 x_2.1,
                       AV.int IntKind.i64 x_2.2.1,
                       AV.int IntKind.i64 x_2.2.2.1,
                       AV.int IntKind.i64 x_2.2.2.2.1,
                       AV.str x_2.2.2.2.2.1,
                       AV.str x_2.2.2.2.2.2.1,
                       AV.int IntKind.i64 x_2.2.2.2.2.2.2.1,
                       AV.int IntKind.i64 x_2.2.2.2.2.2.2.2.1,
                       AV.bool x_2.2.2.2.2.2.2.2.2] ∧
                    ((!beqCells
                         (encTup
                          [K1.int IntKind.i64, K1.int IntKind.i64,
                           K1.int IntKind.i64, K1.int IntKind.i64,
                           K1.str, K1.str, K1.int IntKind.i64,
                           K1.int IntKind.i64, K1.bool]
                          x_1)
                         (encTup
                          [K1.int IntKind.i64, K1.int IntKind.i64,
                           K1.int IntKind.i64, K1.int IntKind.i64,
                           K1.str, K1.str, K1.int IntKind.i64,
                           K1.int IntKind.i64, K1.bool]
                          x_2)) =
                       true →
                      R (AV.bool false) h1) ∧
                     ((!beqCells
                         (encTup
                          [K1.int IntKind.i64, K1.int IntKind.i64,
                           K1.int IntKind.i64, K1.int IntKind.i64,
                           K1.str, K1.str, K1.int IntKind.i64,
                           K1.int IntKind.i64, K1.bool]
                          x_1)
                         (encTup
                          [K1.int IntKind.i64, K1.int IntKind.i64,
                           K1.int IntKind.i64, K1.int IntKind.i64,
                           K1.str, K1.str, K1.int IntKind.i64,
                           K1.int IntKind.i64, K1.bool]
                          x_2)) =
                       false →
                      I (IntKind.i64.wrap (x + (1 : Int)), ()) h1 ∧
                       μ (IntKind.i64.wrap (x + (1 : Int)), ()) h1 < μ (x, ()) h1)
                 | none => False
            | none => False) ∧
         ((bif true then Decidable.decide (x < (↑n1 : Int)) else false) = false →
          R (AV.bool true) h1)
       | false =>
        (false = true →
          (0 : Int) ≤ x ∧
           x < (↑n0 : Int) ∧
            match a0 with
            | some a =>
             ∃ (x_1 : Int × Int × Int × Int × List UInt8 × List UInt8 × Int × Int × Bool),
              h1.rd (Pt.mk a.b (a.o + x.toNat * 9)) 9 =
                some
                 [AV.int IntKind.i64 x_1.1, AV.int IntKind.i64 x_1.2.1,
                  AV.int IntKind.i64 x_1.2.2.1,
                  AV.int IntKind.i64 x_1.2.2.2.1,
                  AV.str x_1.2.2.2.2.1, AV.str x_1.2.2.2.2.2.1,
                  AV.int IntKind.i64 x_1.2.2.2.2.2.2.1,
                  AV.int IntKind.i64 x_1.2.2.2.2.2.2.2.1,
                  AV.bool x_1.2.2.2.2.2.2.2.2] ∧
               (0 : Int) ≤ x ∧
                x < (↑n1 : Int) ∧
                 match a1 with
                 | some a =>
                  ∃ (x_2 : Int × Int × Int × Int × List UInt8 × List UInt8 × Int × Int × Bool),
                   h1.rd (Pt.mk a.b (a.o + x.toNat * 9)) 9 =
                     some
                      [AV.int IntKind.i64 x_2.1,
                       AV.int IntKind.i64 x_2.2.1,
                       AV.int IntKind.i64 x_2.2.2.1,
                       AV.int IntKind.i64 x_2.2.2.2.1,
                       AV.str x_2.2.2.2.2.1,
                       AV.str x_2.2.2.2.2.2.1,
                       AV.int IntKind.i64 x_2.2.2.2.2.2.2.1,
                       AV.int IntKind.i64 x_2.2.2.2.2.2.2.2.1,
                       AV.bool x_2.2.2.2.2.2.2.2.2] ∧
                    ((!beqCells
                         (encTup
                          [K1.int IntKind.i64, K1.int IntKind.i64,
                           K1.int IntKind.i64, K1.int IntKind.i64,
                           K1.str, K1.str, K1.int IntKind.i64,
                           K1.int IntKind.i64, K1.bool]
                          x_1)
                         (encTup
                          [K1.int IntKind.i64, K1.int IntKind.i64,
                           K1.int IntKind.i64, K1.int IntKind.i64,
                           K1.str, K1.str, K1.int IntKind.i64,
                           K1.int IntKind.i64, K1.bool]
                          x_2)) =
                       true →
                      R (AV.bool false) h1) ∧
                     ((!beqCells
                         (encTup
                          [K1.int IntKind.i64, K1.int IntKind.i64,
                           K1.int IntKind.i64, K1.int IntKind.i64,
                           K1.str, K1.str, K1.int IntKind.i64,
                           K1.int IntKind.i64, K1.bool]
                          x_1)
                         (encTup
                          [K1.int IntKind.i64, K1.int IntKind.i64,
                           K1.int IntKind.i64, K1.int IntKind.i64,
                           K1.str, K1.str, K1.int IntKind.i64,
                           K1.int IntKind.i64, K1.bool]
                          x_2)) =
                       false →
                      I (IntKind.i64.wrap (x + (1 : Int)), ()) h1 ∧
                       μ (IntKind.i64.wrap (x + (1 : Int)), ()) h1 < μ (x, ()) h1)
                 | none => False
            | none => False) ∧
         (false = false → R (AV.bool true) h1))) := by kernel_rfl
-- (*gossamer/pack.Writer).Num
theorem w23 (p0 : Pt) (x1 : Int) (h : AH) (R : AV → AH → Prop) : fnW prog tyt f23 .leaf [(.ptr (some p0)), (.int .i64 x1)] h R = (
 ACall prog (AV.func (Fn.func 62) [] []) [AV.int IntKind.i64 x1] h
 fun (v : AV) (h : AH) ↦
 ∃ (x : List UInt8),
  v = AV.str x ∧
   ACall prog (AV.func (Fn.func 61) [] [])
    [AV.ptr (some p0), AV.str x] h fun (v : AV) (h : AH) ↦
    ∃ (x : Unit), v = AV.tuple [] ∧ R (AV.tuple []) h) := by kernel_rfl
-- gossamer/lot.Put
theorem w24 (a0 : Option Pt) (n0 : Nat) (h : AH) (R : AV → AH → Prop) : fnW prog tyt f24 (.seq .leaf (.seq (.block (.seq .leaf (.cond (.seq .leaf .leaf) (.seq .leaf (.cond (.seq .leaf .leaf) .leaf))))) (.seq .leaf (.seq .leaf (.seq (.seq .leaf (.block (.loop [(20, false, [.int .i64])] (.seq .leaf (.seq (.cond .leaf .leaf) (.seq (.block (.seq .leaf .leaf)) .leaf)))))) (.seq .leaf .leaf)))))) [(.slice a0 n0 9)] h R = (
 (Decidable.decide ((↑n0 : Int) > (256 : Int)) = true →
  R (AV.tuple [AV.str [], AV.int IntKind.i64 (12 : Int)]) h) ∧
 (Decidable.decide ((↑n0 : Int) > (256 : Int)) = false →
  ACall prog (AV.func (Fn.func 63) [] []) [AV.slice a0 n0 9] h
   fun (v : AV) (h : AH) ↦
   ∃ (x : Bool),
    v = AV.bool x ∧
     ((!x) = true → R (AV.tuple [AV.str [], AV.int IntKind.i64 (1 : Int)]) h) ∧
      ((!x) = false →
       ACall prog (AV.func (Fn.func 23) [] [])
        [AV.ptr (some (Pt.mk h.next 0)), AV.int IntKind.i64 (↑n0 : Int)]
        (h.new
         (AObj.cells false 0 (El.mk 61 true true)
          [AV.ptr none, AV.slice none 0 1]))
        fun (v : AV) (h_1 : AH) ↦
        ∃ (x : Unit),
         v = AV.tuple [] ∧
          ∃ (I : Int × Unit → AH → Prop),
           ∃ (μ : Int × Unit → AH → Nat),
            I ((0 : Int), ()) h_1 ∧
             ∀ (x : Int) (h1 : AH),
              I (x, ()) h1 →
               (Decidable.decide (x < (↑n0 : Int)) = true →
                 (0 : Int) ≤ x ∧
                  x < (↑n0 : Int) ∧
                   match a0 with
                   | some a =>
                    ∃ (x_1 : Int × Int × Int × Int × List UInt8 × List UInt8 × Int × Int × Bool),
                     h1.rd (Pt.mk a.b (a.o + x.toNat * 9)) 9 =
                       some
                        [AV.int IntKind.i64 x_1.1,
                         AV.int IntKind.i64 x_1.2.1,
                         AV.int IntKind.i64 x_1.2.2.1,
                         AV.int IntKind.i64 x_1.2.2.2.1,
                         AV.str x_1.2.2.2.2.1,
                         AV.str x_1.2.2.2.2.2.1,
                         AV.int IntKind.i64 x_1.2.2.2.2.2.2.1,
                         AV.int IntKind.i64 x_1.2.2.2.2.2.2.2.1,
                         AV.bool x_1.2.2.2.2.2.2.2.2] ∧
                      ∃ (h' : AH),
                       (h1.new
                            (AObj.cells false 0
                             (El.mk 37 true true)
                             [AV.int IntKind.i64 (0 : Int),
                              AV.int IntKind.i64 (0 : Int),
                              AV.int IntKind.i64 (0 : Int),
                              AV.int IntKind.i64 (0 : Int), AV.str [],
                              AV.str [], AV.int IntKind.i64 (0 : Int),
                              AV.int IntKind.i64 (0 : Int),
                              AV.bool false])).wr
                          (Pt.mk h1.next 0)
                          (encTup
                           [K1.int IntKind.i64, K1.int IntKind.i64,
                            K1.int IntKind.i64, K1.int IntKind.i64,
                            K1.str, K1.str, K1.int IntKind.i64,
                            K1.int IntKind.i64, K1.bool]
                           x_1) =
                         some h' ∧
                        ∃ (x_2 :
                         Int × Int × Int × Int × List UInt8 × List UInt8 × Int × Int × Bool),
                         h'.rd (Pt.mk h1.next 0) 9 =
                           some
                            [AV.int IntKind.i64 x_2.1,
                             AV.int IntKind.i64 x_2.2.1,
                             AV.int IntKind.i64 x_2.2.2.1,
                             AV.int IntKind.i64 x_2.2.2.2.1,
                             AV.str x_2.2.2.2.2.1,
                             AV.str x_2.2.2.2.2.2.1,
                             AV.int IntKind.i64 x_2.2.2.2.2.2.2.1,
                             AV.int IntKind.i64
                              x_2.2.2.2.2.2.2.2.1,
                             AV.bool x_2.2.2.2.2.2.2.2.2] ∧
                          ACall prog
                           (AV.func (Fn.func 64) [] [])
                           [AV.ptr (some (Pt.mk h.next 0)),
                            AV.agg
                             [AV.int IntKind.i64 x_2.1,
                              AV.int IntKind.i64 x_2.2.1,
                              AV.int IntKind.i64 x_2.2.2.1,
                              AV.int IntKind.i64 x_2.2.2.2.1,
                              AV.str x_2.2.2.2.2.1,
                              AV.str x_2.2.2.2.2.2.1,
                              AV.int IntKind.i64 x_2.2.2.2.2.2.2.1,
                              AV.int IntKind.i64
                               x_2.2.2.2.2.2.2.2.1,
                              AV.bool x_2.2.2.2.2.2.2.2.2]]
                           h' fun (v : AV) (h : AH) ↦
                           ∃ (x_3 : Unit),
                            v = AV.tuple [] ∧
                             I (IntKind.i64.wrap (x + (1 : Int)), ()) h ∧
                              μ (IntKind.i64.wrap (x + (1 : Int)), ()) h < μ (x, ()) h1
                   | none => False) ∧
                (Decidable.decide (x < (↑n0 : Int)) = false →
                 ACall prog (AV.func (Fn.func 25) [] [])
                  [AV.ptr (some (Pt.mk h.next 0))] h1
                  fun (v : AV) (h : AH) ↦
                  ∃ (x : List UInt8),
                   v = AV.str x ∧
                    R (AV.tuple [AV.str x, AV.int IntKind.i64 (0 : Int)]) h)))) := by kernel_rfl
-- (*gossamer/pack.Writer).Bytes
theorem w25 (p0 : Pt) (h : AH) (R : AV → AH → Prop) : fnW prog tyt f25 (.seq .leaf (.seq (.seq .leaf (.cond (.seq .leaf .leaf) .leaf)) (.seq .leaf .leaf))) [(.ptr (some p0))] h R = (
 (false = true → R (AV.str []) h) ∧
 (false = false →
  ACall prog (AV.func (Fn.func 65) [] [])
   [AV.ptr (some (Pt.mk p0.b (p0.o + 0)))] h fun (v : AV) (h : AH) ↦
   ∃ (x : List UInt8), v = AV.str x ∧ R (AV.str x) h)) := by kernel_rfl
-- (*gossamer/pack.Writer).Signed
theorem w26 (p0 : Pt) (x1 : Int) (h : AH) (R : AV → AH → Prop) : fnW prog tyt f26 .leaf [(.ptr (some p0)), (.int .i64 x1)] h R = (
 ACall prog (AV.func (Fn.func 66) [] []) [AV.int IntKind.i64 x1] h
 fun (v : AV) (h : AH) ↦
 ∃ (x : List UInt8),
  v = AV.str x ∧
   ACall prog (AV.func (Fn.func 61) [] [])
    [AV.ptr (some p0), AV.str x] h fun (v : AV) (h : AH) ↦
    ∃ (x : Unit), v = AV.tuple [] ∧ R (AV.tuple []) h) := by kernel_rfl
-- gossamer/gossamerref11.Put
theorem w27 (a0 : Option Pt) (n0 : Nat) (h : AH) (R : AV → AH → Prop) : fnW prog tyt f27 (.seq .leaf (.seq (.seq .leaf (.cond (.seq .leaf .leaf) .leaf)) (.seq .leaf (.seq (.seq .leaf (.block (.loop [(5, false, [.int .i64]), (4, false, [.str])] (.seq (.seq .leaf (.cond .leaf .leaf)) (.seq (.block (.seq .leaf (.seq (.seq .leaf (.cond (.seq .leaf .leaf) .leaf)) .leaf))) .leaf))))) (.seq .leaf .leaf))))) [(.slice a0 n0 9)] h R = (
 (Decidable.decide ((↑n0 : Int) > (256 : Int)) = true →
  R (AV.tuple [AV.str [], AV.int IntKind.i64 (12 : Int)]) h) ∧
 (Decidable.decide ((↑n0 : Int) > (256 : Int)) = false →
  ACall prog (AV.func (Fn.func 67) [] [])
   [AV.int IntKind.i64 (↑n0 : Int)] h fun (v : AV) (h : AH) ↦
   ∃ (x : List UInt8),
    v = AV.str x ∧
     ∃ (I : Int × List UInt8 × Unit → AH → Prop),
      ∃ (μ : Int × List UInt8 × Unit → AH → Nat),
       I ((0 : Int), x, ()) h ∧
        ∀ (x : Int) (x_1 : List UInt8) (h1 : AH),
         I (x, x_1, ()) h1 →
          (Decidable.decide (x < (↑n0 : Int)) = true →
            (0 : Int) ≤ x ∧
             x < (↑n0 : Int) ∧
              match a0 with
              | some a =>
               ∃ (x_2 : Int × Int × Int × Int × List UInt8 × List UInt8 × Int × Int × Bool),
                h1.rd (Pt.mk a.b (a.o + x.toNat * 9)) 9 =
                  some
                   [AV.int IntKind.i64 x_2.1, AV.int IntKind.i64 x_2.2.1,
                    AV.int IntKind.i64 x_2.2.2.1,
                    AV.int IntKind.i64 x_2.2.2.2.1,
                    AV.str x_2.2.2.2.2.1, AV.str x_2.2.2.2.2.2.1,
                    AV.int IntKind.i64 x_2.2.2.2.2.2.2.1,
                    AV.int IntKind.i64 x_2.2.2.2.2.2.2.2.1,
                    AV.bool x_2.2.2.2.2.2.2.2.2] ∧
                 ACall prog (AV.func (Fn.func 68) [] [])
                  [AV.agg
                    [AV.int IntKind.i64 x_2.1, AV.int IntKind.i64 x_2.2.1,
                     AV.int IntKind.i64 x_2.2.2.1,
                     AV.int IntKind.i64 x_2.2.2.2.1,
                     AV.str x_2.2.2.2.2.1,
                     AV.str x_2.2.2.2.2.2.1,
                     AV.int IntKind.i64 x_2.2.2.2.2.2.2.1,
                     AV.int IntKind.i64 x_2.2.2.2.2.2.2.2.1,
                     AV.bool x_2.2.2.2.2.2.2.2.2]]
                  h1 fun (v : AV) (h : AH) ↦
                  ∃ (x_3 : List UInt8 × Int × Unit),
                   v =
                     AV.tuple
                      [AV.str x_3.1, AV.int IntKind.i64 x_3.2.1] ∧
                    ((x_3.2.1 != (0 : Int)) = true →
                      R
                       (AV.tuple
                        [AV.str [], AV.int IntKind.i64 x_3.2.1])
                       h) ∧
                     ((x_3.2.1 != (0 : Int)) = false →
                      x_1.length + List.length x_3.1 < 4611686018427387904 ∧
                       I (IntKind.i64.wrap (x + (1 : Int)), x_1 ++ x_3.1, ()) h ∧
                        μ (IntKind.i64.wrap (x + (1 : Int)), x_1 ++ x_3.1, ()) h <
                         μ (x, x_1, ()) h1)
              | none => False) ∧
           (Decidable.decide (x < (↑n0 : Int)) = false →
            R (AV.tuple [AV.str x_1, AV.int IntKind.i64 (0 : Int)]) h1))) := by kernel_rfl
-- gossamer/gossamerref01.PutSigned
theorem w28 (x0 : Int) (h : AH) (R : AV → AH → Prop) : fnW prog tyt f28 (.seq .leaf (.seq .leaf .leaf)) [(.int .i64 x0)] h R = (
 ACall prog (AV.func (Fn.func 70) [] []) [AV.int IntKind.i64 x0] h
 fun (v : AV) (h : AH) ↦
 ∃ (x : Int),
  v = AV.int IntKind.u64 x ∧
   ACall prog (AV.func (Fn.func 69) [] []) [AV.int IntKind.u64 x] h
    fun (v : AV) (h : AH) ↦ ∃ (x : List UInt8), v = AV.str x ∧ R (AV.str x) h) := by kernel_rfl
-- gossamer/pack.New
theorem w29 (s0 : Str) (h : AH) (R : AV → AH → Prop) : fnW prog tyt f29 (.seq .leaf (.seq .leaf .leaf)) [(.str s0)] h R = (
 R (AV.ptr (some (Pt.mk h.next 0)))
 (h.new
  (AObj.cells false 0 (El.mk 163 true true)
   [AV.str s0, AV.int IntKind.i64 (0 : Int)]))) := by kernel_rfl
-- (*gossamer/pack.Reader).Num
theorem w30 (p0 : Pt) (h : AH) (R : AV → AH → Prop) : fnW prog tyt f30 (.seq .leaf (.seq .leaf .leaf)) [(.ptr (some p0))] h R = (
 ACall prog (AV.func (Fn.func 71) [] [])
 [AV.ptr (some p0), AV.func (Fn.func 72) [] []] h fun (v : AV) (h : AH) ↦
 ∃ (x : Int), v = AV.int IntKind.i64 x ∧ R (AV.int IntKind.i64 x) h) := by kernel_rfl
-- (*gossamer/pack.Reader).Err
theorem w31 (p0 : Pt) (h : AH) (R : AV → AH → Prop) : fnW prog tyt f31 (.seq .leaf (.seq (.seq .leaf (.cond (.seq .leaf .leaf) .leaf)) (.seq .leaf .leaf))) [(.ptr (some p0))] h R = (
 (false = true → R (AV.int IntKind.i64 (0 : Int)) h) ∧
 (false = false →
  ∃ (x : Int),
   h.rd (Pt.mk p0.b (p0.o + 1)) 1 = some [AV.int IntKind.i64 x] ∧
    R (AV.int IntKind.i64 x) h)) := by kernel_rfl
-- gossamer/lot.Take
theorem w32 (s0 : Str) (h : AH) (R : AV → AH → Prop) : fnW prog tyt f32 (.seq .leaf (.seq .leaf (.seq .leaf (.seq (.block (.seq .leaf (.cond (.seq .leaf .leaf) (.seq .leaf (.cond (.seq .leaf .leaf) .leaf))))) (.seq .leaf (.seq (.seq .leaf (.block (.loop [(22, false, [.int .i64]), (6, false, [.slice 9])] (.seq .leaf (.seq (.cond .leaf .leaf) (.seq (.block .leaf) .leaf)))))) (.seq (.seq .leaf (.seq .leaf (.cond (.seq .leaf .leaf) .leaf))) (.seq (.seq .leaf (.cond (.seq .leaf .leaf) .leaf)) (.seq .leaf .leaf))))))))) [(.str s0)] h R = (
 ACall prog (AV.func (Fn.func 29) [] []) [AV.str s0] h
 fun (v : AV) (h : AH) ↦
 ∃ (x : Option Pt),
  v = AV.ptr x ∧
   ACall prog (AV.func (Fn.func 30) [] []) [AV.ptr x] h
    fun (v : AV) (h : AH) ↦
    ∃ (x_1 : Int),
     v = AV.int IntKind.i64 x_1 ∧
      ACall prog (AV.func (Fn.func 31) [] []) [AV.ptr x] h
       fun (v : AV) (h : AH) ↦
       ∃ (x_2 : Int),
        v = AV.int IntKind.i64 x_2 ∧
         ((x_2 != (0 : Int)) = true →
           ACall prog (AV.func (Fn.func 31) [] []) [AV.ptr x] h
            fun (v : AV) (h : AH) ↦
            ∃ (x : Int),
             v = AV.int IntKind.i64 x ∧
              R
               (AV.tuple
                [AV.slice none 0 9, AV.int IntKind.i64 x])
               h) ∧
          ((x_2 != (0 : Int)) = false →
           (Decidable.decide (x_1 > (256 : Int)) = true →
             R
              (AV.tuple
               [AV.slice none 0 9, AV.int IntKind.i64 (12 : Int)])
              h) ∧
            (Decidable.decide (x_1 > (256 : Int)) = false →
             ∃ (I : Int × Sl × Unit → AH → Prop),
              ∃ (μ : Int × Sl × Unit → AH → Nat),
               I ((0 : Int), Sl.mk none 0, ()) h ∧
                ∀ (x_3 : Int) (x_4 : Sl) (h1 : AH),
                 I (x_3, x_4, ()) h1 →
                  (Decidable.decide (x_3 < x_1) = true →
                    ACall prog (AV.func (Fn.func 73) [] [])
                     [AV.ptr x] h1 fun (v : AV) (h : AH) ↦
                     ∃ (x : Int × Int × Int × Int × List UInt8 × List UInt8 × Int × Int × Bool),
                      v =
                        AV.agg
                         [AV.int IntKind.i64 x.1,
                          AV.int IntKind.i64 x.2.1,
                          AV.int IntKind.i64 x.2.2.1,
                          AV.int IntKind.i64 x.2.2.2.1,
                          AV.str x.2.2.2.2.1,
                          AV.str x.2.2.2.2.2.1,
                          AV.int IntKind.i64 x.2.2.2.2.2.2.1,
                          AV.int IntKind.i64 x.2.2.2.2.2.2.2.1,
                          AV.bool x.2.2.2.2.2.2.2.2] ∧
                       ∃ (ys : List AV),
                        SlAt
                          (h.new
                           (AObj.cells false 0
                            (El.mk 37 false true)
                            [AV.int IntKind.i64 x.1,
                             AV.int IntKind.i64 x.2.1,
                             AV.int IntKind.i64 x.2.2.1,
                             AV.int IntKind.i64 x.2.2.2.1,
                             AV.str x.2.2.2.2.1,
                             AV.str x.2.2.2.2.2.1,
                             AV.int IntKind.i64 x.2.2.2.2.2.2.1,
                             AV.int IntKind.i64 x.2.2.2.2.2.2.2.1,
                             AV.bool x.2.2.2.2.2.2.2.2]))
                          (some (Pt.mk h.next 0)) 9 ys ∧
                         x_4.len + 1 < 4294967296 ∧
                          match x_4.1 with
                          | none =>
                           I
                             (IntKind.i64.wrap (x_3 + (1 : Int)),
                              Sl.mk
                               (some (Pt.mk (h.next + 1) 0))
                               1,
                              ())
                             ((h.new
                                (AObj.cells false 0
                                 (El.mk 37 false true)
                                 [AV.int IntKind.i64 x.1,
                                  AV.int IntKind.i64 x.2.1,
                                  AV.int IntKind.i64 x.2.2.1,
                                  AV.int IntKind.i64 x.2.2.2.1,
                                  AV.str x.2.2.2.2.1,
                                  AV.str x.2.2.2.2.2.1,
                                  AV.int IntKind.i64
                                   x.2.2.2.2.2.2.1,
                                  AV.int IntKind.i64
                                   x.2.2.2.2.2.2.2.1,
                                  AV.bool
                                   x.2.2.2.2.2.2.2.2])).new
                              (AObj.cells false 0
                               (El.mk 37 false true) ys)) ∧
                            μ
                              (IntKind.i64.wrap (x_3 + (1 : Int)),
                               Sl.mk
                                (some
                                 (Pt.mk (h.next + 1) 0))
                                1,
                               ())
                              ((h.new
                                 (AObj.cells false 0
                                  (El.mk 37 false true)
                                  [AV.int IntKind.i64 x.1,
                                   AV.int IntKind.i64 x.2.1,
                                   AV.int IntKind.i64 x.2.2.1,
                                   AV.int IntKind.i64 x.2.2.2.1,
                                   AV.str x.2.2.2.2.1,
                                   AV.str x.2.2.2.2.2.1,
                                   AV.int IntKind.i64
                                    x.2.2.2.2.2.2.1,
                                   AV.int IntKind.i64
                                    x.2.2.2.2.2.2.2.1,
                                   AV.bool
                                    x.2.2.2.2.2.2.2.2])).new
                               (AObj.cells false 0
                                (El.mk 37 false true) ys)) <
                             μ (x_3, x_4, ()) h1
                          | some a =>
                           ∃ (fz : Nat),
                            ∃ (wh : Bool),
                             ∃ (cl : Bool),
                              ∃ (c : List AV),
                               (h.new
                                    (AObj.cells false 0
                                     (El.mk 37 false true)
                                     [AV.int IntKind.i64 x.1,
                                      AV.int IntKind.i64 x.2.1,
                                      AV.int IntKind.i64 x.2.2.1,
                                      AV.int IntKind.i64
                                       x.2.2.2.1,
                                      AV.str x.2.2.2.2.1,
                                      AV.str x.2.2.2.2.2.1,
                                      AV.int IntKind.i64
                                       x.2.2.2.2.2.2.1,
                                      AV.int IntKind.i64
                                       x.2.2.2.2.2.2.2.1,
                                      AV.bool
                                       x.2.2.2.2.2.2.2.2])).2
                                  a.b =
                                 some
                                  (AObj.cells false fz
                                   (El.mk 37 wh cl) c) ∧
                                a.o + x_4.len * 9 ≤ c.length ∧
                                 fz ≤ a.o + x_4.len * 9 ∧
                                  I
                                    (IntKind.i64.wrap (x_3 + (1 : Int)),
                                     Sl.mk
                                      (some
                                       (Pt.mk (h.next + 1)
                                        0))
                                      (x_4.len + 1),
                                     ())
                                    (((h.new
                                         (AObj.cells false 0
                                          (El.mk 37 false
                                           true)
                                          [AV.int IntKind.i64 x.1,
                                           AV.int IntKind.i64
                                            x.2.1,
                                           AV.int IntKind.i64
                                            x.2.2.1,
                                           AV.int IntKind.i64
                                            x.2.2.2.1,
                                           AV.str
                                            x.2.2.2.2.1,
                                           AV.str
                                            x.2.2.2.2.2.1,
                                           AV.int IntKind.i64
                                            x.2.2.2.2.2.2.1,
                                           AV.int IntKind.i64
                                            x.2.2.2.2.2.2.2.1,
                                           AV.bool
                                            x.2.2.2.2.2.2.2.2])).set
                                       a.b none).new
                                     (AObj.cells false (fz - a.o)
                                      (El.mk 37 false
                                       (cl && a.o.beq 0))
                                      ((List.take (x_4.len * 9)
                                         (List.drop a.o c)).append
                                       ys))) ∧
                                   μ
                                     (IntKind.i64.wrap (x_3 + (1 : Int)),
                                      Sl.mk
                                       (some
                                        (Pt.mk (h.next + 1)
                                         0))
                                       (x_4.len + 1),
                                      ())
                                     (((h.new
                                          (AObj.cells false
                                           0
                                           (El.mk 37 false
                                            true)
                                           [AV.int IntKind.i64
                                             x.1,
                                            AV.int IntKind.i64
                                             x.2.1,
                                            AV.int IntKind.i64
                                             x.2.2.1,
                                            AV.int IntKind.i64
                                             x.2.2.2.1,
                                            AV.str
                                             x.2.2.2.2.1,
                                            AV.str
                                             x.2.2.2.2.2.1,
                                            AV.int IntKind.i64
                                             x.2.2.2.2.2.2.1,
                                            AV.int IntKind.i64
                                             x.2.2.2.2.2.2.2.1,
                                            AV.bool
                                             x.2.2.2.2.2.2.2.2])).set
                                        a.b none).new
                                      (AObj.cells false (fz - a.o)
                                       (El.mk 37 false
                                        (cl && a.o.beq 0))
                                       ((List.take (x_4.len * 9)
                                          (List.drop a.o c)).append
                                        ys))) <
                                    μ (x_3, x_4, ()) h1) ∧
                   (Decidable.decide (x_3 < x_1) = false →
                    ACall prog (AV.func (Fn.func 35) [] [])
                     [AV.ptr x] h1 fun (v : AV) (h : AH) ↦
                     ∃ (x : Int),
                      v = AV.int IntKind.i64 x ∧
                       ((x != (0 : Int)) = true →
                         R
                          (AV.tuple
                           [AV.slice none 0 9,
                            AV.int IntKind.i64 x])
                          h) ∧
                        ((x != (0 : Int)) = false →
                         ACall prog
                          (AV.func (Fn.func 63) [] [])
                          [AV.slice x_4.1 x_4.len 9] h
                          fun (v : AV) (h : AH) ↦
                          ∃ (x : Bool),
                           v = AV.bool x ∧
                            ((!x) = true →
                              R
                               (AV.tuple
                                [AV.slice none 0 9,
                                 AV.int IntKind.i64 (1 : Int)])
                               h) ∧
                             ((!x) = false →
                              R
                               (AV.tuple
                                [AV.slice x_4.1 x_4.len 9,
                                 AV.int IntKind.i64 (0 : Int)])
                               h)))))) := by kernel_rfl
-- (*gossamer/pack.Reader).Left
theorem w33 (p0 : Pt) (h : AH) (R : AV → AH → Prop) : fnW prog tyt f33 (.seq .leaf (.seq (.seq .leaf (.cond (.seq .leaf .leaf) .leaf)) (.seq .leaf .leaf))) [(.ptr (some p0))] h R = (
 (false = true → R (AV.int IntKind.i64 (0 : Int)) h) ∧
 (false = false →
  ∃ (x : List UInt8),
   h.rd (Pt.mk (p0.add 0).b ((p0.add 0).o + 0)) 1 =
     some [AV.str x] ∧
    R (AV.int IntKind.i64 (↑x.length : Int)) h)) := by kernel_rfl
-- (*gossamer/pack.Reader).Signed
theorem w34 (p0 : Pt) (h : AH) (R : AV → AH → Prop) : fnW prog tyt f34 (.seq .leaf (.seq .leaf .leaf)) [(.ptr (some p0))] h R = (
 ACall prog (AV.func (Fn.func 71) [] [])
 [AV.ptr (some p0), AV.func (Fn.func 74) [] []] h fun (v : AV) (h : AH) ↦
 ∃ (x : Int), v = AV.int IntKind.i64 x ∧ R (AV.int IntKind.i64 x) h) := by kernel_rfl
-- (*gossamer/pack.Reader).End
theorem w35 (p0 : Pt) (h : AH) (R : AV → AH → Prop) : fnW prog tyt f35 (.seq .leaf (.seq (.seq .leaf (.cond (.seq .leaf .leaf) .leaf)) (.seq .leaf .leaf))) [(.ptr (some p0))] h R = (
 ACall prog (AV.func (Fn.func 31) [] []) [AV.ptr (some p0)] h
 fun (v : AV) (h : AH) ↦
 ∃ (x : Int),
  v = AV.int IntKind.i64 x ∧
   match x == (0 : Int) with
   | true =>
    ACall prog (AV.func (Fn.func 33) [] []) [AV.ptr (some p0)] h
     fun (v : AV) (h : AH) ↦
     ∃ (x : Int),
      v = AV.int IntKind.i64 x ∧
       ((bif true then Decidable.decide (x > (0 : Int)) else false) = true →
         R (AV.int IntKind.i64 (2 : Int)) h) ∧
        ((bif true then Decidable.decide (x > (0 : Int)) else false) = false →
         ACall prog (AV.func (Fn.func 31) [] [])
          [AV.ptr (some p0)] h fun (v : AV) (h : AH) ↦
          ∃ (x : Int), v = AV.int IntKind.i64 x ∧ R (AV.int IntKind.i64 x) h)
   | false =>
    (false = true → R (AV.int IntKind.i64 (2 : Int)) h) ∧
     (false = false →
      ACall prog (AV.func (Fn.func 31) [] [])
       [AV.ptr (some p0)] h fun (v : AV) (h : AH) ↦
       ∃ (x : Int), v = AV.int IntKind.i64 x ∧ R (AV.int IntKind.i64 x) h)) := by kernel_rfl
-- (*gossamer/gossamerref05.Reader).Num
theorem w36 (p0 : Pt) (h : AH) (R : AV → AH → Prop) : fnW prog tyt f36 (.seq .leaf (.seq .leaf (.seq .leaf .leaf))) [(.ptr (some p0))] h R = (
 ∃ (x : List UInt8),
 h.rd (Pt.mk p0.b (p0.o + 0)) 1 = some [AV.str x] ∧
  ACall prog (AV.func (Fn.func 75) [] []) [AV.str x] h
   fun (v : AV) (h : AH) ↦
   ∃ (x : Int × Int × Int × Unit),
    v =
      AV.tuple
       [AV.int IntKind.i64 x.1, AV.int IntKind.i64 x.2.1,
        AV.int IntKind.i64 x.2.2.1] ∧
     ACall prog (AV.func (Fn.func 76) [] [])
      [AV.ptr (some p0), AV.int IntKind.i64 x.1, AV.int IntKind.i64 x.2.1,
       AV.int IntKind.i64 x.2.2.1]
      h fun (v : AV) (h : AH) ↦
      ∃ (x : Int), v = AV.int IntKind.i64 x ∧ R (AV.int IntKind.i64 x) h) := by kernel_rfl
-- gossamer/gossamerref11.Take
theorem w37 (s0 : Str) (h : AH) (R : AV → AH → Prop) : fnW prog tyt f37 (.seq .leaf (.seq .leaf (.seq .leaf (.seq (.seq .leaf (.cond (.seq .leaf .leaf) .leaf)) (.seq .leaf (.seq (.seq .leaf (.block (.loop [(7, false, [.int .i64]), (6, false, [.slice 9])] (.seq (.seq .leaf (.cond .leaf .leaf)) (.seq (.block .leaf) .leaf))))) (.seq (.seq .leaf (.seq .leaf (.cond (.seq .leaf .leaf) .leaf))) (.seq (.seq .leaf (.block (.loop [(9, false, [.int .i64])] (.seq (.seq .leaf (.cond .leaf .leaf)) (.seq (.block (.seq .leaf (.cond (.seq .leaf .leaf) .leaf))) .leaf))))) (.seq .leaf .leaf))))))))) [(.str s0)] h R = (
 ACall prog (AV.func (Fn.func 36) [] [])
 [AV.ptr (some (Pt.mk h.next 0))]
 (h.new
  (AObj.cells false 0 (El.mk 74 true true)
   [AV.str s0, AV.int IntKind.i64 (0 : Int)]))
 fun (v : AV) (h_1 : AH) ↦
 ∃ (x : Int),
  v = AV.int IntKind.i64 x ∧
   ∃ (x_1 : Int),
    h_1.rd (Pt.mk h.next (0 + 1)) 1 = some [AV.int IntKind.i64 x_1] ∧
     match x_1 == (0 : Int) with
     | true =>
      ((bif true then Decidable.decide (x > (256 : Int)) else false) = true →
        R
         (AV.tuple
          [AV.slice none 0 9, AV.int IntKind.i64 (12 : Int)])
         h_1) ∧
       ((bif true then Decidable.decide (x > (256 : Int)) else false) = false →
        ∃ (I : Int × Sl × Unit → AH → Prop),
         ∃ (μ : Int × Sl × Unit → AH → Nat),
          I ((0 : Int), Sl.mk none 0, ()) h_1 ∧
           ∀ (x_2 : Int) (x_3 : Sl) (h1 : AH),
            I (x_2, x_3, ()) h1 →
             (Decidable.decide (x_2 < x) = true →
               ACall prog (AV.func (Fn.func 77) [] [])
                [AV.ptr (some (Pt.mk h.next 0))] h1
                fun (v : AV) (h : AH) ↦
                ∃ (x : Int × Int × Int × Int × List UInt8 × List UInt8 × Int × Int × Bool),
                 v =
                   AV.agg
                    [AV.int IntKind.i64 x.1, AV.int IntKind.i64 x.2.1,
                     AV.int IntKind.i64 x.2.2.1,
                     AV.int IntKind.i64 x.2.2.2.1,
                     AV.str x.2.2.2.2.1, AV.str x.2.2.2.2.2.1,
                     AV.int IntKind.i64 x.2.2.2.2.2.2.1,
                     AV.int IntKind.i64 x.2.2.2.2.2.2.2.1,
                     AV.bool x.2.2.2.2.2.2.2.2] ∧
                  ∃ (ys : List AV),
                   SlAt
                     (h.new
                      (AObj.cells false 0
                       (El.mk 37 false true)
                       [AV.int IntKind.i64 x.1, AV.int IntKind.i64 x.2.1,
                        AV.int IntKind.i64 x.2.2.1,
                        AV.int IntKind.i64 x.2.2.2.1,
                        AV.str x.2.2.2.2.1,
                        AV.str x.2.2.2.2.2.1,
                        AV.int IntKind.i64 x.2.2.2.2.2.2.1,
                        AV.int IntKind.i64 x.2.2.2.2.2.2.2.1,
                        AV.bool x.2.2.2.2.2.2.2.2]))
                     (some (Pt.mk h.next 0)) 9 ys ∧
                    x_3.len + 1 < 4294967296 ∧
                     match x_3.1 with
                     | none =>
                      I
                        (IntKind.i64.wrap (x_2 + (1 : Int)),
                         Sl.mk (some (Pt.mk (h.next + 1) 0))
                          1,
                         ())
                        ((h.new
                           (AObj.cells false 0
                            (El.mk 37 false true)
                            [AV.int IntKind.i64 x.1,
                             AV.int IntKind.i64 x.2.1,
                             AV.int IntKind.i64 x.2.2.1,
                             AV.int IntKind.i64 x.2.2.2.1,
                             AV.str x.2.2.2.2.1,
                             AV.str x.2.2.2.2.2.1,
                             AV.int IntKind.i64 x.2.2.2.2.2.2.1,
                             AV.int IntKind.i64 x.2.2.2.2.2.2.2.1,
                             AV.bool x.2.2.2.2.2.2.2.2])).new
                         (AObj.cells false 0
                          (El.mk 37 false true) ys)) ∧
                       μ
                         (IntKind.i64.wrap (x_2 + (1 : Int)),
                          Sl.mk
                           (some (Pt.mk (h.next + 1) 0))
                           1,
                          ())
                         ((h.new
                            (AObj.cells false 0
                             (El.mk 37 false true)
                             [AV.int IntKind.i64 x.1,
                              AV.int IntKind.i64 x.2.1,
                              AV.int IntKind.i64 x.2.2.1,
                              AV.int IntKind.i64 x.2.2.2.1,
                              AV.str x.2.2.2.2.1,
                              AV.str x.2.2.2.2.2.1,
                              AV.int IntKind.i64 x.2.2.2.2.2.2.1,
                              AV.int IntKind.i64
                               x.2.2.2.2.2.2.2.1,
                              AV.bool x.2.2.2.2.2.2.2.2])).new
                          (AObj.cells false 0
                           (El.mk 37 false true) ys)) <
                        μ (x_2, x_3, ()) h1
                     | some a =>
                      ∃ (fz : Nat),
                       ∃ (wh : Bool),
                        ∃ (cl : Bool),
                         ∃ (c : List AV),
                          (h.new
                               (AObj.cells false 0
                                (El.mk 37 false true)
                                [AV.int IntKind.i64 x.1,
                                 AV.int IntKind.i64 x.2.1,
                                 AV.int IntKind.i64 x.2.2.1,
                                 AV.int IntKind.i64 x.2.2.2.1,
                                 AV.str x.2.2.2.2.1,
                                 AV.str x.2.2.2.2.2.1,
                                 AV.int IntKind.i64
                                  x.2.2.2.2.2.2.1,
                                 AV.int IntKind.i64
                                  x.2.2.2.2.2.2.2.1,
                                 AV.bool x.2.2.2.2.2.2.2.2])).2
                             a.b =
                            some
                             (AObj.cells false fz (El.mk 37 wh cl)
                              c) ∧
                           a.o + x_3.len * 9 ≤ c.length ∧
                            fz ≤ a.o + x_3.len * 9 ∧
                             I
                               (IntKind.i64.wrap (x_2 + (1 : Int)),
                                Sl.mk
                                 (some
                                  (Pt.mk (h.next + 1) 0))
                                 (x_3.len + 1),
                                ())
                               (((h.new
                                    (AObj.cells false 0
                                     (El.mk 37 false true)
                                     [AV.int IntKind.i64 x.1,
                                      AV.int IntKind.i64 x.2.1,
                                      AV.int IntKind.i64 x.2.2.1,
                                      AV.int IntKind.i64
                                       x.2.2.2.1,
                                      AV.str x.2.2.2.2.1,
                                      AV.str x.2.2.2.2.2.1,
                                      AV.int IntKind.i64
                                       x.2.2.2.2.2.2.1,
                                      AV.int IntKind.i64
                                       x.2.2.2.2.2.2.2.1,
                                      AV.bool
                                       x.2.2.2.2.2.2.2.2])).set
                                  a.b none).new
                                (AObj.cells false (fz - a.o)
                                 (El.mk 37 false
                                  (cl && a.o.beq 0))
                                 ((List.take (x_3.len * 9)
                                    (List.drop a.o c)).append
                                  ys))) ∧
                              μ
                                (IntKind.i64.wrap (x_2 + (1 : Int)),
                                 Sl.mk
                                  (some
                                   (Pt.mk (h.next + 1) 0))
                                  (x_3.len + 1),
                                 ())
                                (((h.new
                                     (AObj.cells false 0
                                      (El.mk 37 false
                                       true)
                                      [AV.int IntKind.i64 x.1,
                                       AV.int IntKind.i64 x.2.1,
                                       AV.int IntKind.i64 x.2.2.1,
                                       AV.int IntKind.i64
                                        x.2.2.2.1,
                                       AV.str x.2.2.2.2.1,
                                       AV.str x.2.2.2.2.2.1,
                                       AV.int IntKind.i64
                                        x.2.2.2.2.2.2.1,
                                       AV.int IntKind.i64
                                        x.2.2.2.2.2.2.2.1,
                                       AV.bool
                                        x.2.2.2.2.2.2.2.2])).set
                                   a.b none).new
                                 (AObj.cells false (fz - a.o)
                                  (El.mk 37 false
                                   (cl && a.o.beq 0))
                                  ((List.take (x_3.len * 9)
                                     (List.drop a.o c)).append
                                   ys))) <
                               μ (x_2, x_3, ()) h1) ∧
              (Decidable.decide (x_2 < x) = false →
               ACall prog (AV.func (Fn.func 39) [] [])
                [AV.ptr (some (Pt.mk h.next 0))] h1
                fun (v : AV) (h : AH) ↦
                ∃ (x : Int),
                 v = AV.int IntKind.i64 x ∧
                  ((x != (0 : Int)) = true →
                    R
                     (AV.tuple
                      [AV.slice none 0 9,
                       AV.int IntKind.i64 x])
                     h) ∧
                   ((x != (0 : Int)) = false →
                    ∃ (I : Int × Unit → AH → Prop),
                     ∃ (μ : Int × Unit → AH → Nat),
                      I ((0 : Int), ()) h ∧
                       ∀ (x : Int) (h1 : AH),
                        I (x, ()) h1 →
                         (Decidable.decide (x < (↑x_3.len : Int)) = true →
                           (0 : Int) ≤ x ∧
                            x < (↑x_3.len : Int) ∧
                             match x_3.1 with
                             | some a =>
                              ∃ (x_4 :
                               Int ×
                                Int ×
                                 Int ×
                                  Int × List UInt8 × List UInt8 × Int × Int × Bool),
                               h1.rd (Pt.mk a.b (a.o + x.toNat * 9))
                                  9 =
                                 some
                                  [AV.int IntKind.i64 x_4.1,
                                   AV.int IntKind.i64 x_4.2.1,
                                   AV.int IntKind.i64 x_4.2.2.1,
                                   AV.int IntKind.i64 x_4.2.2.2.1,
                                   AV.str x_4.2.2.2.2.1,
                                   AV.str x_4.2.2.2.2.2.1,
                                   AV.int IntKind.i64
                                    x_4.2.2.2.2.2.2.1,
                                   AV.int IntKind.i64
                                    x_4.2.2.2.2.2.2.2.1,
                                   AV.bool
                                    x_4.2.2.2.2.2.2.2.2] ∧
                                ACall prog
                                 (AV.func (Fn.func 78) [] [])
                                 [AV.agg
                                   [AV.int IntKind.i64 x_4.1,
                                    AV.int IntKind.i64 x_4.2.1,
                                    AV.int IntKind.i64 x_4.2.2.1,
                                    AV.int IntKind.i64 x_4.2.2.2.1,
                                    AV.str x_4.2.2.2.2.1,
                                    AV.str x_4.2.2.2.2.2.1,
                                    AV.int IntKind.i64
                                     x_4.2.2.2.2.2.2.1,
                                    AV.int IntKind.i64
                                     x_4.2.2.2.2.2.2.2.1,
                                    AV.bool
                                     x_4.2.2.2.2.2.2.2.2]]
                                 h1 fun (v : AV) (h : AH) ↦
                                 ∃ (x_5 : Int),
                                  v = AV.int IntKind.i64 x_5 ∧
                                   ((x_5 != (0 : Int)) = true →
                                     R
                                      (AV.tuple
                                       [AV.slice none 0
                                         9,
                                        AV.int IntKind.i64 (1 : Int)])
                                      h) ∧
                                    ((x_5 != (0 : Int)) = false →
                                     I (IntKind.i64.wrap (x + (1 : Int)), ())
                                       h ∧
                                      μ (IntKind.i64.wrap (x + (1 : Int)), ())
                                        h <
                                       μ (x, ()) h1)
                             | none => False) ∧
                          (Decidable.decide (x < (↑x_3.len : Int)) = false →
                           R
                            (AV.tuple
                             [AV.slice x_3.1 x_3.len 9,
                              AV.int IntKind.i64 (0 : Int)])
                            h1))))
     | false =>
      (false = true →
        R
         (AV.tuple
          [AV.slice none 0 9, AV.int IntKind.i64 (12 : Int)])
         h_1) ∧
       (false = false →
        ∃ (I : Int × Sl × Unit → AH → Prop),
         ∃ (μ : Int × Sl × Unit → AH → Nat),
          I ((0 : Int), Sl.mk none 0, ()) h_1 ∧
           ∀ (x_2 : Int) (x_3 : Sl) (h1 : AH),
            I (x_2, x_3, ()) h1 →
             (Decidable.decide (x_2 < x) = true →
               ACall prog (AV.func (Fn.func 77) [] [])
                [AV.ptr (some (Pt.mk h.next 0))] h1
                fun (v : AV) (h : AH) ↦
                ∃ (x : Int × Int × Int × Int × List UInt8 × List UInt8 × Int × Int × Bool),
                 v =
                   AV.agg
                    [AV.int IntKind.i64 x.1, AV.int IntKind.i64 x.2.1,
                     AV.int IntKind.i64 x.2.2.1,
                     AV.int IntKind.i64 x.2.2.2.1,
                     AV.str x.2.2.2.2.1, AV.str x.2.2.2.2.2.1,
                     AV.int IntKind.i64 x.2.2.2.2.2.2.1,
                     AV.int IntKind.i64 x.2.2.2.2.2.2.2.1,
                     AV.bool x.2.2.2.2.2.2.2.2] ∧
                  ∃ (ys : List AV),
                   SlAt
                     (h.new
                      (AObj.cells false 0
                       (El.mk 37 false true)
                       [AV.int IntKind.i64 x.1, AV.int IntKind.i64 x.2.1,
                        AV.int IntKind.i64 x.2.2.1,
                        AV.int IntKind.i64 x.2.2.2.1,
                        AV.str x.2.2.2.2.1,
                        AV.str x.2.2.2.2.2.1,
                        AV.int IntKind.i64 x.2.2.2.2.2.2.1,
                        AV.int IntKind.i64 x.2.2.2.2.2.2.2.1,
                        AV.bool x.2.2.2.2.2.2.2.2]))
                     (some (Pt.mk h.next 0)) 9 ys ∧
                    x_3.len + 1 < 4294967296 ∧
                     match x_3.1 with
                     | none =>
                      I
                        (IntKind.i64.wrap (x_2 + (1 : Int)),
                         Sl.mk (some (Pt.mk (h.next + 1) 0))
                          1,
                         ())
                        ((h.new
                           (AObj.cells false 0
                            (El.mk 37 false true)
                            [AV.int IntKind.i64 x.1,
                             AV.int IntKind.i64 x.2.1,
                             AV.int IntKind.i64 x.2.2.1,
                             AV.int IntKind.i64 x.2.2.2.1,
                             AV.str x.2.2.2.2.1,
                             AV.str x.2.2.2.2.2.1,
                             AV.int IntKind.i64 x.2.2.2.2.2.2.1,
                             AV.int IntKind.i64 x.2.2.2.2.2.2.2.1,
                             AV.bool x.2.2.2.2.2.2.2.2])).new
                         (AObj.cells false 0
                          (El.mk 37 false true) ys)) ∧
                       μ
                         (IntKind.i64.wrap (x_2 + (1 : Int)),
                          Sl.mk
                           (some (Pt.mk (h.next + 1) 0))
                           1,
                          ())
                         ((h.new
                            (AObj.cells false 0
                             (El.mk 37 false true)
                             [AV.int IntKind.i64 x.1,
                              AV.int IntKind.i64 x.2.1,
                              AV.int IntKind.i64 x.2.2.1,
                              AV.int IntKind.i64 x.2.2.2.1,
                              AV.str x.2.2.2.2.1,
                              AV.str x.2.2.2.2.2.1,
                              AV.int IntKind.i64 x.2.2.2.2.2.2.1,
                              AV.int IntKind.i64
                               x.2.2.2.2.2.2.2.1,
                              AV.bool x.2.2.2.2.2.2.2.2])).new
                          (AObj.cells false 0
                           (El.mk 37 false true) ys)) <
                        μ (x_2, x_3, ()) h1
                     | some a =>
                      ∃ (fz : Nat),
                       ∃ (wh : Bool),
                        ∃ (cl : Bool),
                         ∃ (c : List AV),
                          (h.new
                               (AObj.cells false 0
                                (El.mk 37 false true)
                                [AV.int IntKind.i64 x.1,
                                 AV.int IntKind.i64 x.2.1,
                                 AV.int IntKind.i64 x.2.2.1,
                                 AV.int IntKind.i64 x.2.2.2.1,
                                 AV.str x.2.2.2.2.1,
                                 AV.str x.2.2.2.2.2.1,
                                 AV.int IntKind.i64
                                  x.2.2.2.2.2.2.1,
                                 AV.int IntKind.i64
                                  x.2.2.2.2.2.2.2.1,
                                 AV.bool x.2.2.2.2.2.2.2.2])).2
                             a.b =
                            some
                             (AObj.cells false fz (El.mk 37 wh cl)
                              c) ∧
                           a.o + x_3.len * 9 ≤ c.length ∧
                            fz ≤ a.o + x_3.len * 9 ∧
                             I
                               (IntKind.i64.wrap (x_2 + (1 : Int)),
                                Sl.mk
                                 (some
                                  (Pt.mk (h.next + 1) 0))
                                 (x_3.len + 1),
                                ())
                               (((h.new
                                    (AObj.cells false 0
                                     (El.mk 37 false true)
                                     [AV.int IntKind.i64 x.1,
                                      AV.int IntKind.i64 x.2.1,
                                      AV.int IntKind.i64 x.2.2.1,
                                      AV.int IntKind.i64
                                       x.2.2.2.1,
                                      AV.str x.2.2.2.2.1,
                                      AV.str x.2.2.2.2.2.1,
                                      AV.int IntKind.i64
                                       x.2.2.2.2.2.2.1,
                                      AV.int IntKind.i64
                                       x.2.2.2.2.2.2.2.1,
                                      AV.bool
                                       x.2.2.2.2.2.2.2.2])).set
                                  a.b none).new
                                (AObj.cells false (fz - a.o)
                                 (El.mk 37 false
                                  (cl && a.o.beq 0))
                                 ((List.take (x_3.len * 9)
                                    (List.drop a.o c)).append
                                  ys))) ∧
                              μ
                                (IntKind.i64.wrap (x_2 + (1 : Int)),
                                 Sl.mk
                                  (some
                                   (Pt.mk (h.next + 1) 0))
                                  (x_3.len + 1),
                                 ())
                                (((h.new
                                     (AObj.cells false 0
                                      (El.mk 37 false
                                       true)
                                      [AV.int IntKind.i64 x.1,
                                       AV.int IntKind.i64 x.2.1,
                                       AV.int IntKind.i64 x.2.2.1,
                                       AV.int IntKind.i64
                                        x.2.2.2.1,
                                       AV.str x.2.2.2.2.1,
                                       AV.str x.2.2.2.2.2.1,
                                       AV.int IntKind.i64
                                        x.2.2.2.2.2.2.1,
                                       AV.int IntKind.i64
                                        x.2.2.2.2.2.2.2.1,
                                       AV.bool
                                        x.2.2.2.2.2.2.2.2])).set
                                   a.b none).new
                                 (AObj.cells false (fz - a.o)
                                  (El.mk 37 false
                                   (cl && a.o.beq 0))
                                  ((List.take (x_3.len * 9)
                                     (List.drop a.o c)).append
                                   ys))) <
                               μ (x_2, x_3, ()) h1) ∧
              (Decidable.decide (x_2 < x) = false →
               ACall prog (AV.func (Fn.func 39) [] [])
                [AV.ptr (some (Pt.mk h.next 0))] h1
                fun (v : AV) (h : AH) ↦
                ∃ (x : Int),
                 v = AV.int IntKind.i64 x ∧
                  ((x != (0 : Int)) = true →
                    R
                     (AV.tuple
                      [AV.slice none 0 9,
                       AV.int IntKind.i64 x])
                     h) ∧
                   ((x != (0 : Int)) = false →
                    ∃ (I : Int × Unit → AH → Prop),
                     ∃ (μ : Int × Unit → AH → Nat),
                      I ((0 : Int), ()) h ∧
                       ∀ (x : Int) (h1 : AH),
                        I (x, ()) h1 →
                         (Decidable.decide (x < (↑x_3.len : Int)) = true →
                           (0 : Int) ≤ x ∧
                            x < (↑x_3.len : Int) ∧
                             match x_3.1 with
                             | some a =>
                              ∃ (x_4 :
                               Int ×
                                Int ×
                                 Int ×
                                  Int × List UInt8 × List UInt8 × Int × Int × Bool),
                               h1.rd (Pt.mk a.b (a.o + x.toNat * 9))
                                  9 =
                                 some
                                  [AV.int IntKind.i64 x_4.1,
                                   AV.int IntKind.i64 x_4.2.1,
                                   AV.int IntKind.i64 x_4.2.2.1,
                                   AV.int IntKind.i64 x_4.2.2.2.1,
                                   AV.str x_4.2.2.2.2.1,
                                   AV.str x_4.2.2.2.2.2.1,
                                   AV.int IntKind.i64
                                    x_4.2.2.2.2.2.2.1,
                                   AV.int IntKind.i64
                                    x_4.2.2.2.2.2.2.2.1,
                                   AV.bool
                                    x_4.2.2.2.2.2.2.2.2] ∧
                                ACall prog
                                 (AV.func (Fn.func 78) [] [])
                                 [AV.agg
                                   [AV.int IntKind.i64 x_4.1,
                                    AV.int IntKind.i64 x_4.2.1,
                                    AV.int IntKind.i64 x_4.2.2.1,
                                    AV.int IntKind.i64 x_4.2.2.2.1,
                                    AV.str x_4.2.2.2.2.1,
                                    AV.str x_4.2.2.2.2.2.1,
                                    AV.int IntKind.i64
                                     x_4.2.2.2.2.2.2.1,
                                    AV.int IntKind.i64
                                     x_4.2.2.2.2.2.2.2.1,
                                    AV.bool
                                     x_4.2.2.2.2.2.2.2.2]]
                                 h1 fun (v : AV) (h : AH) ↦
                                 ∃ (x_5 : Int),
                                  v = AV.int IntKind.i64 x_5 ∧
                                   ((x_5 != (0 : Int)) = true →
                                     R
                                      (AV.tuple
                                       [AV.slice none 0
                                         9,
                                        AV.int IntKind.i64 (1 : Int)])
                                      h) ∧
                                    ((x_5 != (0 : Int)) = false →
                                     I (IntKind.i64.wrap (x + (1 : Int)), ())
                                       h ∧
                                      μ (IntKind.i64.wrap (x + (1 : Int)), ())
                                        h <
                                       μ (x, ()) h1)
                             | none => False) ∧
                          (Decidable.decide (x < (↑x_3.len : Int)) = false →
                           R
                            (AV.tuple
                             [AV.slice x_3.1 x_3.len 9,
                              AV.int IntKind.i64 (0 : Int)])
                            h1))))) := by kernel_rfl
-- (*gossamer/gossamerref05.Reader).Signed
theorem w38 (p0 : Pt) (h : AH) (R : AV → AH → Prop) : fnW prog tyt f38 (.seq .leaf (.seq .leaf (.seq .leaf .leaf))) [(.ptr (some p0))] h R = (
 ∃ (x : List UInt8),
 h.rd (Pt.mk p0.b (p0.o + 0)) 1 = some [AV.str x] ∧
  ACall prog (AV.func (Fn.func 79) [] []) [AV.str x] h
   fun (v : AV) (h : AH) ↦
   ∃ (x : Int × Int × Int × Unit),
    v =
      AV.tuple
       [AV.int IntKind.i64 x.1, AV.int IntKind.i64 x.2.1,
        AV.int IntKind.i64 x.2.2.1] ∧
     ACall prog (AV.func (Fn.func 76) [] [])
      [AV.ptr (some p0), AV.int IntKind.i64 x.1, AV.int IntKind.i64 x.2.1,
       AV.int IntKind.i64 x.2.2.1]
      h fun (v : AV) (h : AH) ↦
      ∃ (x : Int), v = AV.int IntKind.i64 x ∧ R (AV.int IntKind.i64 x) h) := by kernel_rfl
-- (*gossamer/gossamerref05.Reader).End
theorem w39 (p0 : Pt) (h : AH) (R : AV → AH → Prop) : fnW prog tyt f39 (.seq .leaf (.seq (.seq .leaf (.cond (.seq .leaf .leaf) .leaf)) (.seq .leaf .leaf))) [(.ptr (some p0))] h R = (
 ∃ (x : Int),
 h.rd (Pt.mk p0.b (p0.o + 1)) 1 = some [AV.int IntKind.i64 x] ∧
  match x == (0 : Int) with
  | true =>
   ∃ (x : List UInt8),
    h.rd (Pt.mk p0.b (p0.o + 0)) 1 = some [AV.str x] ∧
     ((bif true then !x == #[].toList else false) = true →
       R (AV.int IntKind.i64 (2 : Int)) h) ∧
      ((bif true then !x == #[].toList else false) = false →
       ∃ (x : Int),
        h.rd (Pt.mk p0.b (p0.o + 1)) 1 = some [AV.int IntKind.i64 x] ∧
         R (AV.int IntKind.i64 x) h)
  | false =>
   (false = true → R (AV.int IntKind.i64 (2 : Int)) h) ∧
    (false = false →
     ∃ (x : Int),
      h.rd (Pt.mk p0.b (p0.o + 1)) 1 = some [AV.int IntKind.i64 x] ∧
       R (AV.int IntKind.i64 x) h)) := by kernel_rfl
end Go.Lm
