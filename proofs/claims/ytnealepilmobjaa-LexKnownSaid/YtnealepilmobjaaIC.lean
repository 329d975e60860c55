import Derived.Test.YtnealepilmobjaaChecked
import Derived.Test.YtnealepilmobjaaEng25
import Derived.KernelRfl
set_option linter.unusedVariables false
set_option maxRecDepth 100000
namespace Go.Proofs.Ytnealepilmobjaa
open Go.Eng
/-- tallage/tallagelaw07.LexJoins -/
def i3 : IC :=
  (.seq
   (.region 0 [⟨some 4, none, .mv (.k (.bool false))⟩] false)
   (.seq
    (.seq
     (.region 1 [⟨some 15, none, .mv (.t 0)⟩,
       ⟨some 16, none, .len true (.t 15)⟩,
       ⟨some 17, none, .bin .gtr (.t 16) (.k (.int .i64 1000))⟩,
       ⟨some 18, none, .mv (.t 17)⟩,
       ⟨some 19, some (18, false), .mv (.t 1)⟩,
       ⟨some 20, some (18, false), .len true (.t 19)⟩,
       ⟨some 21, some (18, false), .bin .gtr (.t 20) (.k (.int .i64 1000))⟩,
       ⟨some 22, none, .pick (.t 18) (.k (.bool true)) (.t 21)⟩] false)
     (.cond (.t 22)
      (.seq
       (.region 2 [⟨some 23, none, .call 8 []⟩,
         ⟨some 4, none, .mv (.t 23)⟩] false)
       .ret)
      .skip))
    (.seq
     (.region 3 [⟨some 25, none, .mv (.t 0)⟩,
       ⟨some 26, none, .call 9 [(.t 25)]⟩,
       ⟨some 24, none, .mv (.t 26)⟩,
       ⟨some 27, none, .ext (.t 24) 0⟩,
       ⟨some 28, none, .ext (.t 24) 1⟩,
       ⟨some 29, none, .ext (.t 24) 2⟩,
       ⟨some 5, none, .mv (.t 27)⟩,
       ⟨some 6, none, .mv (.t 28)⟩,
       ⟨some 7, none, .mv (.t 29)⟩] false)
     (.seq
      (.region 4 [⟨some 31, none, .mv (.t 1)⟩,
        ⟨some 32, none, .call 9 [(.t 31)]⟩,
        ⟨some 30, none, .mv (.t 32)⟩,
        ⟨some 33, none, .ext (.t 30) 0⟩,
        ⟨some 34, none, .ext (.t 30) 1⟩,
        ⟨some 35, none, .ext (.t 30) 2⟩,
        ⟨some 8, none, .mv (.t 33)⟩,
        ⟨some 9, none, .mv (.t 34)⟩,
        ⟨some 10, none, .mv (.t 35)⟩] false)
      (.seq
       (.region 5 [⟨some 37, none, .mv (.t 0)⟩,
         ⟨some 38, none, .bin .add (.t 37) (.k (.string ⟨#[10]⟩))⟩,
         ⟨some 39, none, .mv (.t 1)⟩,
         ⟨some 40, none, .bin .add (.t 38) (.t 39)⟩,
         ⟨some 41, none, .call 9 [(.t 40)]⟩,
         ⟨some 36, none, .mv (.t 41)⟩,
         ⟨some 42, none, .ext (.t 36) 0⟩,
         ⟨some 43, none, .ext (.t 36) 1⟩,
         ⟨some 44, none, .ext (.t 36) 2⟩,
         ⟨some 11, none, .mv (.t 42)⟩,
         ⟨some 12, none, .mv (.t 43)⟩,
         ⟨some 13, none, .mv (.t 44)⟩] false)
       (.seq
        (.seq
         (.region 6 [⟨some 45, none, .mv (.t 7)⟩,
           ⟨some 46, none, .bin .neq (.t 45) (.k (.int .i64 0))⟩] false)
         (.cond (.t 46)
          (.seq
           (.region 7 [⟨some 47, none, .mv (.t 11)⟩,
             ⟨some 48, none, .len false (.t 47)⟩,
             ⟨some 49, none, .bin .eql (.t 48) (.k (.int .i64 0))⟩,
             ⟨some 50, none, .mv (.t 49)⟩,
             ⟨some 51, some (50, true), .mv (.t 12)⟩,
             ⟨some 52, some (50, true), .mv (.t 6)⟩,
             ⟨some 53, some (50, true), .bin .eql (.t 51) (.t 52)⟩,
             ⟨some 54, none, .pick (.t 50) (.t 53) (.k (.bool false))⟩,
             ⟨some 55, none, .mv (.t 54)⟩,
             ⟨some 56, some (55, true), .mv (.t 13)⟩,
             ⟨some 57, some (55, true), .mv (.t 7)⟩,
             ⟨some 58, some (55, true), .bin .eql (.t 56) (.t 57)⟩,
             ⟨some 59, none, .pick (.t 55) (.t 58) (.k (.bool false))⟩,
             ⟨some 60, none, .mv (.t 59)⟩,
             ⟨some 61, some (60, true), .call 8 []⟩,
             ⟨some 62, none, .pick (.t 60) (.t 61) (.k (.bool false))⟩,
             ⟨some 4, none, .mv (.t 62)⟩] false)
           .ret)
          .skip))
        (.seq
         (.seq
          (.region 8 [⟨some 63, none, .mv (.t 10)⟩,
            ⟨some 64, none, .bin .neq (.t 63) (.k (.int .i64 0))⟩] false)
          (.cond (.t 64)
           (.seq
            (.region 9 [⟨some 65, none, .mv (.t 11)⟩,
              ⟨some 66, none, .len false (.t 65)⟩,
              ⟨some 67, none, .bin .eql (.t 66) (.k (.int .i64 0))⟩,
              ⟨some 68, none, .mv (.t 67)⟩,
              ⟨some 69, some (68, true), .mv (.t 12)⟩,
              ⟨some 70, some (68, true), .mv (.t 0)⟩,
              ⟨some 71, some (68, true), .len true (.t 70)⟩,
              ⟨some 72, some (68, true), .bin .add (.t 71) (.k (.int .i64 1))⟩,
              ⟨some 73, some (68, true), .mv (.t 9)⟩,
              ⟨some 74, some (68, true), .bin .add (.t 72) (.t 73)⟩,
              ⟨some 75, some (68, true), .bin .eql (.t 69) (.t 74)⟩,
              ⟨some 76, none, .pick (.t 68) (.t 75) (.k (.bool false))⟩,
              ⟨some 77, none, .mv (.t 76)⟩,
              ⟨some 78, some (77, true), .mv (.t 13)⟩,
              ⟨some 79, some (77, true), .mv (.t 10)⟩,
              ⟨some 80, some (77, true), .bin .eql (.t 78) (.t 79)⟩,
              ⟨some 81, none, .pick (.t 77) (.t 80) (.k (.bool false))⟩,
              ⟨some 82, none, .mv (.t 81)⟩,
              ⟨some 83, some (82, true), .call 8 []⟩,
              ⟨some 84, none, .pick (.t 82) (.t 83) (.k (.bool false))⟩,
              ⟨some 4, none, .mv (.t 84)⟩] false)
            .ret)
           .skip))
         (.seq
          (.region 10 [⟨some 85, none, .mv (.t 5)⟩,
            ⟨some 86, none, .call 10 [(.t 85)]⟩,
            ⟨some 87, none, .mv (.t 8)⟩,
            ⟨some 88, none, .call 10 [(.t 87)]⟩,
            ⟨some 89, none, .app 47 2 32 [(.slice none 0 0), (.int .i64 0)] (.t 86) (.t 88)⟩,
            ⟨some 14, none, .mv (.t 89)⟩] false)
          (.seq
           (.region 11 [⟨some 90, none, .mv (.t 13)⟩,
             ⟨some 91, none, .bin .eql (.t 90) (.k (.int .i64 0))⟩,
             ⟨some 92, none, .mv (.t 91)⟩,
             ⟨some 93, some (92, true), .mv (.t 12)⟩,
             ⟨some 94, some (92, true), .bin .eql (.t 93) (.k (.int .i64 0))⟩,
             ⟨some 95, none, .pick (.t 92) (.t 94) (.k (.bool false))⟩,
             ⟨some 96, none, .mv (.t 95)⟩,
             ⟨some 97, some (96, true), .mv (.t 11)⟩,
             ⟨some 98, some (96, true), .call 10 [(.t 97)]⟩,
             ⟨some 99, some (96, true), .mv (.t 14)⟩,
             ⟨some 100, some (96, true), .call 11 [(.t 98), (.t 99), (.k (.bool false))]⟩,
             ⟨some 101, none, .pick (.t 96) (.t 100) (.k (.bool false))⟩,
             ⟨some 102, none, .mv (.t 101)⟩,
             ⟨some 103, some (102, true), .call 8 []⟩,
             ⟨some 104, none, .pick (.t 102) (.t 103) (.k (.bool false))⟩,
             ⟨some 4, none, .mv (.t 104)⟩] false)
           .ret)))))))))
-- keep: 11: [4] · 10: [11, 12, 13, 14] · 9: [4] · 8: [0, 5, 8, 9, 10, 11, 12, 13, 64] · 7: [4] · 6: [0, 5, 6, 7, 8, 9, 10, 11, 12, 13, 46] · 5: [0, 5, 6, 7, 8, 9, 10, 11, 12, 13] · 4: [0, 1, 5, 6, 7, 8, 9, 10] · 3: [0, 1, 5, 6, 7] · 2: [4] · 1: [0, 1, 22] · 0: [0, 1]
theorem i3_eq : IC.of Try.prog 105 (Try.f3.body.getD .skip) = i3 := by kernel_rfl
theorem fn3 {args : List AV} {Q : AV → List (Nat × Row) → Prop} (hl : args.length ≤ 105) (h : ∀ Γ : Ctx, Γ.P = Try.prog → Γ.n = 105 → (∀ b, ¬ Γ.X b) → (Γ.g = false ∧ ∀ r, Γ.pin r = none) → AWI Γ i3 (Fin Γ [4] Q) ⟨envOf 0 args, []⟩) : Ctr Try.prog 3 args Q :=
  Ctr.of_body Try.func3 Try.ntmps3 (by kernel_rfl) (by kernel_rfl) i3_eq (by kernel_rfl) hl h

/-- tallage/tallagelaw07.LexLines -/
def i4 : IC :=
  (.seq
   (.region 0 [⟨some 2, none, .mv (.k (.bool false))⟩] false)
   (.seq
    (.seq
     (.region 1 [⟨some 12, none, .mv (.t 0)⟩,
       ⟨some 13, none, .len true (.t 12)⟩,
       ⟨some 14, none, .bin .gtr (.t 13) (.k (.int .i64 1000))⟩,
       ⟨some 15, none, .mv (.t 14)⟩,
       ⟨some 16, some (15, true), .mv (.t 0)⟩,
       ⟨some 17, some (15, true), .len true (.t 16)⟩,
       ⟨some 18, some (15, true), .bin .leq (.t 17) (.k (.int .i64 65536))⟩,
       ⟨some 19, none, .pick (.t 15) (.t 18) (.k (.bool false))⟩] false)
     (.cond (.t 19)
      (.seq
       (.region 2 [⟨some 20, none, .call 8 []⟩,
         ⟨some 2, none, .mv (.t 20)⟩] false)
       .ret)
      .skip))
    (.seq
     (.region 3 [⟨some 22, none, .mv (.t 0)⟩,
       ⟨some 23, none, .call 12 [(.t 22)]⟩,
       ⟨some 21, none, .mv (.t 23)⟩,
       ⟨some 24, none, .ext (.t 21) 0⟩,
       ⟨some 25, none, .ext (.t 21) 1⟩,
       ⟨some 26, none, .ext (.t 21) 2⟩,
       ⟨some 3, none, .mv (.t 24)⟩,
       ⟨some 4, none, .mv (.t 25)⟩,
       ⟨some 5, none, .mv (.t 26)⟩] false)
     (.seq
      (.seq
       (.region 4 [⟨some 6, none, .mv (.k (.int .i64 0))⟩] false)
       (.block 0
        (.loop
         (.seq
          (.seq
           (.region 5 [⟨some 27, none, .mv (.t 6)⟩,
             ⟨some 28, none, .bin .lss (.t 27) (.k (.int .i64 2))⟩] false)
           (.cond (.t 28)
            .skip
            (.exit 0)))
          (.seq
           (.block 1
            (.seq
             (.region 7 [⟨some 32, none, .mv (.t 0)⟩,
               ⟨some 33, none, .call 9 [(.t 32)]⟩,
               ⟨some 31, none, .mv (.t 33)⟩,
               ⟨some 34, none, .ext (.t 31) 0⟩,
               ⟨some 35, none, .ext (.t 31) 1⟩,
               ⟨some 36, none, .ext (.t 31) 2⟩,
               ⟨some 7, none, .mv (.t 34)⟩,
               ⟨some 8, none, .mv (.t 35)⟩,
               ⟨some 9, none, .mv (.t 36)⟩] false)
             (.seq
              (.seq
               (.region 8 [⟨some 37, none, .mv (.t 8)⟩,
                 ⟨some 38, none, .mv (.t 4)⟩,
                 ⟨some 39, none, .bin .neq (.t 37) (.t 38)⟩,
                 ⟨some 40, none, .mv (.t 39)⟩,
                 ⟨some 41, some (40, false), .mv (.t 9)⟩,
                 ⟨some 42, some (40, false), .mv (.t 5)⟩,
                 ⟨some 43, some (40, false), .bin .neq (.t 41) (.t 42)⟩,
                 ⟨some 44, none, .pick (.t 40) (.k (.bool true)) (.t 43)⟩,
                 ⟨some 45, none, .mv (.t 44)⟩,
                 ⟨some 46, some (45, false), .mv (.t 7)⟩,
                 ⟨some 47, some (45, false), .call 10 [(.t 46)]⟩,
                 ⟨some 48, some (45, false), .mv (.t 3)⟩,
                 ⟨some 49, some (45, false), .call 11 [(.t 47), (.t 48), (.k (.bool true))]⟩,
                 ⟨some 50, some (45, false), .un .not (.t 49)⟩,
                 ⟨some 51, none, .pick (.t 45) (.k (.bool true)) (.t 50)⟩] false)
               (.cond (.t 51)
                (.seq
                 (.region 9 [⟨some 2, none, .mv (.k (.bool false))⟩] false)
                 .ret)
                .skip))
              (.seq
               (.region 10 [⟨some 10, none, .mv (.k (.int .i64 0))⟩] false)
               (.block 2
                (.loop
                 (.seq
                  (.seq
                   (.region 11 [⟨some 52, none, .mv (.t 10)⟩,
                     ⟨some 53, none, .mv (.t 7)⟩,
                     ⟨some 54, none, .len false (.t 53)⟩,
                     ⟨some 55, none, .bin .lss (.t 52) (.t 54)⟩] false)
                   (.cond (.t 55)
                    .skip
                    (.exit 2)))
                  (.seq
                   (.block 3
                    (.seq
                     (.seq
                      (.region 13 [⟨some 11, none, .mv (.k (.int .i64 0))⟩] false)
                      (.block 4
                       (.loop
                        (.seq
                         (.seq
                          (.region 14 [⟨some 58, none, .mv (.t 11)⟩,
                            ⟨some 59, none, .mv (.t 7)⟩,
                            ⟨some 60, none, .mv (.t 10)⟩,
                            ⟨some 61, none, .iad 2 (.t 59) (.t 60)⟩,
                            ⟨some 62, none, .fad 0 (.t 61)⟩,
                            ⟨some 63, none, .load false 1 (.t 62)⟩,
                            ⟨some 64, none, .len false (.t 63)⟩,
                            ⟨some 65, none, .bin .lss (.t 58) (.t 64)⟩] false)
                          (.cond (.t 65)
                           .skip
                           (.exit 4)))
                         (.seq
                          (.block 5
                           (.region 16 [⟨some 68, none, .mv (.t 7)⟩,
                             ⟨some 69, none, .mv (.t 10)⟩,
                             ⟨some 70, none, .iad 2 (.t 68) (.t 69)⟩,
                             ⟨some 71, none, .fad 0 (.t 70)⟩,
                             ⟨some 72, none, .load false 1 (.t 71)⟩,
                             ⟨some 73, none, .mv (.t 11)⟩,
                             ⟨some 74, none, .iad 2 (.t 72) (.t 73)⟩,
                             ⟨some 75, none, .fad 0 (.t 74)⟩,
                             ⟨none, none, .store 1 (.t 75) (.k (.string ⟨#[63]⟩))⟩] false))
                          (.region 15 [⟨some 66, none, .mv (.t 11)⟩,
                            ⟨some 67, none, .bin .add (.t 66) (.k (.int .i64 1))⟩,
                            ⟨some 11, none, .mv (.t 67)⟩] false))))))
                     (.region 17 [⟨some 76, none, .mv (.t 7)⟩,
                       ⟨some 77, none, .mv (.t 10)⟩,
                       ⟨some 78, none, .iad 2 (.t 76) (.t 77)⟩,
                       ⟨some 79, none, .fad 1 (.t 78)⟩,
                       ⟨none, none, .store 1 (.t 79) (.k (.int .i64 (-1)))⟩] false)))
                   (.region 12 [⟨some 56, none, .mv (.t 10)⟩,
                     ⟨some 57, none, .bin .add (.t 56) (.k (.int .i64 1))⟩,
                     ⟨some 10, none, .mv (.t 57)⟩] false)))))))))
           (.region 6 [⟨some 29, none, .mv (.t 6)⟩,
             ⟨some 30, none, .bin .add (.t 29) (.k (.int .i64 1))⟩,
             ⟨some 6, none, .mv (.t 30)⟩] false))))))
      (.seq
       (.region 18 [⟨some 80, none, .mv (.t 0)⟩,
         ⟨some 81, none, .call 13 [(.t 80)]⟩,
         ⟨some 82, none, .mv (.t 0)⟩,
         ⟨some 83, none, .call 14 [(.t 82)]⟩,
         ⟨some 84, none, .binB .eql (.t 81) (.t 83)⟩,
         ⟨some 85, none, .mv (.t 84)⟩,
         ⟨some 86, some (85, true), .call 8 []⟩,
         ⟨some 87, none, .pick (.t 85) (.t 86) (.k (.bool false))⟩,
         ⟨some 2, none, .mv (.t 87)⟩] false)
       .ret)))))
-- keep: 18: [2] · 6: [0, 3, 4, 5, 6] · 12: [0, 3, 4, 5, 6, 7, 10] · 17: [0, 3, 4, 5, 6, 7, 10] · 15: [0, 3, 4, 5, 6, 7, 10, 11] · 16: [0, 3, 4, 5, 6, 7, 10, 11] · 14: [0, 3, 4, 5, 6, 7, 10, 11, 65] · 13: [0, 3, 4, 5, 6, 7, 10, 11] · 11: [0, 3, 4, 5, 6, 7, 10, 55] · 10: [0, 3, 4, 5, 6, 7, 10] · 9: [2] · 8: [0, 3, 4, 5, 6, 7, 51] · 7: [0, 3, 4, 5, 6, 7, 8, 9] · 5: [0, 3, 4, 5, 6, 28] · 4: [0, 3, 4, 5, 6] · 3: [0, 3, 4, 5] · 2: [2] · 1: [0, 19] · 0: [0] · loops: [[7, 10, 11], [6, 7, 10, 11], [6, 7, 10], [7, 10, 11], [0, 3, 4, 5, 6, 7, 10, 11], [0, 3, 4, 5, 6, 7, 10], [0, 3, 4, 5, 6]]
theorem i4_eq : IC.of Try.prog 88 (Try.f4.body.getD .skip) = i4 := by kernel_rfl
theorem fn4 {args : List AV} {Q : AV → List (Nat × Row) → Prop} (hl : args.length ≤ 88) (h : ∀ Γ : Ctx, Γ.P = Try.prog → Γ.n = 88 → (∀ b, ¬ Γ.X b) → (Γ.g = false ∧ ∀ r, Γ.pin r = none) → AWI Γ i4 (Fin Γ [2] Q) ⟨envOf 0 args, []⟩) : Ctr Try.prog 4 args Q :=
  Ctr.of_body Try.func4 Try.ntmps4 (by kernel_rfl) (by kernel_rfl) i4_eq (by kernel_rfl) hl h

/-- tallage/tallagelaw07.LexShows -/
def i5 : IC :=
  (.seq
   (.region 0 [⟨some 2, none, .mv (.k (.bool false))⟩] false)
   (.seq
    (.region 1 [⟨some 3, none, .mv (.t 0)⟩,
      ⟨some 4, none, .call 15 [(.t 3)]⟩,
      ⟨some 5, none, .un .not (.t 4)⟩,
      ⟨some 6, none, .mv (.t 5)⟩,
      ⟨some 7, some (6, true), .call 8 []⟩,
      ⟨some 8, none, .pick (.t 6) (.t 7) (.k (.bool false))⟩,
      ⟨some 9, none, .mv (.t 8)⟩,
      ⟨some 10, some (9, false), .mv (.t 0)⟩,
      ⟨some 11, some (9, false), .call 16 [(.t 10)]⟩,
      ⟨some 12, some (9, false), .mv (.t 0)⟩,
      ⟨some 13, some (9, false), .call 10 [(.t 12)]⟩,
      ⟨some 14, some (9, false), .call 17 [(.t 13)]⟩,
      ⟨some 15, some (9, false), .bin .eql (.t 11) (.t 14)⟩,
      ⟨some 16, some (9, false), .mv (.t 15)⟩,
      ⟨some 17, some (16, true), .call 8 []⟩,
      ⟨some 18, some (9, false), .pick (.t 16) (.t 17) (.k (.bool false))⟩,
      ⟨some 19, none, .pick (.t 9) (.k (.bool true)) (.t 18)⟩,
      ⟨some 2, none, .mv (.t 19)⟩] false)
    .ret))
-- keep: 1: [2] · 0: [0]
theorem i5_eq : IC.of Try.prog 20 (Try.f5.body.getD .skip) = i5 := by kernel_rfl
theorem fn5 {args : List AV} {Q : AV → List (Nat × Row) → Prop} (hl : args.length ≤ 20) (h : ∀ Γ : Ctx, Γ.P = Try.prog → Γ.n = 20 → (∀ b, ¬ Γ.X b) → (Γ.g = false ∧ ∀ r, Γ.pin r = none) → AWI Γ i5 (Fin Γ [2] Q) ⟨envOf 0 args, []⟩) : Ctr Try.prog 5 args Q :=
  Ctr.of_body Try.func5 Try.ntmps5 (by kernel_rfl) (by kernel_rfl) i5_eq (by kernel_rfl) hl h

/-- tallage/tallagelaw07.LexBack -/
def i6 : IC :=
  (.seq
   (.region 0 [⟨some 4, none, .mv (.k (.bool false))⟩] false)
   (.seq
    (.seq
     (.region 1 [⟨some 16, none, .mv (.t 0)⟩,
       ⟨some 17, none, .call 15 [(.t 16)]⟩,
       ⟨some 18, none, .un .not (.t 17)⟩,
       ⟨some 19, none, .mv (.t 18)⟩,
       ⟨some 20, some (19, false), .mv (.t 1)⟩,
       ⟨some 21, some (19, false), .len true (.t 20)⟩,
       ⟨some 22, some (19, false), .bin .gtr (.t 21) (.k (.int .i64 1000))⟩,
       ⟨some 23, none, .pick (.t 19) (.k (.bool true)) (.t 22)⟩] false)
     (.cond (.t 23)
      (.seq
       (.region 2 [⟨some 24, none, .call 8 []⟩,
         ⟨some 4, none, .mv (.t 24)⟩] false)
       .ret)
      .skip))
    (.seq
     (.region 3 [⟨some 26, none, .mv (.t 1)⟩,
       ⟨some 27, none, .call 9 [(.t 26)]⟩,
       ⟨some 25, none, .mv (.t 27)⟩,
       ⟨some 28, none, .ext (.t 25) 0⟩,
       ⟨some 29, none, .ext (.t 25) 1⟩,
       ⟨some 30, none, .ext (.t 25) 2⟩,
       ⟨some 5, none, .mv (.t 28)⟩,
       ⟨some 6, none, .mv (.t 29)⟩,
       ⟨some 7, none, .mv (.t 30)⟩] false)
     (.seq
      (.seq
       (.region 4 [⟨some 31, none, .mv (.t 7)⟩,
         ⟨some 32, none, .bin .eql (.t 31) (.k (.int .i64 0))⟩] false)
       (.cond (.t 32)
        (.seq
         (.region 5 [⟨some 34, none, .mv (.t 5)⟩,
           ⟨some 35, none, .call 16 [(.t 34)]⟩,
           ⟨some 36, none, .call 9 [(.t 35)]⟩,
           ⟨some 33, none, .mv (.t 36)⟩,
           ⟨some 37, none, .ext (.t 33) 0⟩,
           ⟨some 38, none, .ext (.t 33) 1⟩,
           ⟨some 39, none, .ext (.t 33) 2⟩,
           ⟨some 8, none, .mv (.t 37)⟩,
           ⟨some 9, none, .mv (.t 38)⟩,
           ⟨some 10, none, .mv (.t 39)⟩] false)
         (.seq
          (.region 6 [⟨some 40, none, .mv (.t 10)⟩,
            ⟨some 41, none, .bin .neq (.t 40) (.k (.int .i64 0))⟩,
            ⟨some 42, none, .mv (.t 41)⟩,
            ⟨some 43, some (42, false), .mv (.t 5)⟩,
            ⟨some 44, some (42, false), .call 10 [(.t 43)]⟩,
            ⟨some 45, some (42, false), .mv (.t 8)⟩,
            ⟨some 46, some (42, false), .call 10 [(.t 45)]⟩,
            ⟨some 47, some (42, false), .call 11 [(.t 44), (.t 46), (.k (.bool false))]⟩,
            ⟨some 48, some (42, false), .un .not (.t 47)⟩,
            ⟨some 49, none, .pick (.t 42) (.k (.bool true)) (.t 48)⟩] false)
          (.cond (.t 49)
           (.seq
            (.region 7 [⟨some 4, none, .mv (.k (.bool false))⟩] false)
            .ret)
           .skip)))
        .skip))
      (.seq
       (.seq
        (.region 8 [⟨some 11, none, .mv (.k (.int .i64 0))⟩] false)
        (.block 0
         (.loop
          (.seq
           (.seq
            (.region 9 [⟨some 50, none, .mv (.t 11)⟩,
              ⟨some 51, none, .mv (.t 0)⟩,
              ⟨some 52, none, .len false (.t 51)⟩,
              ⟨some 53, none, .bin .lss (.t 50) (.t 52)⟩] false)
            (.cond (.t 53)
             .skip
             (.exit 0)))
           (.seq
            (.block 1
             (.seq
              (.seq
               (.region 11 [⟨some 12, none, .mv (.k (.int .i64 0))⟩] false)
               (.block 2
                (.loop
                 (.seq
                  (.seq
                   (.region 12 [⟨some 56, none, .mv (.t 12)⟩,
                     ⟨some 57, none, .mv (.t 0)⟩,
                     ⟨some 58, none, .mv (.t 11)⟩,
                     ⟨some 59, none, .iad 2 (.t 57) (.t 58)⟩,
                     ⟨some 60, none, .fad 0 (.t 59)⟩,
                     ⟨some 61, none, .load false 1 (.t 60)⟩,
                     ⟨some 62, none, .len false (.t 61)⟩,
                     ⟨some 63, none, .bin .lss (.t 56) (.t 62)⟩] false)
                   (.cond (.t 63)
                    .skip
                    (.exit 2)))
                  (.seq
                   (.block 3
                    (.seq
                     (.region 14 [⟨some 66, none, .mv (.t 0)⟩,
                       ⟨some 67, none, .mv (.t 11)⟩,
                       ⟨some 68, none, .iad 2 (.t 66) (.t 67)⟩,
                       ⟨some 69, none, .fad 0 (.t 68)⟩,
                       ⟨some 70, none, .load false 1 (.t 69)⟩,
                       ⟨some 71, none, .mv (.t 12)⟩,
                       ⟨some 72, none, .iad 2 (.t 70) (.t 71)⟩,
                       ⟨some 73, none, .fad 0 (.t 72)⟩,
                       ⟨some 74, none, .load false 1 (.t 73)⟩,
                       ⟨some 75, none, .call 13 [(.t 74)]⟩,
                       ⟨some 76, none, .un .not (.t 75)⟩] false)
                     (.cond (.t 76)
                      (.seq
                       (.region 15 [⟨some 77, none, .call 8 []⟩,
                         ⟨some 4, none, .mv (.t 77)⟩] false)
                       .ret)
                      .skip)))
                   (.region 13 [⟨some 64, none, .mv (.t 12)⟩,
                     ⟨some 65, none, .bin .add (.t 64) (.k (.int .i64 1))⟩,
                     ⟨some 12, none, .mv (.t 65)⟩] false))))))
              (.seq
               (.region 16 [⟨some 78, none, .mv (.t 0)⟩,
                 ⟨some 79, none, .mv (.t 11)⟩,
                 ⟨some 80, none, .iad 2 (.t 78) (.t 79)⟩,
                 ⟨some 81, none, .fad 0 (.t 80)⟩,
                 ⟨some 82, none, .load false 1 (.t 81)⟩,
                 ⟨some 83, none, .len false (.t 82)⟩,
                 ⟨some 84, none, .bin .eql (.t 83) (.k (.int .i64 0))⟩] false)
               (.cond (.t 84)
                (.seq
                 (.region 17 [⟨some 85, none, .call 8 []⟩,
                   ⟨some 4, none, .mv (.t 85)⟩] false)
                 .ret)
                .skip))))
            (.region 10 [⟨some 54, none, .mv (.t 11)⟩,
              ⟨some 55, none, .bin .add (.t 54) (.k (.int .i64 1))⟩,
              ⟨some 11, none, .mv (.t 55)⟩] false))))))
       (.seq
        (.region 18 [⟨some 87, none, .mv (.t 0)⟩,
          ⟨some 88, none, .call 16 [(.t 87)]⟩,
          ⟨some 89, none, .call 9 [(.t 88)]⟩,
          ⟨some 86, none, .mv (.t 89)⟩,
          ⟨some 90, none, .ext (.t 86) 0⟩,
          ⟨some 91, none, .ext (.t 86) 1⟩,
          ⟨some 92, none, .ext (.t 86) 2⟩,
          ⟨some 13, none, .mv (.t 90)⟩,
          ⟨some 14, none, .mv (.t 91)⟩,
          ⟨some 15, none, .mv (.t 92)⟩] false)
        (.seq
         (.region 19 [⟨some 93, none, .mv (.t 15)⟩,
           ⟨some 94, none, .bin .eql (.t 93) (.k (.int .i64 0))⟩,
           ⟨some 95, none, .mv (.t 94)⟩,
           ⟨some 96, some (95, true), .mv (.t 13)⟩,
           ⟨some 97, some (95, true), .call 10 [(.t 96)]⟩,
           ⟨some 98, some (95, true), .mv (.t 0)⟩,
           ⟨some 99, some (95, true), .call 10 [(.t 98)]⟩,
           ⟨some 100, some (95, true), .call 11 [(.t 97), (.t 99), (.k (.bool false))]⟩,
           ⟨some 101, none, .pick (.t 95) (.t 100) (.k (.bool false))⟩,
           ⟨some 102, none, .mv (.t 101)⟩,
           ⟨some 103, some (102, true), .call 8 []⟩,
           ⟨some 104, none, .pick (.t 102) (.t 103) (.k (.bool false))⟩,
           ⟨some 4, none, .mv (.t 104)⟩] false)
         .ret)))))))
-- keep: 19: [4] · 18: [0, 13, 15] · 10: [0, 11] · 17: [4] · 16: [0, 11, 84] · 13: [0, 11, 12] · 15: [4] · 14: [0, 11, 12, 76] · 12: [0, 11, 12, 63] · 11: [0, 11, 12] · 9: [0, 11, 53] · 8: [0, 11] · 7: [4] · 6: [0, 49] · 5: [0, 5, 8, 10] · 4: [0, 5, 32] · 3: [0, 5, 7] · 2: [4] · 1: [0, 1, 23] · 0: [0, 1] · loops: [[0, 11, 12], [0, 11, 12], [0, 11]]
theorem i6_eq : IC.of Try.prog 105 (Try.f6.body.getD .skip) = i6 := by kernel_rfl
theorem fn6 {args : List AV} {Q : AV → List (Nat × Row) → Prop} (hl : args.length ≤ 105) (h : ∀ Γ : Ctx, Γ.P = Try.prog → Γ.n = 105 → (∀ b, ¬ Γ.X b) → (Γ.g = false ∧ ∀ r, Γ.pin r = none) → AWI Γ i6 (Fin Γ [4] Q) ⟨envOf 0 args, []⟩) : Ctr Try.prog 6 args Q :=
  Ctr.of_body Try.func6 Try.ntmps6 (by kernel_rfl) (by kernel_rfl) i6_eq (by kernel_rfl) hl h

/-- tallage/tallagelaw07.LexKnown -/
def i7 : IC :=
  (.seq
   (.region 0 [⟨some 0, none, .mv (.k (.bool false))⟩] false)
   (.seq
    (.seq
     (.region 1 [⟨some 1, none, .mv (.k (.int .i64 0))⟩] false)
     (.block 0
      (.loop
       (.seq
        (.seq
         (.region 2 [⟨some 8, none, .mv (.t 1)⟩,
           ⟨some 9, none, .bin .lss (.t 8) (.k (.int .i64 256))⟩] false)
         (.cond (.t 9)
          .skip
          (.exit 0)))
        (.seq
         (.block 1
          (.seq
           (.region 4 [⟨some 12, none, .mv (.t 1)⟩,
             ⟨some 13, none, .cvi .u8 (.t 12)⟩,
             ⟨some 14, none, .bslice 5 1 1 [(.int .u8 0)] [(0, (.t 13))]⟩,
             ⟨some 15, none, .bstr (.t 14)⟩,
             ⟨some 2, none, .mv (.t 15)⟩] false)
           (.seq
            (.region 5 [⟨some 16, none, .mv (.t 2)⟩,
              ⟨some 17, none, .call 4 [(.t 16)]⟩,
              ⟨some 18, none, .un .not (.t 17)⟩,
              ⟨some 19, none, .mv (.t 18)⟩,
              ⟨some 20, some (19, false), .mv (.t 2)⟩,
              ⟨some 21, some (19, false), .bin .add (.k (.string ⟨#[97]⟩)) (.t 20)⟩,
              ⟨some 22, some (19, false), .bin .add (.t 21) (.k (.string ⟨#[98, 10, 32]⟩))⟩,
              ⟨some 23, some (19, false), .mv (.t 2)⟩,
              ⟨some 24, some (19, false), .bin .add (.t 22) (.t 23)⟩,
              ⟨some 25, some (19, false), .mv (.t 2)⟩,
              ⟨some 26, some (19, false), .bin .add (.t 24) (.t 25)⟩,
              ⟨some 27, some (19, false), .bin .add (.t 26) (.k (.string ⟨#[99]⟩))⟩,
              ⟨some 28, some (19, false), .call 4 [(.t 27)]⟩,
              ⟨some 29, some (19, false), .un .not (.t 28)⟩,
              ⟨some 30, none, .pick (.t 19) (.k (.bool true)) (.t 29)⟩,
              ⟨some 31, none, .mv (.t 30)⟩,
              ⟨some 32, some (31, false), .mv (.t 2)⟩,
              ⟨some 33, some (31, false), .bin .add (.k (.string ⟨#[35]⟩)) (.t 32)⟩,
              ⟨some 34, some (31, false), .bin .add (.t 33) (.k (.string ⟨#[10]⟩))⟩,
              ⟨some 35, some (31, false), .mv (.t 2)⟩,
              ⟨some 36, some (31, false), .bin .add (.t 34) (.t 35)⟩,
              ⟨some 37, some (31, false), .call 4 [(.t 36)]⟩,
              ⟨some 38, some (31, false), .un .not (.t 37)⟩,
              ⟨some 39, none, .pick (.t 31) (.k (.bool true)) (.t 38)⟩,
              ⟨some 40, none, .mv (.t 39)⟩,
              ⟨some 41, some (40, false), .mv (.t 2)⟩,
              ⟨some 42, some (40, false), .build [(.string ⟨#[]⟩), (.int .i64 0)] [(0, 1, (.t 41))]⟩,
              ⟨some 43, some (40, false), .build [(.string ⟨#[]⟩), (.int .i64 0)] [(0, 1, (.k (.string ⟨#[120]⟩)))]⟩,
              ⟨some 44, some (40, false), .bslice 37 2 2 [(.string ⟨#[]⟩), (.int .i64 0)] [(0, (.t 42)), (1, (.t 43))]⟩,
              ⟨some 45, some (40, false), .build [(.slice none 0 0), (.int .i64 0)] [(0, 1, (.t 44))]⟩,
              ⟨some 46, some (40, false), .bslice 35 2 1 [(.slice none 0 0), (.int .i64 0)] [(0, (.t 45))]⟩,
              ⟨some 47, some (40, false), .mv (.t 2)⟩,
              ⟨some 48, some (40, false), .bin .add (.k (.string ⟨#[113, 32]⟩)) (.t 47)⟩,
              ⟨some 49, some (40, false), .call 6 [(.t 46), (.t 48)]⟩,
              ⟨some 50, some (40, false), .un .not (.t 49)⟩,
              ⟨some 51, none, .pick (.t 40) (.k (.bool true)) (.t 50)⟩,
              ⟨some 52, none, .mv (.t 51)⟩,
              ⟨some 53, some (52, false), .mv (.t 2)⟩,
              ⟨some 54, some (52, false), .bin .add (.k (.string ⟨#[97, 32]⟩)) (.t 53)⟩,
              ⟨some 55, some (52, false), .mv (.t 2)⟩,
              ⟨some 56, some (52, false), .call 3 [(.t 54), (.t 55)]⟩,
              ⟨some 57, some (52, false), .un .not (.t 56)⟩,
              ⟨some 58, none, .pick (.t 52) (.k (.bool true)) (.t 57)⟩] false)
            (.cond (.t 58)
             (.seq
              (.region 6 [⟨some 0, none, .mv (.k (.bool false))⟩] false)
              .ret)
             .skip))))
         (.region 3 [⟨some 10, none, .mv (.t 1)⟩,
           ⟨some 11, none, .bin .add (.t 10) (.k (.int .i64 1))⟩,
           ⟨some 1, none, .mv (.t 11)⟩] false))))))
    (.seq
     (.region 7 [⟨some 59, none, .bslice 5 1 0 [(.int .u8 0)] []⟩,
       ⟨some 3, none, .mv (.t 59)⟩] false)
     (.seq
      (.seq
       (.region 8 [⟨some 4, none, .mv (.k (.int .i64 0))⟩] false)
       (.block 2
        (.loop
         (.seq
          (.seq
           (.region 9 [⟨some 60, none, .mv (.t 4)⟩,
             ⟨some 61, none, .bin .lss (.t 60) (.k (.int .i64 65536))⟩] false)
           (.cond (.t 61)
            .skip
            (.exit 2)))
          (.seq
           (.block 3
            (.region 11 [⟨some 64, none, .mv (.t 3)⟩,
              ⟨some 65, none, .mv (.t 4)⟩,
              ⟨some 66, none, .bin .rem (.t 65) (.k (.int .i64 4))⟩,
              ⟨some 67, none, .ixs (.k (.string ⟨#[97, 98, 32, 10]⟩)) (.t 66)⟩,
              ⟨some 68, none, .bslice 5 1 1 [(.int .u8 0)] [(0, (.t 67))]⟩,
              ⟨some 69, none, .app 5 1 1 [(.int .u8 0)] (.t 64) (.t 68)⟩,
              ⟨some 3, none, .mv (.t 69)⟩] false))
           (.region 10 [⟨some 62, none, .mv (.t 4)⟩,
             ⟨some 63, none, .bin .add (.t 62) (.k (.int .i64 1))⟩,
             ⟨some 4, none, .mv (.t 63)⟩] false))))))
      (.seq
       (.region 12 [⟨some 71, none, .mv (.t 3)⟩,
         ⟨some 72, none, .bstr (.t 71)⟩,
         ⟨some 73, none, .call 9 [(.t 72)]⟩,
         ⟨some 70, none, .mv (.t 73)⟩,
         ⟨some 74, none, .ext (.t 70) 0⟩,
         ⟨some 75, none, .ext (.t 70) 1⟩,
         ⟨some 76, none, .ext (.t 70) 2⟩,
         ⟨some 5, none, .mv (.t 74)⟩,
         ⟨some 6, none, .mv (.t 75)⟩,
         ⟨some 7, none, .mv (.t 76)⟩] false)
       (.seq
        (.region 13 [⟨some 77, none, .mv (.t 7)⟩,
          ⟨some 78, none, .bin .eql (.t 77) (.k (.int .i64 0))⟩,
          ⟨some 79, none, .mv (.t 78)⟩,
          ⟨some 80, some (79, true), .mv (.t 5)⟩,
          ⟨some 81, some (79, true), .len false (.t 80)⟩,
          ⟨some 82, some (79, true), .bin .eql (.t 81) (.k (.int .i64 16384))⟩,
          ⟨some 83, none, .pick (.t 79) (.t 82) (.k (.bool false))⟩,
          ⟨some 84, none, .mv (.t 83)⟩,
          ⟨some 85, some (84, true), .mv (.t 3)⟩,
          ⟨some 86, some (84, true), .bstr (.t 85)⟩,
          ⟨some 87, some (84, true), .bin .add (.t 86) (.k (.string ⟨#[97]⟩))⟩,
          ⟨some 88, some (84, true), .call 4 [(.t 87)]⟩,
          ⟨some 89, none, .pick (.t 84) (.t 88) (.k (.bool false))⟩,
          ⟨some 90, none, .mv (.t 89)⟩,
          ⟨some 91, some (90, true), .call 4 [(.k (.string ⟨#[]⟩))]⟩,
          ⟨some 92, none, .pick (.t 90) (.t 91) (.k (.bool false))⟩,
          ⟨some 93, none, .mv (.t 92)⟩,
          ⟨some 94, some (93, true), .call 5 [(.k (.slice none 0 0))]⟩,
          ⟨some 95, none, .pick (.t 93) (.t 94) (.k (.bool false))⟩,
          ⟨some 96, none, .mv (.t 95)⟩,
          ⟨some 97, some (96, true), .build [(.slice none 0 0), (.int .i64 0)] []⟩,
          ⟨some 98, some (96, true), .bslice 35 2 1 [(.slice none 0 0), (.int .i64 0)] [(0, (.t 97))]⟩,
          ⟨some 99, some (96, true), .call 5 [(.t 98)]⟩,
          ⟨some 100, none, .pick (.t 96) (.t 99) (.k (.bool false))⟩,
          ⟨some 101, none, .mv (.t 100)⟩,
          ⟨some 102, some (101, true), .call 8 []⟩,
          ⟨some 103, none, .pick (.t 101) (.t 102) (.k (.bool false))⟩,
          ⟨some 0, none, .mv (.t 103)⟩] false)
        .ret))))))
-- keep: 13: [0] · 12: [3, 5, 7] · 10: [3, 4] · 11: [3, 4] · 9: [3, 4, 61] · 8: [3, 4] · 7: [3] · 3: [1] · 6: [0] · 5: [1, 58] · 4: [1, 2] · 2: [1, 9] · 1: [1] · 0: [] · loops: [[3, 4], [1]]
theorem i7_eq : IC.of Try.prog 104 (Try.f7.body.getD .skip) = i7 := by kernel_rfl
theorem fn7 {args : List AV} {Q : AV → List (Nat × Row) → Prop} (hl : args.length ≤ 104) (h : ∀ Γ : Ctx, Γ.P = Try.prog → Γ.n = 104 → (∀ b, ¬ Γ.X b) → (Γ.g = false ∧ ∀ r, Γ.pin r = none) → AWI Γ i7 (Fin Γ [0] Q) ⟨envOf 0 args, []⟩) : Ctr Try.prog 7 args Q :=
  Ctr.of_body Try.func7 Try.ntmps7 (by kernel_rfl) (by kernel_rfl) i7_eq (by kernel_rfl) hl h

/-- tallage/tallagelaw07.works -/
def i8 : IC :=
  (.seq
   (.region 0 [⟨some 0, none, .mv (.k (.bool false))⟩] false)
   (.seq
    (.region 1 [⟨some 11, none, .call 9 [(.k (.string ⟨#[97, 32, 32, 98, 32, 35, 32, 99, 10, 10, 100]⟩))]⟩,
      ⟨some 10, none, .mv (.t 11)⟩,
      ⟨some 12, none, .ext (.t 10) 0⟩,
      ⟨some 13, none, .ext (.t 10) 1⟩,
      ⟨some 14, none, .ext (.t 10) 2⟩,
      ⟨some 1, none, .mv (.t 12)⟩,
      ⟨some 2, none, .mv (.t 13)⟩,
      ⟨some 3, none, .mv (.t 14)⟩] false)
    (.seq
     (.region 2 [⟨some 16, none, .call 9 [(.k (.string ⟨#[97, 200]⟩))]⟩,
       ⟨some 15, none, .mv (.t 16)⟩,
       ⟨some 17, none, .ext (.t 15) 0⟩,
       ⟨some 18, none, .ext (.t 15) 1⟩,
       ⟨some 19, none, .ext (.t 15) 2⟩,
       ⟨some 4, none, .mv (.t 17)⟩,
       ⟨some 5, none, .mv (.t 18)⟩,
       ⟨some 6, none, .mv (.t 19)⟩] false)
     (.seq
      (.region 3 [⟨some 21, none, .call 9 [(.k (.string ⟨#[35, 32, 111, 110, 108, 121]⟩))]⟩,
        ⟨some 20, none, .mv (.t 21)⟩,
        ⟨some 22, none, .ext (.t 20) 0⟩,
        ⟨some 23, none, .ext (.t 20) 1⟩,
        ⟨some 24, none, .ext (.t 20) 2⟩,
        ⟨some 7, none, .mv (.t 22)⟩,
        ⟨some 8, none, .mv (.t 23)⟩,
        ⟨some 9, none, .mv (.t 24)⟩] false)
      (.seq
       (.region 4 [⟨some 25, none, .mv (.t 3)⟩,
         ⟨some 26, none, .bin .eql (.t 25) (.k (.int .i64 0))⟩,
         ⟨some 27, none, .mv (.t 26)⟩,
         ⟨some 28, some (27, true), .mv (.t 1)⟩,
         ⟨some 29, some (27, true), .call 10 [(.t 28)]⟩,
         ⟨some 30, some (27, true), .build [(.string ⟨#[]⟩), (.int .i64 0)] [(0, 1, (.k (.string ⟨#[97]⟩)))]⟩,
         ⟨some 31, some (27, true), .build [(.string ⟨#[]⟩), (.int .i64 0)] [(0, 1, (.k (.string ⟨#[98]⟩))), (1, 1, (.k (.int .i64 3)))]⟩,
         ⟨some 32, some (27, true), .bslice 44 2 2 [(.string ⟨#[]⟩), (.int .i64 0)] [(0, (.t 30)), (1, (.t 31))]⟩,
         ⟨some 33, some (27, true), .build [(.slice none 0 0), (.int .i64 0)] [(0, 1, (.t 32))]⟩,
         ⟨some 34, some (27, true), .build [(.string ⟨#[]⟩), (.int .i64 0)] [(0, 1, (.k (.string ⟨#[100]⟩))), (1, 1, (.k (.int .i64 10)))]⟩,
         ⟨some 35, some (27, true), .bslice 44 2 1 [(.string ⟨#[]⟩), (.int .i64 0)] [(0, (.t 34))]⟩,
         ⟨some 36, some (27, true), .build [(.slice none 0 0), (.int .i64 0)] [(0, 1, (.t 35)), (1, 1, (.k (.int .i64 10)))]⟩,
         ⟨some 37, some (27, true), .bslice 47 2 2 [(.slice none 0 0), (.int .i64 0)] [(0, (.t 33)), (1, (.t 36))]⟩,
         ⟨some 38, some (27, true), .call 11 [(.t 29), (.t 37), (.k (.bool true))]⟩,
         ⟨some 39, none, .pick (.t 27) (.t 38) (.k (.bool false))⟩,
         ⟨some 40, none, .mv (.t 39)⟩,
         ⟨some 41, some (40, true), .mv (.t 5)⟩,
         ⟨some 42, some (40, true), .bin .eql (.t 41) (.k (.int .i64 1))⟩,
         ⟨some 43, none, .pick (.t 40) (.t 42) (.k (.bool false))⟩,
         ⟨some 44, none, .mv (.t 43)⟩,
         ⟨some 45, some (44, true), .mv (.t 6)⟩,
         ⟨some 46, some (44, true), .bin .eql (.t 45) (.k (.int .i64 70))⟩,
         ⟨some 47, none, .pick (.t 44) (.t 46) (.k (.bool false))⟩,
         ⟨some 48, none, .mv (.t 47)⟩,
         ⟨some 49, some (48, true), .mv (.t 7)⟩,
         ⟨some 50, some (48, true), .len false (.t 49)⟩,
         ⟨some 51, some (48, true), .bin .eql (.t 50) (.k (.int .i64 0))⟩,
         ⟨some 52, none, .pick (.t 48) (.t 51) (.k (.bool false))⟩,
         ⟨some 53, none, .mv (.t 52)⟩,
         ⟨some 54, some (53, true), .mv (.t 9)⟩,
         ⟨some 55, some (53, true), .bin .eql (.t 54) (.k (.int .i64 0))⟩,
         ⟨some 56, none, .pick (.t 53) (.t 55) (.k (.bool false))⟩,
         ⟨some 0, none, .mv (.t 56)⟩] false)
       .ret)))))
-- keep: 4: [0] · 3: [1, 3, 5, 6, 7, 9] · 2: [1, 3, 5, 6] · 1: [1, 3] · 0: []
theorem i8_eq : IC.of Try.prog 57 (Try.f8.body.getD .skip) = i8 := by kernel_rfl
theorem fn8 {args : List AV} {Q : AV → List (Nat × Row) → Prop} (hl : args.length ≤ 57) (h : ∀ Γ : Ctx, Γ.P = Try.prog → Γ.n = 57 → (∀ b, ¬ Γ.X b) → (Γ.g = false ∧ ∀ r, Γ.pin r = none) → AWI Γ i8 (Fin Γ [0] Q) ⟨envOf 0 args, []⟩) : Ctr Try.prog 8 args Q :=
  Ctr.of_body Try.func8 Try.ntmps8 (by kernel_rfl) (by kernel_rfl) i8_eq (by kernel_rfl) hl h

/-- tallage/lex.Lines -/
def i9 : IC :=
  (.seq
   (.region 0 [⟨some 2, none, .mv (.k (.slice none 0 0))⟩,
     ⟨some 3, none, .mv (.k (.int .i64 0))⟩,
     ⟨some 4, none, .mv (.k (.int .i64 0))⟩] false)
   (.seq
    (.seq
     (.region 1 [⟨some 10, none, .mv (.t 0)⟩,
       ⟨some 11, none, .len true (.t 10)⟩,
       ⟨some 12, none, .bin .gtr (.t 11) (.k (.int .i64 65536))⟩] false)
     (.cond (.t 12)
      (.seq
       (.region 2 [⟨some 2, none, .mv (.k (.slice none 0 0))⟩,
         ⟨some 3, none, .mv (.k (.int .i64 0))⟩,
         ⟨some 4, none, .mv (.k (.int .i64 3))⟩] false)
       .ret)
      .skip))
    (.seq
     (.seq
      (.region 3 [⟨some 5, none, .mv (.k (.bool true))⟩] false)
      (.block 0
       (.loop
        (.seq
         (.seq
          (.region 4 [⟨some 13, none, .mv (.t 5)⟩] false)
          (.cond (.t 13)
           .skip
           (.exit 0)))
         (.block 1
          (.seq
           (.region 5 [⟨some 6, none, .mv (.k (.string ⟨#[]⟩))⟩] false)
           (.seq
            (.region 6 [⟨some 14, none, .mv (.t 3)⟩,
              ⟨some 7, none, .mv (.t 14)⟩] false)
            (.seq
             (.region 7 [⟨some 16, none, .mv (.t 0)⟩,
               ⟨some 17, none, .call 18 [(.t 16), (.k (.string ⟨#[10]⟩))]⟩,
               ⟨some 15, none, .mv (.t 17)⟩,
               ⟨some 18, none, .ext (.t 15) 0⟩,
               ⟨some 19, none, .ext (.t 15) 1⟩,
               ⟨some 20, none, .ext (.t 15) 2⟩,
               ⟨some 6, none, .mv (.t 18)⟩,
               ⟨some 0, none, .mv (.t 19)⟩,
               ⟨some 5, none, .mv (.t 20)⟩] false)
             (.seq
              (.region 8 [⟨some 21, none, .mv (.t 3)⟩,
                ⟨some 22, none, .mv (.t 6)⟩,
                ⟨some 23, none, .len true (.t 22)⟩,
                ⟨some 24, none, .bin .add (.t 23) (.k (.int .i64 1))⟩,
                ⟨some 25, none, .bin .add (.t 21) (.t 24)⟩,
                ⟨some 3, none, .mv (.t 25)⟩] false)
              (.seq
               (.region 9 [⟨some 27, none, .mv (.t 6)⟩,
                 ⟨some 28, none, .mv (.t 7)⟩,
                 ⟨some 29, none, .call 19 [(.t 27), (.t 28)]⟩,
                 ⟨some 26, none, .mv (.t 29)⟩,
                 ⟨some 30, none, .ext (.t 26) 0⟩,
                 ⟨some 31, none, .ext (.t 26) 1⟩,
                 ⟨some 8, none, .mv (.t 30)⟩,
                 ⟨some 9, none, .mv (.t 31)⟩] false)
               (.seq
                (.seq
                 (.region 10 [⟨some 32, none, .mv (.t 9)⟩,
                   ⟨some 33, none, .bin .geq (.t 32) (.k (.int .i64 0))⟩] false)
                 (.cond (.t 33)
                  (.seq
                   (.region 11 [⟨some 34, none, .mv (.t 9)⟩,
                     ⟨some 2, none, .mv (.k (.slice none 0 0))⟩,
                     ⟨some 3, none, .mv (.t 34)⟩,
                     ⟨some 4, none, .mv (.k (.int .i64 70))⟩] false)
                   .ret)
                  .skip))
                (.seq
                 (.region 12 [⟨some 35, none, .mv (.t 8)⟩,
                   ⟨some 36, none, .len false (.t 35)⟩,
                   ⟨some 37, none, .bin .gtr (.t 36) (.k (.int .i64 0))⟩] false)
                 (.cond (.t 37)
                  (.region 13 [⟨some 38, none, .mv (.t 2)⟩,
                    ⟨some 39, none, .mv (.t 8)⟩,
                    ⟨some 40, none, .mv (.t 7)⟩,
                    ⟨some 41, none, .build [(.slice none 0 0), (.int .i64 0)] [(0, 1, (.t 39)), (1, 1, (.t 40))]⟩,
                    ⟨some 42, none, .bslice 35 2 1 [(.slice none 0 0), (.int .i64 0)] [(0, (.t 41))]⟩,
                    ⟨some 43, none, .app 35 2 32 [(.slice none 0 0), (.int .i64 0)] (.t 38) (.t 42)⟩,
                    ⟨some 2, none, .mv (.t 43)⟩] false)
                  .skip)))))))))))))
     (.seq
      (.region 14 [⟨some 44, none, .mv (.t 2)⟩,
        ⟨some 2, none, .mv (.t 44)⟩,
        ⟨some 3, none, .mv (.k (.int .i64 0))⟩,
        ⟨some 4, none, .mv (.k (.int .i64 0))⟩] false)
      .ret))))
-- keep: 14: [2, 3, 4] · 13: [0, 2, 3, 5] · 12: [0, 2, 3, 5, 7, 8, 37] · 11: [2, 3, 4] · 10: [0, 2, 3, 5, 7, 8, 9, 33] · 9: [0, 2, 3, 5, 7, 8, 9] · 8: [0, 2, 3, 5, 6, 7] · 7: [0, 2, 3, 5, 6, 7] · 6: [0, 2, 3, 7] · 5: [0, 2, 3] · 4: [0, 2, 3, 13] · 3: [0, 2, 3, 5] · 2: [2, 3, 4] · 1: [0, 2, 3, 12] · 0: [0, 2, 3] · loops: [[0, 2, 3, 5]]
theorem i9_eq : IC.of Try.prog 45 (Try.f9.body.getD .skip) = i9 := by kernel_rfl
theorem fn9 {args : List AV} {Q : AV → List (Nat × Row) → Prop} (hl : args.length ≤ 45) (h : ∀ Γ : Ctx, Γ.P = Try.prog → Γ.n = 45 → (∀ b, ¬ Γ.X b) → (Γ.g = false ∧ ∀ r, Γ.pin r = none) → AWI Γ i9 (Fin Γ [2, 3, 4] Q) ⟨envOf 0 args, []⟩) : Ctr Try.prog 9 args Q :=
  Ctr.of_body Try.func9 Try.ntmps9 (by kernel_rfl) (by kernel_rfl) i9_eq (by kernel_rfl) hl h

/-- tallage/tallagelaw07.ref -/
def i10 : IC :=
  (.seq
   (.region 0 [⟨some 2, none, .mv (.k (.slice none 0 0))⟩] false)
   (.seq
    (.region 1 [⟨some 3, none, .mv (.k (.slice none 0 0))⟩] false)
    (.seq
     (.seq
      (.region 2 [⟨some 4, none, .mv (.k (.int .i64 0))⟩] false)
      (.block 0
       (.loop
        (.seq
         (.seq
          (.region 3 [⟨some 7, none, .mv (.t 4)⟩,
            ⟨some 8, none, .mv (.t 0)⟩,
            ⟨some 9, none, .len false (.t 8)⟩,
            ⟨some 10, none, .bin .lss (.t 7) (.t 9)⟩] false)
          (.cond (.t 10)
           .skip
           (.exit 0)))
         (.seq
          (.block 1
           (.seq
            (.region 5 [⟨some 13, none, .mv (.t 0)⟩,
              ⟨some 14, none, .mv (.t 4)⟩,
              ⟨some 15, none, .iad 2 (.t 13) (.t 14)⟩,
              ⟨some 16, none, .fad 1 (.t 15)⟩,
              ⟨some 17, none, .load false 1 (.t 16)⟩,
              ⟨some 18, none, .build [(.slice none 0 0), (.int .i64 0)] [(1, 1, (.t 17))]⟩,
              ⟨some 5, none, .alloc 47 [(.slice none 0 0), (.int .i64 0)]⟩,
              ⟨none, none, .store 2 (.t 5) (.t 18)⟩] false)
            (.seq
             (.seq
              (.region 6 [⟨some 6, none, .mv (.k (.int .i64 0))⟩] false)
              (.block 2
               (.loop
                (.seq
                 (.seq
                  (.region 7 [⟨some 19, none, .mv (.t 6)⟩,
                    ⟨some 20, none, .mv (.t 0)⟩,
                    ⟨some 21, none, .mv (.t 4)⟩,
                    ⟨some 22, none, .iad 2 (.t 20) (.t 21)⟩,
                    ⟨some 23, none, .fad 0 (.t 22)⟩,
                    ⟨some 24, none, .load false 1 (.t 23)⟩,
                    ⟨some 25, none, .len false (.t 24)⟩,
                    ⟨some 26, none, .bin .lss (.t 19) (.t 25)⟩] false)
                  (.cond (.t 26)
                   .skip
                   (.exit 2)))
                 (.seq
                  (.block 3
                   (.draw 9 [⟨⟨some 29, none, .fad 0 (.t 5)⟩, [], [5], true, false, true, true⟩,
                     ⟨⟨some 30, none, .load false 1 (.t 29)⟩, [0], [29], true, false, true, true⟩,
                     ⟨⟨some 31, none, .mv (.t 0)⟩, [], [0], true, true, true, true⟩,
                     ⟨⟨some 32, none, .mv (.t 4)⟩, [], [4], true, true, true, true⟩,
                     ⟨⟨some 33, none, .iad 2 (.t 31) (.t 32)⟩, [2, 3], [31, 32], true, false, true, true⟩,
                     ⟨⟨some 34, none, .fad 0 (.t 33)⟩, [4], [33], true, false, true, true⟩,
                     ⟨⟨some 35, none, .load false 1 (.t 34)⟩, [5], [34], true, false, true, true⟩,
                     ⟨⟨some 36, none, .mv (.t 6)⟩, [], [6], true, true, true, true⟩,
                     ⟨⟨some 37, none, .iad 2 (.t 35) (.t 36)⟩, [6, 7], [35, 36], true, false, true, true⟩,
                     ⟨⟨some 38, none, .fad 0 (.t 37)⟩, [8], [37], true, false, true, true⟩,
                     ⟨⟨some 39, none, .load false 1 (.t 38)⟩, [9], [38], true, false, true, true⟩,
                     ⟨⟨some 40, none, .mv (.t 0)⟩, [], [0], true, true, true, true⟩,
                     ⟨⟨some 41, none, .mv (.t 4)⟩, [], [4], true, true, true, true⟩,
                     ⟨⟨some 42, none, .iad 2 (.t 40) (.t 41)⟩, [11, 12], [40, 41], true, false, true, true⟩,
                     ⟨⟨some 43, none, .fad 0 (.t 42)⟩, [13], [42], true, false, true, true⟩,
                     ⟨⟨some 44, none, .load false 1 (.t 43)⟩, [14], [43], true, false, true, true⟩,
                     ⟨⟨some 45, none, .mv (.t 6)⟩, [], [6], true, true, true, true⟩,
                     ⟨⟨some 46, none, .iad 2 (.t 44) (.t 45)⟩, [15, 16], [44, 45], true, false, true, true⟩,
                     ⟨⟨some 47, none, .fad 1 (.t 46)⟩, [17], [46], true, false, true, true⟩,
                     ⟨⟨some 48, none, .load false 1 (.t 47)⟩, [18], [47], true, false, true, true⟩,
                     ⟨⟨some 49, none, .build [(.string ⟨#[]⟩), (.int .i64 0)] [(0, 1, (.t 39)), (1, 1, (.t 48))]⟩, [10, 19], [39, 48], true, false, true, true⟩,
                     ⟨⟨some 50, none, .bslice 44 2 1 [(.string ⟨#[]⟩), (.int .i64 0)] [(0, (.t 49))]⟩, [20], [49], false, false, true, true⟩,
                     ⟨⟨some 51, none, .app 44 2 24 [(.string ⟨#[]⟩), (.int .i64 0)] (.t 30) (.t 50)⟩, [1, 21], [30, 50], false, false, true, false⟩,
                     ⟨⟨some 52, none, .fad 0 (.t 5)⟩, [0, 1, 2, 3, 4, 5, 6, 7, 8, 9, 10, 11, 12, 13, 14, 15, 16, 17, 18, 19, 20, 21, 22], [5], true, false, true, true⟩,
                     ⟨⟨none, none, .store 1 (.t 52) (.t 51)⟩, [23, 22, 22, 0, 1, 2, 3, 4, 5, 6, 7, 8, 9, 10, 11, 12, 13, 14, 15, 16, 17, 18, 19, 20, 21, 22], [52, 51], false, false, true, false⟩]))
                  (.region 8 [⟨some 27, none, .mv (.t 6)⟩,
                    ⟨some 28, none, .bin .add (.t 27) (.k (.int .i64 1))⟩,
                    ⟨some 6, none, .mv (.t 28)⟩] false))))))
             (.region 10 [⟨some 53, none, .mv (.t 3)⟩,
               ⟨some 54, none, .load true 2 (.t 5)⟩,
               ⟨some 55, none, .bslice 47 2 1 [(.slice none 0 0), (.int .i64 0)] [(0, (.t 54))]⟩,
               ⟨some 56, none, .app 47 2 32 [(.slice none 0 0), (.int .i64 0)] (.t 53) (.t 55)⟩,
               ⟨some 3, none, .mv (.t 56)⟩] false))))
          (.region 4 [⟨some 11, none, .mv (.t 4)⟩,
            ⟨some 12, none, .bin .add (.t 11) (.k (.int .i64 1))⟩,
            ⟨some 4, none, .mv (.t 12)⟩] false))))))
     (.seq
      (.region 11 [⟨some 57, none, .mv (.t 3)⟩,
        ⟨some 2, none, .mv (.t 57)⟩] false)
      .ret))))
-- draw 9: [(0, ⟨some 29, none, .fad 0 (.t 5)⟩, .cc), (1, ⟨some 30, none, .load false 1 (.t 29)⟩, .cc), (2, ⟨some 31, none, .mv (.t 0)⟩, .mv), (3, ⟨some 32, none, .mv (.t 4)⟩, .mv), (4, ⟨some 33, none, .iad 2 (.t 31) (.t 32)⟩, .cc), (5, ⟨some 34, none, .fad 0 (.t 33)⟩, .cc), (6, ⟨some 35, none, .load false 1 (.t 34)⟩, .cc), (7, ⟨some 36, none, .mv (.t 6)⟩, .mv), (8, ⟨some 37, none, .iad 2 (.t 35) (.t 36)⟩, .cc), (9, ⟨some 38, none, .fad 0 (.t 37)⟩, .cc), (10, ⟨some 39, none, .load false 1 (.t 38)⟩, .cc), (11, ⟨some 40, none, .mv (.t 0)⟩, .mv), (12, ⟨some 41, none, .mv (.t 4)⟩, .mv), (13, ⟨some 42, none, .iad 2 (.t 40) (.t 41)⟩, .cc), (14, ⟨some 43, none, .fad 0 (.t 42)⟩, .cc), (15, ⟨some 44, none, .load false 1 (.t 43)⟩, .cc), (16, ⟨some 45, none, .mv (.t 6)⟩, .mv), (17, ⟨some 46, none, .iad 2 (.t 44) (.t 45)⟩, .cc), (18, ⟨some 47, none, .fad 1 (.t 46)⟩, .cc), (19, ⟨some 48, none, .load false 1 (.t 47)⟩, .cc), (20, ⟨some 49, none, .build [(.string ⟨#[]⟩), (.int .i64 0)] [(0, 1, (.t 39)), (1, 1, (.t 48))]⟩, .cc)] [(21, ⟨some 50, none, .bslice 44 2 1 [(.string ⟨#[]⟩), (.int .i64 0)] [(0, (.t 49))]⟩, [0, 1]), (22, ⟨some 51, none, .app 44 2 24 [(.string ⟨#[]⟩), (.int .i64 0)] (.t 30) (.t 50)⟩, []), (23, ⟨some 52, none, .fad 0 (.t 5)⟩, []), (24, ⟨none, none, .store 1 (.t 52) (.t 51)⟩, [])]
-- keep: 11: [2] · 4: [0, 3, 4] · 10: [0, 3, 4] · 8: [0, 3, 4, 5, 6] · 9: [0, 3, 4, 5, 6] · 7: [0, 3, 4, 5, 6, 26] · 6: [0, 3, 4, 5, 6] · 5: [0, 3, 4, 5] · 3: [0, 3, 4, 10] · 2: [0, 3, 4] · 1: [0, 3] · 0: [0] · loops: [[0, 3, 4, 5, 6], [0, 3, 4, 5, 6], [0, 3, 4]]
theorem i10_eq : IC.of Try.prog 58 (Try.f10.body.getD .skip) = i10 := by kernel_rfl
theorem fn10 {args : List AV} {Q : AV → List (Nat × Row) → Prop} (hl : args.length ≤ 58) (h : ∀ Γ : Ctx, Γ.P = Try.prog → Γ.n = 58 → (∀ b, ¬ Γ.X b) → (Γ.g = false ∧ ∀ r, Γ.pin r = none) → AWI Γ i10 (Fin Γ [2] Q) ⟨envOf 0 args, []⟩) : Ctr Try.prog 10 args Q :=
  Ctr.of_body Try.func10 Try.ntmps10 (by kernel_rfl) (by kernel_rfl) i10_eq (by kernel_rfl) hl h

/-- tallage/tallagelaw07.same -/
def i11 : IC :=
  (.seq
   (.region 0 [⟨some 6, none, .mv (.k (.bool false))⟩] false)
   (.seq
    (.seq
     (.region 1 [⟨some 9, none, .mv (.t 0)⟩,
       ⟨some 10, none, .len false (.t 9)⟩,
       ⟨some 11, none, .mv (.t 1)⟩,
       ⟨some 12, none, .len false (.t 11)⟩,
       ⟨some 13, none, .bin .neq (.t 10) (.t 12)⟩] false)
     (.cond (.t 13)
      (.seq
       (.region 2 [⟨some 6, none, .mv (.k (.bool false))⟩] false)
       .ret)
      .skip))
    (.seq
     (.seq
      (.region 3 [⟨some 7, none, .mv (.k (.int .i64 0))⟩] false)
      (.block 0
       (.loop
        (.seq
         (.seq
          (.region 4 [⟨some 14, none, .mv (.t 7)⟩,
            ⟨some 15, none, .mv (.t 0)⟩,
            ⟨some 16, none, .len false (.t 15)⟩,
            ⟨some 17, none, .bin .lss (.t 14) (.t 16)⟩] false)
          (.cond (.t 17)
           .skip
           (.exit 0)))
         (.seq
          (.block 1
           (.seq
            (.seq
             (.draw 6 [⟨⟨some 20, none, .mv (.t 0)⟩, [], [0], true, true, true, true⟩,
               ⟨⟨some 21, none, .mv (.t 7)⟩, [], [7], true, true, true, true⟩,
               ⟨⟨some 22, none, .iad 2 (.t 20) (.t 21)⟩, [0, 1], [20, 21], true, false, true, true⟩,
               ⟨⟨some 23, none, .fad 0 (.t 22)⟩, [2], [22], true, false, true, true⟩,
               ⟨⟨some 24, none, .load false 1 (.t 23)⟩, [3], [23], true, false, true, true⟩,
               ⟨⟨some 25, none, .len false (.t 24)⟩, [4], [24], true, false, true, true⟩,
               ⟨⟨some 26, none, .mv (.t 1)⟩, [], [1], true, true, true, true⟩,
               ⟨⟨some 27, none, .mv (.t 7)⟩, [], [7], true, true, true, true⟩,
               ⟨⟨some 28, none, .iad 2 (.t 26) (.t 27)⟩, [6, 7], [26, 27], true, false, true, true⟩,
               ⟨⟨some 29, none, .fad 0 (.t 28)⟩, [8], [28], true, false, true, true⟩,
               ⟨⟨some 30, none, .load false 1 (.t 29)⟩, [9], [29], true, false, true, true⟩,
               ⟨⟨some 31, none, .len false (.t 30)⟩, [10], [30], true, false, true, true⟩,
               ⟨⟨some 32, none, .bin .neq (.t 25) (.t 31)⟩, [5, 11], [25, 31], true, false, true, true⟩,
               ⟨⟨some 33, none, .mv (.t 32)⟩, [12], [32], true, true, true, true⟩,
               ⟨⟨some 34, some (33, false), .mv (.t 2)⟩, [13], [2, 33], true, true, true, true⟩,
               ⟨⟨some 35, some (33, false), .mv (.t 34)⟩, [14, 13, 13], [34, 33], true, true, true, true⟩,
               ⟨⟨some 36, some (35, true), .mv (.t 0)⟩, [15], [0, 35], true, true, true, true⟩,
               ⟨⟨some 37, some (35, true), .mv (.t 7)⟩, [15], [7, 35], true, true, true, true⟩,
               ⟨⟨some 38, some (35, true), .iad 2 (.t 36) (.t 37)⟩, [16, 17, 15], [36, 37, 35], true, false, true, true⟩,
               ⟨⟨some 39, some (35, true), .fad 1 (.t 38)⟩, [18, 15], [38, 35], true, false, true, true⟩,
               ⟨⟨some 40, some (35, true), .load false 1 (.t 39)⟩, [19, 15], [39, 35], true, false, true, true⟩,
               ⟨⟨some 41, some (35, true), .mv (.t 1)⟩, [15], [1, 35], true, true, true, true⟩,
               ⟨⟨some 42, some (35, true), .mv (.t 7)⟩, [15], [7, 35], true, true, true, true⟩,
               ⟨⟨some 43, some (35, true), .iad 2 (.t 41) (.t 42)⟩, [21, 22, 15], [41, 42, 35], true, false, true, true⟩,
               ⟨⟨some 44, some (35, true), .fad 1 (.t 43)⟩, [23, 15], [43, 35], true, false, true, true⟩,
               ⟨⟨some 45, some (35, true), .load false 1 (.t 44)⟩, [24, 15], [44, 35], true, false, true, true⟩,
               ⟨⟨some 46, some (35, true), .bin .neq (.t 40) (.t 45)⟩, [20, 25, 15], [40, 45, 35], true, false, true, true⟩,
               ⟨⟨some 47, some (33, false), .pick (.t 35) (.t 46) (.k (.bool false))⟩, [15, 26, 13], [35, 46, 33], true, false, true, true⟩,
               ⟨⟨some 48, none, .pick (.t 33) (.k (.bool true)) (.t 47)⟩, [13, 27], [33, 47], true, false, true, true⟩])
             (.cond (.t 48)
              (.seq
               (.region 7 [⟨some 6, none, .mv (.k (.bool false))⟩] false)
               .ret)
              .skip))
            (.seq
             (.region 8 [⟨some 8, none, .mv (.k (.int .i64 0))⟩] false)
             (.block 2
              (.loop
               (.seq
                (.seq
                 (.region 9 [⟨some 49, none, .mv (.t 8)⟩,
                   ⟨some 50, none, .mv (.t 0)⟩,
                   ⟨some 51, none, .mv (.t 7)⟩,
                   ⟨some 52, none, .iad 2 (.t 50) (.t 51)⟩,
                   ⟨some 53, none, .fad 0 (.t 52)⟩,
                   ⟨some 54, none, .load false 1 (.t 53)⟩,
                   ⟨some 55, none, .len false (.t 54)⟩,
                   ⟨some 56, none, .bin .lss (.t 49) (.t 55)⟩] false)
                 (.cond (.t 56)
                  .skip
                  (.exit 2)))
                (.seq
                 (.block 3
                  (.seq
                   (.draw 11 [⟨⟨some 59, none, .mv (.t 0)⟩, [], [0], true, true, true, true⟩,
                     ⟨⟨some 60, none, .mv (.t 7)⟩, [], [7], true, true, true, true⟩,
                     ⟨⟨some 61, none, .iad 2 (.t 59) (.t 60)⟩, [0, 1], [59, 60], true, false, true, true⟩,
                     ⟨⟨some 62, none, .fad 0 (.t 61)⟩, [2], [61], true, false, true, true⟩,
                     ⟨⟨some 63, none, .load false 1 (.t 62)⟩, [3], [62], true, false, true, true⟩,
                     ⟨⟨some 64, none, .mv (.t 8)⟩, [], [8], true, true, true, true⟩,
                     ⟨⟨some 65, none, .iad 2 (.t 63) (.t 64)⟩, [4, 5], [63, 64], true, false, true, true⟩,
                     ⟨⟨some 66, none, .fad 0 (.t 65)⟩, [6], [65], true, false, true, true⟩,
                     ⟨⟨some 67, none, .load false 1 (.t 66)⟩, [7], [66], true, false, true, true⟩,
                     ⟨⟨some 68, none, .mv (.t 1)⟩, [], [1], true, true, true, true⟩,
                     ⟨⟨some 69, none, .mv (.t 7)⟩, [], [7], true, true, true, true⟩,
                     ⟨⟨some 70, none, .iad 2 (.t 68) (.t 69)⟩, [9, 10], [68, 69], true, false, true, true⟩,
                     ⟨⟨some 71, none, .fad 0 (.t 70)⟩, [11], [70], true, false, true, true⟩,
                     ⟨⟨some 72, none, .load false 1 (.t 71)⟩, [12], [71], true, false, true, true⟩,
                     ⟨⟨some 73, none, .mv (.t 8)⟩, [], [8], true, true, true, true⟩,
                     ⟨⟨some 74, none, .iad 2 (.t 72) (.t 73)⟩, [13, 14], [72, 73], true, false, true, true⟩,
                     ⟨⟨some 75, none, .fad 0 (.t 74)⟩, [15], [74], true, false, true, true⟩,
                     ⟨⟨some 76, none, .load false 1 (.t 75)⟩, [16], [75], true, false, true, true⟩,
                     ⟨⟨some 77, none, .bin .neq (.t 67) (.t 76)⟩, [8, 17], [67, 76], true, false, true, true⟩,
                     ⟨⟨some 78, none, .mv (.t 77)⟩, [18], [77], true, true, true, true⟩,
                     ⟨⟨some 79, some (78, false), .mv (.t 2)⟩, [19], [2, 78], true, true, true, true⟩,
                     ⟨⟨some 80, some (78, false), .mv (.t 79)⟩, [20, 19, 19], [79, 78], true, true, true, true⟩,
                     ⟨⟨some 81, some (80, true), .mv (.t 0)⟩, [21], [0, 80], true, true, true, true⟩,
                     ⟨⟨some 82, some (80, true), .mv (.t 7)⟩, [21], [7, 80], true, true, true, true⟩,
                     ⟨⟨some 83, some (80, true), .iad 2 (.t 81) (.t 82)⟩, [22, 23, 21], [81, 82, 80], true, false, true, true⟩,
                     ⟨⟨some 84, some (80, true), .fad 0 (.t 83)⟩, [24, 21], [83, 80], true, false, true, true⟩,
                     ⟨⟨some 85, some (80, true), .load false 1 (.t 84)⟩, [25, 21], [84, 80], true, false, true, true⟩,
                     ⟨⟨some 86, some (80, true), .mv (.t 8)⟩, [21], [8, 80], true, true, true, true⟩,
                     ⟨⟨some 87, some (80, true), .iad 2 (.t 85) (.t 86)⟩, [26, 27, 21], [85, 86, 80], true, false, true, true⟩,
                     ⟨⟨some 88, some (80, true), .fad 1 (.t 87)⟩, [28, 21], [87, 80], true, false, true, true⟩,
                     ⟨⟨some 89, some (80, true), .load false 1 (.t 88)⟩, [29, 21], [88, 80], true, false, true, true⟩,
                     ⟨⟨some 90, some (80, true), .mv (.t 1)⟩, [21], [1, 80], true, true, true, true⟩,
                     ⟨⟨some 91, some (80, true), .mv (.t 7)⟩, [21], [7, 80], true, true, true, true⟩,
                     ⟨⟨some 92, some (80, true), .iad 2 (.t 90) (.t 91)⟩, [31, 32, 21], [90, 91, 80], true, false, true, true⟩,
                     ⟨⟨some 93, some (80, true), .fad 0 (.t 92)⟩, [33, 21], [92, 80], true, false, true, true⟩,
                     ⟨⟨some 94, some (80, true), .load false 1 (.t 93)⟩, [34, 21], [93, 80], true, false, true, true⟩,
                     ⟨⟨some 95, some (80, true), .mv (.t 8)⟩, [21], [8, 80], true, true, true, true⟩,
                     ⟨⟨some 96, some (80, true), .iad 2 (.t 94) (.t 95)⟩, [35, 36, 21], [94, 95, 80], true, false, true, true⟩,
                     ⟨⟨some 97, some (80, true), .fad 1 (.t 96)⟩, [37, 21], [96, 80], true, false, true, true⟩,
                     ⟨⟨some 98, some (80, true), .load false 1 (.t 97)⟩, [38, 21], [97, 80], true, false, true, true⟩,
                     ⟨⟨some 99, some (80, true), .bin .neq (.t 89) (.t 98)⟩, [30, 39, 21], [89, 98, 80], true, false, true, true⟩,
                     ⟨⟨some 100, some (78, false), .pick (.t 80) (.t 99) (.k (.bool false))⟩, [21, 40, 19], [80, 99, 78], true, false, true, true⟩,
                     ⟨⟨some 101, none, .pick (.t 78) (.k (.bool true)) (.t 100)⟩, [19, 41], [78, 100], true, false, true, true⟩])
                   (.cond (.t 101)
                    (.seq
                     (.region 12 [⟨some 6, none, .mv (.k (.bool false))⟩] false)
                     .ret)
                    .skip)))
                 (.region 10 [⟨some 57, none, .mv (.t 8)⟩,
                   ⟨some 58, none, .bin .add (.t 57) (.k (.int .i64 1))⟩,
                   ⟨some 8, none, .mv (.t 58)⟩] false))))))))
          (.region 5 [⟨some 18, none, .mv (.t 7)⟩,
            ⟨some 19, none, .bin .add (.t 18) (.k (.int .i64 1))⟩,
            ⟨some 7, none, .mv (.t 19)⟩] false))))))
     (.seq
      (.region 13 [⟨some 6, none, .mv (.k (.bool true))⟩] false)
      .ret))))
-- draw 11: [(0, ⟨some 59, none, .mv (.t 0)⟩, .mv), (1, ⟨some 60, none, .mv (.t 7)⟩, .mv), (2, ⟨some 61, none, .iad 2 (.t 59) (.t 60)⟩, .cc), (3, ⟨some 62, none, .fad 0 (.t 61)⟩, .cc), (4, ⟨some 63, none, .load false 1 (.t 62)⟩, .cc), (5, ⟨some 64, none, .mv (.t 8)⟩, .mv), (6, ⟨some 65, none, .iad 2 (.t 63) (.t 64)⟩, .cc), (7, ⟨some 66, none, .fad 0 (.t 65)⟩, .cc), (8, ⟨some 67, none, .load false 1 (.t 66)⟩, .cc), (9, ⟨some 68, none, .mv (.t 1)⟩, .mv), (10, ⟨some 69, none, .mv (.t 7)⟩, .mv), (11, ⟨some 70, none, .iad 2 (.t 68) (.t 69)⟩, .cc), (12, ⟨some 71, none, .fad 0 (.t 70)⟩, .cc), (13, ⟨some 72, none, .load false 1 (.t 71)⟩, .cc), (14, ⟨some 73, none, .mv (.t 8)⟩, .mv), (15, ⟨some 74, none, .iad 2 (.t 72) (.t 73)⟩, .cc), (16, ⟨some 75, none, .fad 0 (.t 74)⟩, .cc), (17, ⟨some 76, none, .load false 1 (.t 75)⟩, .cc), (18, ⟨some 77, none, .bin .neq (.t 67) (.t 76)⟩, .cc), (19, ⟨some 78, none, .mv (.t 77)⟩, .mv), (20, ⟨some 79, some (78, false), .mv (.t 2)⟩, .mv), (21, ⟨some 80, some (78, false), .mv (.t 79)⟩, .mv), (22, ⟨some 81, some (80, true), .mv (.t 0)⟩, .mv), (23, ⟨some 82, some (80, true), .mv (.t 7)⟩, .mv), (24, ⟨some 83, some (80, true), .iad 2 (.t 81) (.t 82)⟩, .cc), (25, ⟨some 84, some (80, true), .fad 0 (.t 83)⟩, .cc), (26, ⟨some 85, some (80, true), .load false 1 (.t 84)⟩, .cc), (27, ⟨some 86, some (80, true), .mv (.t 8)⟩, .mv), (28, ⟨some 87, some (80, true), .iad 2 (.t 85) (.t 86)⟩, .cc), (29, ⟨some 88, some (80, true), .fad 1 (.t 87)⟩, .cc), (30, ⟨some 89, some (80, true), .load false 1 (.t 88)⟩, .cc), (31, ⟨some 90, some (80, true), .mv (.t 1)⟩, .mv), (32, ⟨some 91, some (80, true), .mv (.t 7)⟩, .mv), (33, ⟨some 92, some (80, true), .iad 2 (.t 90) (.t 91)⟩, .cc), (34, ⟨some 93, some (80, true), .fad 0 (.t 92)⟩, .cc), (35, ⟨some 94, some (80, true), .load false 1 (.t 93)⟩, .cc), (36, ⟨some 95, some (80, true), .mv (.t 8)⟩, .mv), (37, ⟨some 96, some (80, true), .iad 2 (.t 94) (.t 95)⟩, .cc), (38, ⟨some 97, some (80, true), .fad 1 (.t 96)⟩, .cc), (39, ⟨some 98, some (80, true), .load false 1 (.t 97)⟩, .cc), (40, ⟨some 99, some (80, true), .bin .neq (.t 89) (.t 98)⟩, .cc), (41, ⟨some 100, some (78, false), .pick (.t 80) (.t 99) (.k (.bool false))⟩, .cc), (42, ⟨some 101, none, .pick (.t 78) (.k (.bool true)) (.t 100)⟩, .cc)] []
-- draw 6: [(0, ⟨some 20, none, .mv (.t 0)⟩, .mv), (1, ⟨some 21, none, .mv (.t 7)⟩, .mv), (2, ⟨some 22, none, .iad 2 (.t 20) (.t 21)⟩, .cc), (3, ⟨some 23, none, .fad 0 (.t 22)⟩, .cc), (4, ⟨some 24, none, .load false 1 (.t 23)⟩, .cc), (5, ⟨some 25, none, .len false (.t 24)⟩, .cc), (6, ⟨some 26, none, .mv (.t 1)⟩, .mv), (7, ⟨some 27, none, .mv (.t 7)⟩, .mv), (8, ⟨some 28, none, .iad 2 (.t 26) (.t 27)⟩, .cc), (9, ⟨some 29, none, .fad 0 (.t 28)⟩, .cc), (10, ⟨some 30, none, .load false 1 (.t 29)⟩, .cc), (11, ⟨some 31, none, .len false (.t 30)⟩, .cc), (12, ⟨some 32, none, .bin .neq (.t 25) (.t 31)⟩, .cc), (13, ⟨some 33, none, .mv (.t 32)⟩, .mv), (14, ⟨some 34, some (33, false), .mv (.t 2)⟩, .mv), (15, ⟨some 35, some (33, false), .mv (.t 34)⟩, .mv), (16, ⟨some 36, some (35, true), .mv (.t 0)⟩, .mv), (17, ⟨some 37, some (35, true), .mv (.t 7)⟩, .mv), (18, ⟨some 38, some (35, true), .iad 2 (.t 36) (.t 37)⟩, .cc), (19, ⟨some 39, some (35, true), .fad 1 (.t 38)⟩, .cc), (20, ⟨some 40, some (35, true), .load false 1 (.t 39)⟩, .cc), (21, ⟨some 41, some (35, true), .mv (.t 1)⟩, .mv), (22, ⟨some 42, some (35, true), .mv (.t 7)⟩, .mv), (23, ⟨some 43, some (35, true), .iad 2 (.t 41) (.t 42)⟩, .cc), (24, ⟨some 44, some (35, true), .fad 1 (.t 43)⟩, .cc), (25, ⟨some 45, some (35, true), .load false 1 (.t 44)⟩, .cc), (26, ⟨some 46, some (35, true), .bin .neq (.t 40) (.t 45)⟩, .cc), (27, ⟨some 47, some (33, false), .pick (.t 35) (.t 46) (.k (.bool false))⟩, .cc), (28, ⟨some 48, none, .pick (.t 33) (.k (.bool true)) (.t 47)⟩, .cc)] []
-- keep: 13: [6] · 5: [0, 1, 2, 7] · 10: [0, 1, 2, 7, 8] · 12: [6] · 11: [0, 1, 2, 7, 8, 101] · 9: [0, 1, 2, 7, 8, 56] · 8: [0, 1, 2, 7, 8] · 7: [6] · 6: [0, 1, 2, 7, 48] · 4: [0, 1, 2, 7, 17] · 3: [0, 1, 2, 7] · 2: [6] · 1: [0, 1, 2, 13] · 0: [0, 1, 2] · loops: [[0, 1, 2, 7, 8], [0, 1, 2, 7, 8], [0, 1, 2, 7]]
theorem i11_eq : IC.of Try.prog 102 (Try.f11.body.getD .skip) = i11 := by kernel_rfl
theorem fn11 {args : List AV} {Q : AV → List (Nat × Row) → Prop} (hl : args.length ≤ 102) (h : ∀ Γ : Ctx, Γ.P = Try.prog → Γ.n = 102 → (∀ b, ¬ Γ.X b) → (Γ.g = false ∧ ∀ r, Γ.pin r = none) → AWI Γ i11 (Fin Γ [6] Q) ⟨envOf 0 args, []⟩) : Ctr Try.prog 11 args Q :=
  Ctr.of_body Try.func11 Try.ntmps11 (by kernel_rfl) (by kernel_rfl) i11_eq (by kernel_rfl) hl h

/-- tallage/tallageref07.Lines -/
def i12 : IC :=
  (.seq
   (.region 0 [⟨some 2, none, .mv (.k (.slice none 0 0))⟩,
     ⟨some 3, none, .mv (.k (.int .i64 0))⟩,
     ⟨some 4, none, .mv (.k (.int .i64 0))⟩] false)
   (.seq
    (.seq
     (.region 1 [⟨some 11, none, .mv (.t 0)⟩,
       ⟨some 12, none, .len true (.t 11)⟩,
       ⟨some 13, none, .bin .gtr (.t 12) (.k (.int .i64 65536))⟩] false)
     (.cond (.t 13)
      (.seq
       (.region 2 [⟨some 2, none, .mv (.k (.slice none 0 0))⟩,
         ⟨some 3, none, .mv (.k (.int .i64 0))⟩,
         ⟨some 4, none, .mv (.k (.int .i64 3))⟩] false)
       .ret)
      .skip))
    (.seq
     (.region 3 [⟨some 5, none, .mv (.k (.slice none 0 0))⟩] false)
     (.seq
      (.region 4 [⟨some 14, none, .build [(.slice none 0 0), (.int .i64 0)] []⟩,
        ⟨some 6, none, .alloc 47 [(.slice none 0 0), (.int .i64 0)]⟩,
        ⟨none, none, .store 2 (.t 6) (.t 14)⟩] false)
      (.seq
       (.region 5 [⟨some 7, none, .mv (.k (.bool false))⟩,
         ⟨some 8, none, .mv (.k (.bool false))⟩] false)
       (.seq
        (.seq
         (.region 6 [⟨some 9, none, .mv (.k (.int .i64 0))⟩] false)
         (.block 0
          (.loop
           (.seq
            (.seq
             (.region 7 [⟨some 15, none, .mv (.t 9)⟩,
               ⟨some 16, none, .mv (.t 0)⟩,
               ⟨some 17, none, .len true (.t 16)⟩,
               ⟨some 18, none, .bin .leq (.t 15) (.t 17)⟩] false)
             (.cond (.t 18)
              .skip
              (.exit 0)))
            (.seq
             (.block 1
              (.seq
               (.seq
                (.region 9 [⟨some 21, none, .mv (.t 9)⟩,
                  ⟨some 22, none, .mv (.t 0)⟩,
                  ⟨some 23, none, .len true (.t 22)⟩,
                  ⟨some 24, none, .bin .eql (.t 21) (.t 23)⟩,
                  ⟨some 25, none, .mv (.t 24)⟩,
                  ⟨some 26, some (25, false), .mv (.t 0)⟩,
                  ⟨some 27, some (25, false), .mv (.t 9)⟩,
                  ⟨some 28, some (25, false), .ixs (.t 26) (.t 27)⟩,
                  ⟨some 29, some (25, false), .bin .eql (.t 28) (.k (.int .u8 10))⟩,
                  ⟨some 30, none, .pick (.t 25) (.k (.bool true)) (.t 29)⟩] false)
                (.cond (.t 30)
                 (.seq
                  (.seq
                   (.region 10 [⟨some 31, none, .fad 0 (.t 6)⟩,
                     ⟨some 32, none, .load false 1 (.t 31)⟩,
                     ⟨some 33, none, .len false (.t 32)⟩,
                     ⟨some 34, none, .bin .gtr (.t 33) (.k (.int .i64 0))⟩] false)
                   (.cond (.t 34)
                    (.region 11 [⟨some 35, none, .mv (.t 5)⟩,
                      ⟨some 36, none, .load true 2 (.t 6)⟩,
                      ⟨some 37, none, .bslice 47 2 1 [(.slice none 0 0), (.int .i64 0)] [(0, (.t 36))]⟩,
                      ⟨some 38, none, .app 47 2 32 [(.slice none 0 0), (.int .i64 0)] (.t 35) (.t 37)⟩,
                      ⟨some 5, none, .mv (.t 38)⟩] false)
                    .skip))
                  (.seq
                   (.region 12 [⟨some 39, none, .mv (.t 9)⟩,
                     ⟨some 40, none, .bin .add (.t 39) (.k (.int .i64 1))⟩,
                     ⟨some 41, none, .build [(.slice none 0 0), (.int .i64 0)] [(1, 1, (.t 40))]⟩,
                     ⟨none, none, .store 2 (.t 6) (.t 41)⟩] false)
                   (.seq
                    (.region 13 [⟨some 7, none, .mv (.k (.bool false))⟩] false)
                    (.seq
                     (.region 14 [⟨some 8, none, .mv (.k (.bool false))⟩] false)
                     (.exit 1)))))
                 .skip))
               (.seq
                (.region 15 [⟨some 42, none, .mv (.t 0)⟩,
                  ⟨some 43, none, .mv (.t 9)⟩,
                  ⟨some 44, none, .ixs (.t 42) (.t 43)⟩,
                  ⟨some 10, none, .mv (.t 44)⟩] false)
                (.seq
                 (.region 16 [⟨some 45, none, .mv (.t 7)⟩,
                   ⟨some 46, none, .mv (.t 45)⟩,
                   ⟨some 47, some (46, false), .mv (.t 10)⟩,
                   ⟨some 48, some (46, false), .bin .eql (.t 47) (.k (.int .u8 35))⟩,
                   ⟨some 49, none, .pick (.t 46) (.k (.bool true)) (.t 48)⟩,
                   ⟨some 7, none, .mv (.t 49)⟩] false)
                 (.block 2
                  (.seq
                   (.region 19 [⟨some 63, none, .mv (.t 7)⟩,
                     ⟨some 64, none, .mv (.t 63)⟩,
                     ⟨some 65, some (64, false), .mv (.t 10)⟩,
                     ⟨some 66, some (64, false), .bin .eql (.t 65) (.k (.int .u8 32))⟩,
                     ⟨some 67, none, .pick (.t 64) (.k (.bool true)) (.t 66)⟩,
                     ⟨some 68, none, .mv (.t 67)⟩,
                     ⟨some 69, some (68, false), .mv (.t 10)⟩,
                     ⟨some 70, some (68, false), .bin .eql (.t 69) (.k (.int .u8 9))⟩,
                     ⟨some 71, none, .pick (.t 68) (.k (.bool true)) (.t 70)⟩,
                     ⟨some 62, none, .mv (.t 71)⟩] false)
                   (.cond (.t 62)
                    (.region 20 [⟨some 8, none, .mv (.k (.bool false))⟩] false)
                    (.seq
                     (.region 21 [⟨some 73, none, .mv (.t 10)⟩,
                       ⟨some 74, none, .call 20 [(.t 73)]⟩,
                       ⟨some 75, none, .un .not (.t 74)⟩,
                       ⟨some 72, none, .mv (.t 75)⟩] false)
                     (.cond (.t 72)
                      (.seq
                       (.region 22 [⟨some 76, none, .mv (.t 9)⟩,
                         ⟨some 2, none, .mv (.k (.slice none 0 0))⟩,
                         ⟨some 3, none, .mv (.t 76)⟩,
                         ⟨some 4, none, .mv (.k (.int .i64 70))⟩] false)
                       .ret)
                      (.seq
                       (.region 23 [⟨some 78, none, .mv (.t 8)⟩,
                         ⟨some 77, none, .mv (.t 78)⟩] false)
                       (.cond (.t 77)
                        (.draw 24 [⟨⟨some 79, none, .fad 0 (.t 6)⟩, [], [6], true, false, true, true⟩,
                          ⟨⟨some 80, none, .load false 1 (.t 79)⟩, [0], [79], true, false, true, true⟩,
                          ⟨⟨some 81, none, .fad 0 (.t 6)⟩, [], [6], true, false, true, true⟩,
                          ⟨⟨some 82, none, .load false 1 (.t 81)⟩, [2], [81], true, false, true, true⟩,
                          ⟨⟨some 83, none, .len false (.t 82)⟩, [3], [82], true, false, true, true⟩,
                          ⟨⟨some 84, none, .bin .sub (.t 83) (.k (.int .i64 1))⟩, [4], [83], true, false, true, true⟩,
                          ⟨⟨some 85, none, .fad 0 (.t 6)⟩, [], [6], true, false, true, true⟩,
                          ⟨⟨some 86, none, .load false 1 (.t 85)⟩, [6], [85], true, false, true, true⟩,
                          ⟨⟨some 87, none, .fad 0 (.t 6)⟩, [], [6], true, false, true, true⟩,
                          ⟨⟨some 88, none, .load false 1 (.t 87)⟩, [8], [87], true, false, true, true⟩,
                          ⟨⟨some 89, none, .len false (.t 88)⟩, [9], [88], true, false, true, true⟩,
                          ⟨⟨some 90, none, .bin .sub (.t 89) (.k (.int .i64 1))⟩, [10], [89], true, false, true, true⟩,
                          ⟨⟨some 91, none, .iad 2 (.t 86) (.t 90)⟩, [7, 11], [86, 90], true, false, true, true⟩,
                          ⟨⟨some 92, none, .fad 0 (.t 91)⟩, [12], [91], true, false, true, true⟩,
                          ⟨⟨some 93, none, .load false 1 (.t 92)⟩, [13], [92], true, false, true, true⟩,
                          ⟨⟨some 94, none, .mv (.t 0)⟩, [], [0], true, true, true, true⟩,
                          ⟨⟨some 95, none, .mv (.t 9)⟩, [], [9], true, true, true, true⟩,
                          ⟨⟨some 96, none, .mv (.t 9)⟩, [], [9], true, true, true, true⟩,
                          ⟨⟨some 97, none, .bin .add (.t 96) (.k (.int .i64 1))⟩, [17], [96], true, false, true, true⟩,
                          ⟨⟨some 98, none, .slcS (.t 94) (some (.t 95)) (some (.t 97))⟩, [15, 16, 18], [94, 95, 97], true, false, true, true⟩,
                          ⟨⟨some 99, none, .bin .add (.t 93) (.t 98)⟩, [14, 19], [93, 98], true, false, true, true⟩,
                          ⟨⟨some 100, none, .iad 2 (.t 80) (.t 84)⟩, [1, 5, 0, 1, 2, 3, 4, 5, 6, 7, 8, 9, 10, 11, 12, 13, 14, 15, 16, 17, 18, 19, 20], [80, 84], true, false, true, true⟩,
                          ⟨⟨some 101, none, .fad 0 (.t 100)⟩, [21, 0, 1, 2, 3, 4, 5, 6, 7, 8, 9, 10, 11, 12, 13, 14, 15, 16, 17, 18, 19, 20], [100], true, false, true, true⟩,
                          ⟨⟨none, none, .store 1 (.t 101) (.t 99)⟩, [22, 20, 0, 1, 2, 3, 4, 5, 6, 7, 8, 9, 10, 11, 12, 13, 14, 15, 16, 17, 18, 19, 20], [101, 99], false, false, true, false⟩])
                        (.seq
                         (.draw 17 [⟨⟨some 50, none, .fad 0 (.t 6)⟩, [], [6], true, false, true, true⟩,
                           ⟨⟨some 51, none, .load false 1 (.t 50)⟩, [0], [50], true, false, true, true⟩,
                           ⟨⟨some 52, none, .mv (.t 0)⟩, [], [0], true, true, true, true⟩,
                           ⟨⟨some 53, none, .mv (.t 9)⟩, [], [9], true, true, true, true⟩,
                           ⟨⟨some 54, none, .mv (.t 9)⟩, [], [9], true, true, true, true⟩,
                           ⟨⟨some 55, none, .bin .add (.t 54) (.k (.int .i64 1))⟩, [4], [54], true, false, true, true⟩,
                           ⟨⟨some 56, none, .slcS (.t 52) (some (.t 53)) (some (.t 55))⟩, [2, 3, 5], [52, 53, 55], true, false, true, true⟩,
                           ⟨⟨some 57, none, .mv (.t 9)⟩, [], [9], true, true, true, true⟩,
                           ⟨⟨some 58, none, .build [(.string ⟨#[]⟩), (.int .i64 0)] [(0, 1, (.t 56)), (1, 1, (.t 57))]⟩, [6, 7], [56, 57], true, false, true, true⟩,
                           ⟨⟨some 59, none, .bslice 44 2 1 [(.string ⟨#[]⟩), (.int .i64 0)] [(0, (.t 58))]⟩, [8], [58], false, false, true, true⟩,
                           ⟨⟨some 60, none, .app 44 2 24 [(.string ⟨#[]⟩), (.int .i64 0)] (.t 51) (.t 59)⟩, [1, 9], [51, 59], false, false, true, false⟩,
                           ⟨⟨some 61, none, .fad 0 (.t 6)⟩, [0, 1, 2, 3, 4, 5, 6, 7, 8, 9, 10], [6], true, false, true, true⟩,
                           ⟨⟨none, none, .store 1 (.t 61) (.t 60)⟩, [11, 10, 10, 0, 1, 2, 3, 4, 5, 6, 7, 8, 9, 10], [61, 60], false, false, true, false⟩])
                         (.region 18 [⟨some 8, none, .mv (.k (.bool true))⟩] false)))))))))))))
             (.region 8 [⟨some 19, none, .mv (.t 9)⟩,
               ⟨some 20, none, .bin .add (.t 19) (.k (.int .i64 1))⟩,
               ⟨some 9, none, .mv (.t 20)⟩] false))))))
        (.seq
         (.region 25 [⟨some 102, none, .mv (.t 5)⟩,
           ⟨some 2, none, .mv (.t 102)⟩,
           ⟨some 3, none, .mv (.k (.int .i64 0))⟩,
           ⟨some 4, none, .mv (.k (.int .i64 0))⟩] false)
         .ret)))))))
-- draw 24: [(0, ⟨some 79, none, .fad 0 (.t 6)⟩, .cc), (1, ⟨some 80, none, .load false 1 (.t 79)⟩, .cc), (2, ⟨some 81, none, .fad 0 (.t 6)⟩, .cc), (3, ⟨some 82, none, .load false 1 (.t 81)⟩, .cc), (4, ⟨some 83, none, .len false (.t 82)⟩, .cc), (5, ⟨some 84, none, .bin .sub (.t 83) (.k (.int .i64 1))⟩, .cc), (6, ⟨some 85, none, .fad 0 (.t 6)⟩, .cc), (7, ⟨some 86, none, .load false 1 (.t 85)⟩, .cc), (8, ⟨some 87, none, .fad 0 (.t 6)⟩, .cc), (9, ⟨some 88, none, .load false 1 (.t 87)⟩, .cc), (10, ⟨some 89, none, .len false (.t 88)⟩, .cc), (11, ⟨some 90, none, .bin .sub (.t 89) (.k (.int .i64 1))⟩, .cc), (12, ⟨some 91, none, .iad 2 (.t 86) (.t 90)⟩, .cc), (13, ⟨some 92, none, .fad 0 (.t 91)⟩, .cc), (14, ⟨some 93, none, .load false 1 (.t 92)⟩, .cc), (15, ⟨some 94, none, .mv (.t 0)⟩, .mv), (16, ⟨some 95, none, .mv (.t 9)⟩, .mv), (17, ⟨some 96, none, .mv (.t 9)⟩, .mv), (18, ⟨some 97, none, .bin .add (.t 96) (.k (.int .i64 1))⟩, .cc), (19, ⟨some 98, none, .slcS (.t 94) (some (.t 95)) (some (.t 97))⟩, .cc), (20, ⟨some 99, none, .bin .add (.t 93) (.t 98)⟩, .cc), (21, ⟨some 100, none, .iad 2 (.t 80) (.t 84)⟩, .cc), (22, ⟨some 101, none, .fad 0 (.t 100)⟩, .cc)] [(23, ⟨none, none, .store 1 (.t 101) (.t 99)⟩, [])]
-- draw 17: [(0, ⟨some 50, none, .fad 0 (.t 6)⟩, .cc), (1, ⟨some 51, none, .load false 1 (.t 50)⟩, .cc), (2, ⟨some 52, none, .mv (.t 0)⟩, .mv), (3, ⟨some 53, none, .mv (.t 9)⟩, .mv), (4, ⟨some 54, none, .mv (.t 9)⟩, .mv), (5, ⟨some 55, none, .bin .add (.t 54) (.k (.int .i64 1))⟩, .cc), (6, ⟨some 56, none, .slcS (.t 52) (some (.t 53)) (some (.t 55))⟩, .cc), (7, ⟨some 57, none, .mv (.t 9)⟩, .mv), (8, ⟨some 58, none, .build [(.string ⟨#[]⟩), (.int .i64 0)] [(0, 1, (.t 56)), (1, 1, (.t 57))]⟩, .cc)] [(9, ⟨some 59, none, .bslice 44 2 1 [(.string ⟨#[]⟩), (.int .i64 0)] [(0, (.t 58))]⟩, [0, 1]), (10, ⟨some 60, none, .app 44 2 24 [(.string ⟨#[]⟩), (.int .i64 0)] (.t 51) (.t 59)⟩, []), (11, ⟨some 61, none, .fad 0 (.t 6)⟩, []), (12, ⟨none, none, .store 1 (.t 61) (.t 60)⟩, [])]
-- keep: 25: [2, 3, 4] · 8: [0, 5, 6, 7, 8, 9] · 20: [0, 5, 6, 7, 8, 9] · 22: [2, 3, 4] · 24: [0, 5, 6, 7, 8, 9] · 18: [0, 5, 6, 7, 8, 9] · 17: [0, 5, 6, 7, 9] · 23: [0, 5, 6, 7, 8, 9, 77] · 21: [0, 5, 6, 7, 8, 9, 72] · 19: [0, 5, 6, 7, 8, 9, 10, 62] · 16: [0, 5, 6, 7, 8, 9, 10] · 15: [0, 5, 6, 7, 8, 9, 10] · 14: [0, 5, 6, 7, 8, 9] · 13: [0, 5, 6, 7, 9] · 12: [0, 5, 6, 9] · 11: [0, 5, 6, 9] · 10: [0, 5, 6, 9, 34] · 9: [0, 5, 6, 7, 8, 9, 30] · 7: [0, 5, 6, 7, 8, 9, 18] · 6: [0, 5, 6, 7, 8, 9] · 5: [0, 5, 6, 7, 8] · 4: [0, 5, 6] · 3: [0, 5] · 2: [2, 3, 4] · 1: [0, 13] · 0: [0] · loops: [[0, 5, 6, 7, 8, 9]]
theorem i12_eq : IC.of Try.prog 103 (Try.f12.body.getD .skip) = i12 := by kernel_rfl
theorem fn12 {args : List AV} {Q : AV → List (Nat × Row) → Prop} (hl : args.length ≤ 103) (h : ∀ Γ : Ctx, Γ.P = Try.prog → Γ.n = 103 → (∀ b, ¬ Γ.X b) → (Γ.g = false ∧ ∀ r, Γ.pin r = none) → AWI Γ i12 (Fin Γ [2, 3, 4] Q) ⟨envOf 0 args, []⟩) : Ctr Try.prog 12 args Q :=
  Ctr.of_body Try.func12 Try.ntmps12 (by kernel_rfl) (by kernel_rfl) i12_eq (by kernel_rfl) hl h

/-- tallage/lex.Is -/
def i13 : IC :=
  (.seq
   (.region 0 [⟨some 2, none, .mv (.k (.bool false))⟩] false)
   (.seq
    (.region 1 [⟨some 3, none, .mv (.t 0)⟩,
      ⟨some 4, none, .bin .neq (.t 3) (.k (.string ⟨#[]⟩))⟩,
      ⟨some 5, none, .mv (.t 4)⟩,
      ⟨some 6, some (5, true), .mv (.t 0)⟩,
      ⟨some 7, some (5, true), .call 21 [(.t 6), (.k (.int .i64 0)), (.f 22)]⟩,
      ⟨some 8, some (5, true), .mv (.t 0)⟩,
      ⟨some 9, some (5, true), .len true (.t 8)⟩,
      ⟨some 10, some (5, true), .bin .eql (.t 7) (.t 9)⟩,
      ⟨some 11, none, .pick (.t 5) (.t 10) (.k (.bool false))⟩,
      ⟨some 2, none, .mv (.t 11)⟩] false)
    .ret))
-- keep: 1: [2] · 0: [0]
theorem i13_eq : IC.of Try.prog 12 (Try.f13.body.getD .skip) = i13 := by kernel_rfl
theorem fn13 {args : List AV} {Q : AV → List (Nat × Row) → Prop} (hl : args.length ≤ 12) (h : ∀ Γ : Ctx, Γ.P = Try.prog → Γ.n = 12 → (∀ b, ¬ Γ.X b) → (Γ.g = false ∧ ∀ r, Γ.pin r = none) → AWI Γ i13 (Fin Γ [2] Q) ⟨envOf 0 args, []⟩) : Ctr Try.prog 13 args Q :=
  Ctr.of_body Try.func13 Try.ntmps13 (by kernel_rfl) (by kernel_rfl) i13_eq (by kernel_rfl) hl h

/-- tallage/tallageref07.Is -/
def i14 : IC :=
  (.seq
   (.region 0 [⟨some 2, none, .mv (.k (.bool false))⟩] false)
   (.seq
    (.seq
     (.region 1 [⟨some 3, none, .mv (.k (.int .i64 0))⟩] false)
     (.block 0
      (.loop
       (.seq
        (.seq
         (.region 2 [⟨some 4, none, .mv (.t 3)⟩,
           ⟨some 5, none, .mv (.t 0)⟩,
           ⟨some 6, none, .len true (.t 5)⟩,
           ⟨some 7, none, .bin .lss (.t 4) (.t 6)⟩] false)
         (.cond (.t 7)
          .skip
          (.exit 0)))
        (.seq
         (.block 1
          (.seq
           (.region 4 [⟨some 10, none, .mv (.t 0)⟩,
             ⟨some 11, none, .mv (.t 3)⟩,
             ⟨some 12, none, .ixs (.t 10) (.t 11)⟩,
             ⟨some 13, none, .call 20 [(.t 12)]⟩,
             ⟨some 14, none, .un .not (.t 13)⟩] false)
           (.cond (.t 14)
            (.seq
             (.region 5 [⟨some 2, none, .mv (.k (.bool false))⟩] false)
             .ret)
            .skip)))
         (.region 3 [⟨some 8, none, .mv (.t 3)⟩,
           ⟨some 9, none, .bin .add (.t 8) (.k (.int .i64 1))⟩,
           ⟨some 3, none, .mv (.t 9)⟩] false))))))
    (.seq
     (.region 6 [⟨some 15, none, .mv (.t 0)⟩,
       ⟨some 16, none, .len true (.t 15)⟩,
       ⟨some 17, none, .bin .gtr (.t 16) (.k (.int .i64 0))⟩,
       ⟨some 2, none, .mv (.t 17)⟩] false)
     .ret)))
-- keep: 6: [2] · 3: [0, 3] · 5: [2] · 4: [0, 3, 14] · 2: [0, 3, 7] · 1: [0, 3] · 0: [0] · loops: [[0, 3]]
theorem i14_eq : IC.of Try.prog 18 (Try.f14.body.getD .skip) = i14 := by kernel_rfl
theorem fn14 {args : List AV} {Q : AV → List (Nat × Row) → Prop} (hl : args.length ≤ 18) (h : ∀ Γ : Ctx, Γ.P = Try.prog → Γ.n = 18 → (∀ b, ¬ Γ.X b) → (Γ.g = false ∧ ∀ r, Γ.pin r = none) → AWI Γ i14 (Fin Γ [2] Q) ⟨envOf 0 args, []⟩) : Ctr Try.prog 14 args Q :=
  Ctr.of_body Try.func14 Try.ntmps14 (by kernel_rfl) (by kernel_rfl) i14_eq (by kernel_rfl) hl h

/-- tallage/tallagelaw07.few -/
def i15 : IC :=
  (.seq
   (.region 0 [⟨some 2, none, .mv (.k (.bool false))⟩] false)
   (.seq
    (.seq
     (.region 1 [⟨some 3, none, .mv (.k (.int .i64 0))⟩] false)
     (.block 0
      (.loop
       (.seq
        (.seq
         (.region 2 [⟨some 5, none, .mv (.t 3)⟩,
           ⟨some 6, none, .mv (.t 0)⟩,
           ⟨some 7, none, .len false (.t 6)⟩,
           ⟨some 8, none, .bin .lss (.t 5) (.t 7)⟩] false)
         (.cond (.t 8)
          .skip
          (.exit 0)))
        (.seq
         (.block 1
          (.seq
           (.seq
            (.region 4 [⟨some 4, none, .mv (.k (.int .i64 0))⟩] false)
            (.block 2
             (.loop
              (.seq
               (.seq
                (.region 5 [⟨some 11, none, .mv (.t 4)⟩,
                  ⟨some 12, none, .mv (.t 0)⟩,
                  ⟨some 13, none, .mv (.t 3)⟩,
                  ⟨some 14, none, .iad 2 (.t 12) (.t 13)⟩,
                  ⟨some 15, none, .fad 0 (.t 14)⟩,
                  ⟨some 16, none, .load false 1 (.t 15)⟩,
                  ⟨some 17, none, .len false (.t 16)⟩,
                  ⟨some 18, none, .bin .lss (.t 11) (.t 17)⟩,
                  ⟨some 19, none, .mv (.t 18)⟩,
                  ⟨some 20, some (19, true), .mv (.t 4)⟩,
                  ⟨some 21, some (19, true), .bin .lss (.t 20) (.k (.int .i64 11))⟩,
                  ⟨some 22, none, .pick (.t 19) (.t 21) (.k (.bool false))⟩] false)
                (.cond (.t 22)
                 .skip
                 (.exit 2)))
               (.seq
                (.block 3
                 (.seq
                  (.region 7 [⟨some 25, none, .mv (.t 0)⟩,
                    ⟨some 26, none, .mv (.t 3)⟩,
                    ⟨some 27, none, .iad 2 (.t 25) (.t 26)⟩,
                    ⟨some 28, none, .fad 0 (.t 27)⟩,
                    ⟨some 29, none, .load false 1 (.t 28)⟩,
                    ⟨some 30, none, .mv (.t 4)⟩,
                    ⟨some 31, none, .iad 2 (.t 29) (.t 30)⟩,
                    ⟨some 32, none, .fad 0 (.t 31)⟩,
                    ⟨some 33, none, .load false 1 (.t 32)⟩,
                    ⟨some 34, none, .len true (.t 33)⟩,
                    ⟨some 35, none, .bin .gtr (.t 34) (.k (.int .i64 100))⟩] false)
                  (.cond (.t 35)
                   (.seq
                    (.region 8 [⟨some 2, none, .mv (.k (.bool false))⟩] false)
                    .ret)
                   .skip)))
                (.region 6 [⟨some 23, none, .mv (.t 4)⟩,
                  ⟨some 24, none, .bin .add (.t 23) (.k (.int .i64 1))⟩,
                  ⟨some 4, none, .mv (.t 24)⟩] false))))))
           (.seq
            (.region 9 [⟨some 36, none, .mv (.t 0)⟩,
              ⟨some 37, none, .mv (.t 3)⟩,
              ⟨some 38, none, .iad 2 (.t 36) (.t 37)⟩,
              ⟨some 39, none, .fad 0 (.t 38)⟩,
              ⟨some 40, none, .load false 1 (.t 39)⟩,
              ⟨some 41, none, .len false (.t 40)⟩,
              ⟨some 42, none, .bin .gtr (.t 41) (.k (.int .i64 10))⟩] false)
            (.cond (.t 42)
             (.seq
              (.region 10 [⟨some 2, none, .mv (.k (.bool false))⟩] false)
              .ret)
             .skip))))
         (.region 3 [⟨some 9, none, .mv (.t 3)⟩,
           ⟨some 10, none, .bin .add (.t 9) (.k (.int .i64 1))⟩,
           ⟨some 3, none, .mv (.t 10)⟩] false))))))
    (.seq
     (.region 11 [⟨some 43, none, .mv (.t 0)⟩,
       ⟨some 44, none, .len false (.t 43)⟩,
       ⟨some 45, none, .bin .leq (.t 44) (.k (.int .i64 20))⟩,
       ⟨some 2, none, .mv (.t 45)⟩] false)
     .ret)))
-- keep: 11: [2] · 3: [0, 3] · 10: [2] · 9: [0, 3, 42] · 6: [0, 3, 4] · 8: [2] · 7: [0, 3, 4, 35] · 5: [0, 3, 4, 22] · 4: [0, 3, 4] · 2: [0, 3, 8] · 1: [0, 3] · 0: [0] · loops: [[0, 3, 4], [0, 3, 4], [0, 3]]
theorem i15_eq : IC.of Try.prog 46 (Try.f15.body.getD .skip) = i15 := by kernel_rfl
theorem fn15 {args : List AV} {Q : AV → List (Nat × Row) → Prop} (hl : args.length ≤ 46) (h : ∀ Γ : Ctx, Γ.P = Try.prog → Γ.n = 46 → (∀ b, ¬ Γ.X b) → (Γ.g = false ∧ ∀ r, Γ.pin r = none) → AWI Γ i15 (Fin Γ [2] Q) ⟨envOf 0 args, []⟩) : Ctr Try.prog 15 args Q :=
  Ctr.of_body Try.func15 Try.ntmps15 (by kernel_rfl) (by kernel_rfl) i15_eq (by kernel_rfl) hl h

/-- tallage/lex.Show -/
def i16 : IC :=
  (.seq
   (.region 0 [⟨some 2, none, .mv (.k (.string ⟨#[]⟩))⟩] false)
   (.seq
    (.region 1 [⟨some 3, none, .alloc 56 [(.pointer none), (.slice none 0 0)]⟩] false)
    (.seq
     (.seq
      (.region 2 [⟨some 8, none, .mv (.t 0)⟩,
        ⟨some 9, none, .len false (.t 8)⟩,
        ⟨some 10, none, .mv (.k (.int .i64 0))⟩] false)
      (.block 0
       (.loop
        (.seq
         (.region 3 [⟨some 11, none, .bin .lss (.t 10) (.t 9)⟩] false)
         (.seq
          (.cond (.t 11)
           .skip
           (.exit 0))
          (.seq
           (.block 1
            (.seq
             (.region 4 [⟨some 12, none, .iad 2 (.t 8) (.t 10)⟩,
               ⟨some 13, none, .load true 2 (.t 12)⟩,
               ⟨some 5, none, .alloc 35 [(.slice none 0 0), (.int .i64 0)]⟩,
               ⟨none, none, .store 2 (.t 5) (.t 13)⟩] false)
             (.seq
              (.seq
               (.region 5 [⟨some 14, none, .fad 0 (.t 5)⟩,
                 ⟨some 15, none, .load false 1 (.t 14)⟩,
                 ⟨some 16, none, .len false (.t 15)⟩,
                 ⟨some 17, none, .mv (.k (.int .i64 0))⟩] false)
               (.block 2
                (.loop
                 (.seq
                  (.region 6 [⟨some 18, none, .bin .lss (.t 17) (.t 16)⟩] false)
                  (.seq
                   (.cond (.t 18)
                    .skip
                    (.exit 2))
                   (.seq
                    (.block 3
                     (.seq
                      (.region 7 [⟨some 19, none, .mv (.t 17)⟩,
                        ⟨some 20, none, .iad 2 (.t 15) (.t 17)⟩,
                        ⟨some 21, none, .load true 2 (.t 20)⟩,
                        ⟨some 7, none, .alloc 37 [(.string ⟨#[]⟩), (.int .i64 0)]⟩,
                        ⟨some 6, none, .mv (.t 19)⟩,
                        ⟨none, none, .store 2 (.t 7) (.t 21)⟩] false)
                      (.seq
                       (.seq
                        (.region 8 [⟨some 22, none, .mv (.t 6)⟩,
                          ⟨some 23, none, .bin .gtr (.t 22) (.k (.int .i64 0))⟩] false)
                        (.cond (.t 23)
                         (.region 9 [⟨some 24, none, .call 23 [(.t 3), (.k (.int .u8 32))]⟩] false)
                         .skip))
                       (.region 10 [⟨some 25, none, .fad 0 (.t 7)⟩,
                         ⟨some 26, none, .load false 1 (.t 25)⟩,
                         ⟨some 27, none, .call 24 [(.t 3), (.t 26)]⟩] false))))
                    (.region 11 [⟨some 28, none, .bin .add (.t 17) (.k (.int .i64 1))⟩,
                      ⟨some 17, none, .mv (.t 28)⟩] false)))))))
              (.region 12 [⟨some 29, none, .call 23 [(.t 3), (.k (.int .u8 10))]⟩] false))))
           (.region 13 [⟨some 30, none, .bin .add (.t 10) (.k (.int .i64 1))⟩,
             ⟨some 10, none, .mv (.t 30)⟩] false)))))))
     (.seq
      (.region 14 [⟨some 31, none, .call 25 [(.t 3)]⟩,
        ⟨some 2, none, .mv (.t 31)⟩] false)
      .ret))))
-- keep: 14: [2] · 13: [3, 8, 9, 10] · 12: [3, 8, 9, 10] · 11: [3, 8, 9, 10, 15, 16, 17] · 10: [3, 8, 9, 10, 15, 16, 17] · 9: [3, 7, 8, 9, 10, 15, 16, 17] · 8: [3, 7, 8, 9, 10, 15, 16, 17, 23] · 7: [3, 6, 7, 8, 9, 10, 15, 16, 17] · 6: [3, 8, 9, 10, 15, 16, 17, 18] · 5: [3, 8, 9, 10, 15, 16, 17] · 4: [3, 5, 8, 9, 10] · 3: [3, 8, 9, 10, 11] · 2: [3, 8, 9, 10] · 1: [0, 3] · 0: [0] · loops: [[3, 10, 15, 16, 17], [3, 8, 9, 10, 15, 16, 17], [3, 8, 9, 10]]
theorem i16_eq : IC.of Try.prog 32 (Try.f16.body.getD .skip) = i16 := by kernel_rfl
theorem fn16 {args : List AV} {Q : AV → List (Nat × Row) → Prop} (hl : args.length ≤ 32) (h : ∀ Γ : Ctx, Γ.P = Try.prog → Γ.n = 32 → (∀ b, ¬ Γ.X b) → (Γ.g = false ∧ ∀ r, Γ.pin r = none) → AWI Γ i16 (Fin Γ [2] Q) ⟨envOf 0 args, []⟩) : Ctr Try.prog 16 args Q :=
  Ctr.of_body Try.func16 Try.ntmps16 (by kernel_rfl) (by kernel_rfl) i16_eq (by kernel_rfl) hl h

/-- tallage/tallageref07.Show -/
def i17 : IC :=
  (.seq
   (.region 0 [⟨some 2, none, .mv (.k (.string ⟨#[]⟩))⟩] false)
   (.seq
    (.region 1 [⟨some 3, none, .mv (.k (.string ⟨#[]⟩))⟩] false)
    (.seq
     (.seq
      (.region 2 [⟨some 4, none, .mv (.k (.int .i64 0))⟩] false)
      (.block 0
       (.loop
        (.seq
         (.seq
          (.region 3 [⟨some 6, none, .mv (.t 4)⟩,
            ⟨some 7, none, .mv (.t 0)⟩,
            ⟨some 8, none, .len false (.t 7)⟩,
            ⟨some 9, none, .bin .lss (.t 6) (.t 8)⟩] false)
          (.cond (.t 9)
           .skip
           (.exit 0)))
         (.seq
          (.block 1
           (.seq
            (.seq
             (.region 5 [⟨some 5, none, .mv (.k (.int .i64 0))⟩] false)
             (.block 2
              (.loop
               (.seq
                (.seq
                 (.region 6 [⟨some 12, none, .mv (.t 5)⟩,
                   ⟨some 13, none, .mv (.t 0)⟩,
                   ⟨some 14, none, .mv (.t 4)⟩,
                   ⟨some 15, none, .iad 2 (.t 13) (.t 14)⟩,
                   ⟨some 16, none, .fad 0 (.t 15)⟩,
                   ⟨some 17, none, .load false 1 (.t 16)⟩,
                   ⟨some 18, none, .len false (.t 17)⟩,
                   ⟨some 19, none, .bin .lss (.t 12) (.t 18)⟩] false)
                 (.cond (.t 19)
                  .skip
                  (.exit 2)))
                (.seq
                 (.block 3
                  (.seq
                   (.seq
                    (.region 8 [⟨some 22, none, .mv (.t 5)⟩,
                      ⟨some 23, none, .bin .gtr (.t 22) (.k (.int .i64 0))⟩] false)
                    (.cond (.t 23)
                     (.region 9 [⟨some 24, none, .mv (.t 3)⟩,
                       ⟨some 25, none, .bin .add (.t 24) (.k (.string ⟨#[32]⟩))⟩,
                       ⟨some 3, none, .mv (.t 25)⟩] false)
                     .skip))
                   (.region 10 [⟨some 26, none, .mv (.t 3)⟩,
                     ⟨some 27, none, .mv (.t 0)⟩,
                     ⟨some 28, none, .mv (.t 4)⟩,
                     ⟨some 29, none, .iad 2 (.t 27) (.t 28)⟩,
                     ⟨some 30, none, .fad 0 (.t 29)⟩,
                     ⟨some 31, none, .load false 1 (.t 30)⟩,
                     ⟨some 32, none, .mv (.t 5)⟩,
                     ⟨some 33, none, .iad 2 (.t 31) (.t 32)⟩,
                     ⟨some 34, none, .fad 0 (.t 33)⟩,
                     ⟨some 35, none, .load false 1 (.t 34)⟩,
                     ⟨some 36, none, .bin .add (.t 26) (.t 35)⟩,
                     ⟨some 3, none, .mv (.t 36)⟩] false)))
                 (.region 7 [⟨some 20, none, .mv (.t 5)⟩,
                   ⟨some 21, none, .bin .add (.t 20) (.k (.int .i64 1))⟩,
                   ⟨some 5, none, .mv (.t 21)⟩] false))))))
            (.region 11 [⟨some 37, none, .mv (.t 3)⟩,
              ⟨some 38, none, .bin .add (.t 37) (.k (.string ⟨#[10]⟩))⟩,
              ⟨some 3, none, .mv (.t 38)⟩] false)))
          (.region 4 [⟨some 10, none, .mv (.t 4)⟩,
            ⟨some 11, none, .bin .add (.t 10) (.k (.int .i64 1))⟩,
            ⟨some 4, none, .mv (.t 11)⟩] false))))))
     (.seq
      (.region 12 [⟨some 39, none, .mv (.t 3)⟩,
        ⟨some 2, none, .mv (.t 39)⟩] false)
      .ret))))
-- keep: 12: [2] · 4: [0, 3, 4] · 11: [0, 3, 4] · 7: [0, 3, 4, 5] · 10: [0, 3, 4, 5] · 9: [0, 3, 4, 5] · 8: [0, 3, 4, 5, 23] · 6: [0, 3, 4, 5, 19] · 5: [0, 3, 4, 5] · 3: [0, 3, 4, 9] · 2: [0, 3, 4] · 1: [0, 3] · 0: [0] · loops: [[0, 3, 4, 5], [0, 3, 4, 5], [0, 3, 4]]
theorem i17_eq : IC.of Try.prog 40 (Try.f17.body.getD .skip) = i17 := by kernel_rfl
theorem fn17 {args : List AV} {Q : AV → List (Nat × Row) → Prop} (hl : args.length ≤ 40) (h : ∀ Γ : Ctx, Γ.P = Try.prog → Γ.n = 40 → (∀ b, ¬ Γ.X b) → (Γ.g = false ∧ ∀ r, Γ.pin r = none) → AWI Γ i17 (Fin Γ [2] Q) ⟨envOf 0 args, []⟩) : Ctr Try.prog 17 args Q :=
  Ctr.of_body Try.func17 Try.ntmps17 (by kernel_rfl) (by kernel_rfl) i17_eq (by kernel_rfl) hl h

/-- strings.Cut -/
def i18 : IC :=
  (.seq
   (.region 0 [⟨some 4, none, .mv (.k (.string ⟨#[]⟩))⟩,
     ⟨some 5, none, .mv (.k (.string ⟨#[]⟩))⟩,
     ⟨some 6, none, .mv (.k (.bool false))⟩] false)
   (.seq
    (.region 1 [⟨some 7, none, .mv (.t 0)⟩,
      ⟨some 8, none, .mv (.t 1)⟩,
      ⟨some 9, none, .call 26 [(.t 7), (.t 8)]⟩,
      ⟨some 10, none, .ext (.t 9) 0⟩,
      ⟨some 11, none, .ext (.t 9) 1⟩,
      ⟨some 12, none, .ext (.t 9) 2⟩,
      ⟨some 4, none, .mv (.t 10)⟩,
      ⟨some 5, none, .mv (.t 11)⟩,
      ⟨some 6, none, .mv (.t 12)⟩] false)
    .ret))
-- keep: 1: [4, 5, 6] · 0: [0, 1]
theorem i18_eq : IC.of Try.prog 13 (Try.f18.body.getD .skip) = i18 := by kernel_rfl
theorem fn18 {args : List AV} {Q : AV → List (Nat × Row) → Prop} (hl : args.length ≤ 13) (h : ∀ Γ : Ctx, Γ.P = Try.prog → Γ.n = 13 → (∀ b, ¬ Γ.X b) → (Γ.g = false ∧ ∀ r, Γ.pin r = none) → AWI Γ i18 (Fin Γ [4, 5, 6] Q) ⟨envOf 0 args, []⟩) : Ctr Try.prog 18 args Q :=
  Ctr.of_body Try.func18 Try.ntmps18 (by kernel_rfl) (by kernel_rfl) i18_eq (by kernel_rfl) hl h

/-- tallage/lex.words -/
def i19 : IC :=
  (.seq
   (.region 0 [⟨some 2, none, .box 9 (.t 0)⟩,
     ⟨some 4, none, .mv (.k (.slice none 0 0))⟩,
     ⟨some 5, none, .mv (.k (.int .i64 0))⟩] false)
   (.seq
    (.seq
     (.region 1 [⟨some 6, none, .alloc 3 [(.int .i64 0)]⟩,
       ⟨none, none, .store 1 (.t 6) (.k (.int .i64 0))⟩] false)
     (.block 0
      (.loop
       (.seq
        (.seq
         (.region 2 [⟨some 9, none, .load false 1 (.t 6)⟩,
           ⟨some 10, none, .load false 1 (.t 2)⟩,
           ⟨some 11, none, .len true (.t 10)⟩,
           ⟨some 12, none, .bin .lss (.t 9) (.t 11)⟩] false)
         (.cond (.t 12)
          .skip
          (.exit 0)))
        (.seq
         (.block 1
          (.seq
           (.region 3 [⟨some 13, none, .mkf 27 [(.t 2), (.t 6)]⟩,
             ⟨some 7, none, .mv (.t 13)⟩] false)
           (.seq
            (.region 4 [⟨some 14, none, .mv (.t 7)⟩,
              ⟨some 15, none, .callv (.t 14) [(.f 22)]⟩,
              ⟨some 8, none, .mv (.t 15)⟩] false)
            (.block 2
             (.seq
              (.region 6 [⟨some 20, none, .mv (.t 8)⟩,
                ⟨some 21, none, .bin .gtr (.t 20) (.k (.int .i64 0))⟩,
                ⟨some 19, none, .mv (.t 21)⟩] false)
              (.cond (.t 19)
               (.seq
                (.draw 7 [⟨⟨some 22, none, .mv (.t 4)⟩, [], [4], true, true, true, true⟩,
                  ⟨⟨some 23, none, .load false 1 (.t 2)⟩, [], [2], true, false, true, true⟩,
                  ⟨⟨some 24, none, .load false 1 (.t 6)⟩, [], [6], true, false, true, true⟩,
                  ⟨⟨some 25, none, .load false 1 (.t 6)⟩, [], [6], true, false, true, true⟩,
                  ⟨⟨some 26, none, .mv (.t 8)⟩, [], [8], true, true, true, true⟩,
                  ⟨⟨some 27, none, .bin .add (.t 25) (.t 26)⟩, [3, 4], [25, 26], true, false, true, true⟩,
                  ⟨⟨some 28, none, .slcS (.t 23) (some (.t 24)) (some (.t 27))⟩, [1, 2, 5], [23, 24, 27], true, false, true, true⟩,
                  ⟨⟨some 29, none, .call 28 [(.t 28)]⟩, [6], [28], false, false, true, true⟩,
                  ⟨⟨some 30, none, .mv (.t 1)⟩, [], [1], true, true, true, true⟩,
                  ⟨⟨some 31, none, .load false 1 (.t 6)⟩, [], [6], true, false, true, true⟩,
                  ⟨⟨some 32, none, .bin .add (.t 30) (.t 31)⟩, [8, 9], [30, 31], true, false, true, true⟩,
                  ⟨⟨some 33, none, .build [(.string ⟨#[]⟩), (.int .i64 0)] [(0, 1, (.t 29)), (1, 1, (.t 32))]⟩, [7, 10], [29, 32], true, false, true, true⟩,
                  ⟨⟨some 34, none, .bslice 37 2 1 [(.string ⟨#[]⟩), (.int .i64 0)] [(0, (.t 33))]⟩, [11], [33], false, false, true, true⟩,
                  ⟨⟨some 35, none, .app 37 2 24 [(.string ⟨#[]⟩), (.int .i64 0)] (.t 22) (.t 34)⟩, [0, 12, 7], [22, 34], false, false, true, false⟩,
                  ⟨⟨some 4, none, .mv (.t 35)⟩, [13, 13, 0, 1, 2, 3, 4, 5, 6, 7, 8, 9, 10, 11, 12, 13], [35], true, true, true, true⟩])
                (.region 8 [⟨some 36, none, .load false 1 (.t 6)⟩,
                  ⟨some 37, none, .mv (.t 8)⟩,
                  ⟨some 38, none, .bin .add (.t 36) (.t 37)⟩,
                  ⟨none, none, .store 1 (.t 6) (.t 38)⟩] false))
               (.seq
                (.region 9 [⟨some 40, none, .load false 1 (.t 2)⟩,
                  ⟨some 41, none, .load false 1 (.t 6)⟩,
                  ⟨some 42, none, .ixs (.t 40) (.t 41)⟩,
                  ⟨some 43, none, .call 29 [(.t 42)]⟩,
                  ⟨some 39, none, .mv (.t 43)⟩] false)
                (.cond (.t 39)
                 (.draw 10 [⟨⟨some 44, none, .load false 1 (.t 6)⟩, [], [6], true, false, true, true⟩,
                   ⟨⟨some 45, none, .mv (.t 7)⟩, [], [7], true, true, true, true⟩,
                   ⟨⟨some 46, none, .callv (.t 45) [(.f 29)]⟩, [1], [45], false, false, true, true⟩,
                   ⟨⟨some 47, none, .bin .add (.t 44) (.t 46)⟩, [0, 2], [44, 46], true, false, true, true⟩,
                   ⟨⟨none, none, .store 1 (.t 6) (.t 47)⟩, [3, 2, 0, 1, 2, 3], [6, 47], false, false, true, false⟩])
                 (.seq
                  (.region 11 [⟨some 49, none, .load false 1 (.t 2)⟩,
                    ⟨some 50, none, .load false 1 (.t 6)⟩,
                    ⟨some 51, none, .ixs (.t 49) (.t 50)⟩,
                    ⟨some 52, none, .bin .eql (.t 51) (.k (.int .u8 35))⟩,
                    ⟨some 48, none, .mv (.t 52)⟩] false)
                  (.cond (.t 48)
                   (.seq
                    (.region 12 [⟨some 53, none, .mv (.t 4)⟩,
                      ⟨some 4, none, .mv (.t 53)⟩,
                      ⟨some 5, none, .mv (.k (.int .i64 (-1)))⟩] false)
                    .ret)
                   (.seq
                    (.draw 5 [⟨⟨some 16, none, .mv (.t 1)⟩, [], [1], true, true, true, true⟩,
                      ⟨⟨some 17, none, .load false 1 (.t 6)⟩, [], [6], true, false, true, true⟩,
                      ⟨⟨some 18, none, .bin .add (.t 16) (.t 17)⟩, [0, 1], [16, 17], true, false, true, true⟩,
                      ⟨⟨some 4, none, .mv (.k (.slice none 0 0))⟩, [], [], true, true, true, true⟩,
                      ⟨⟨some 5, none, .mv (.t 18)⟩, [2, 3, 0, 1, 2, 3], [18], true, true, true, true⟩])
                    .ret)))))))))))
         (.seq
          (.region 13 [⟨some 54, none, .load false 1 (.t 6)⟩] false)
          (.region 14 [⟨some 6, none, .alloc 3 [(.int .i64 0)]⟩,
            ⟨none, none, .store 1 (.t 6) (.t 54)⟩] false)))))))
    (.seq
     (.region 15 [⟨some 55, none, .mv (.t 4)⟩,
       ⟨some 4, none, .mv (.t 55)⟩,
       ⟨some 5, none, .mv (.k (.int .i64 (-1)))⟩] false)
     .ret)))
-- draw 7: [(0, ⟨some 22, none, .mv (.t 4)⟩, .mv), (1, ⟨some 23, none, .load false 1 (.t 2)⟩, .cc), (2, ⟨some 24, none, .load false 1 (.t 6)⟩, .cc), (3, ⟨some 25, none, .load false 1 (.t 6)⟩, .cc), (4, ⟨some 26, none, .mv (.t 8)⟩, .mv), (5, ⟨some 27, none, .bin .add (.t 25) (.t 26)⟩, .cc), (6, ⟨some 28, none, .slcS (.t 23) (some (.t 24)) (some (.t 27))⟩, .cc), (8, ⟨some 30, none, .mv (.t 1)⟩, .mv), (9, ⟨some 31, none, .load false 1 (.t 6)⟩, .cc), (10, ⟨some 32, none, .bin .add (.t 30) (.t 31)⟩, .cc)] [(7, ⟨some 29, none, .call 28 [(.t 28)]⟩, [0, 8, 9, 10]), (11, ⟨some 33, none, .build [(.string ⟨#[]⟩), (.int .i64 0)] [(0, 1, (.t 29)), (1, 1, (.t 32))]⟩, [0]), (12, ⟨some 34, none, .bslice 37 2 1 [(.string ⟨#[]⟩), (.int .i64 0)] [(0, (.t 33))]⟩, [0]), (13, ⟨some 35, none, .app 37 2 24 [(.string ⟨#[]⟩), (.int .i64 0)] (.t 22) (.t 34)⟩, []), (14, ⟨some 4, none, .mv (.t 35)⟩, [])]
-- draw 10: [(0, ⟨some 44, none, .load false 1 (.t 6)⟩, .cc), (1, ⟨some 45, none, .mv (.t 7)⟩, .mv)] [(2, ⟨some 46, none, .callv (.t 45) [(.f 29)]⟩, [0]), (3, ⟨some 47, none, .bin .add (.t 44) (.t 46)⟩, []), (4, ⟨none, none, .store 1 (.t 6) (.t 47)⟩, [])]
-- draw 5: [(0, ⟨some 16, none, .mv (.t 1)⟩, .mv), (1, ⟨some 17, none, .load false 1 (.t 6)⟩, .cc), (2, ⟨some 18, none, .bin .add (.t 16) (.t 17)⟩, .cc), (3, ⟨some 4, none, .mv (.k (.slice none 0 0))⟩, .mv), (4, ⟨some 5, none, .mv (.t 18)⟩, .mv)] []
-- keep: 15: [4, 5] · 14: [1, 2, 4, 6] · 13: [1, 2, 4, 54] · 8: [1, 2, 4, 6] · 7: [1, 2, 4, 6, 8] · 10: [1, 2, 4, 6] · 12: [4, 5] · 5: [4, 5] · 11: [1, 4, 6, 48] · 9: [1, 2, 4, 6, 7, 39] · 6: [1, 2, 4, 6, 7, 8, 19] · 4: [1, 2, 4, 6, 7, 8] · 3: [1, 2, 4, 6, 7] · 2: [1, 2, 4, 6, 12] · 1: [1, 2, 4, 6] · 0: [1, 2, 4] · loops: [[1, 2, 4, 6]]
theorem i19_eq : IC.of Try.prog 56 (Try.f19.body.getD .skip) = i19 := by kernel_rfl
theorem fn19 {args : List AV} {Q : AV → List (Nat × Row) → Prop} (hl : args.length ≤ 56) (h : ∀ Γ : Ctx, Γ.P = Try.prog → Γ.n = 56 → (∀ b, ¬ Γ.X b) → (Γ.g = false ∧ ∀ r, Γ.pin r = none) → AWI Γ i19 (Fin Γ [4, 5] Q) ⟨envOf 0 args, []⟩) : Ctr Try.prog 19 args Q :=
  Ctr.of_body Try.func19 Try.ntmps19 (by kernel_rfl) (by kernel_rfl) i19_eq (by kernel_rfl) hl h

/-- tallage/tallageref07.word -/
def i20 : IC :=
  (.seq
   (.region 0 [⟨some 2, none, .mv (.k (.bool false))⟩] false)
   (.seq
    (.region 1 [⟨some 3, none, .mv (.t 0)⟩,
      ⟨some 4, none, .bin .geq (.t 3) (.k (.int .u8 33))⟩,
      ⟨some 5, none, .mv (.t 4)⟩,
      ⟨some 6, some (5, true), .mv (.t 0)⟩,
      ⟨some 7, some (5, true), .bin .leq (.t 6) (.k (.int .u8 126))⟩,
      ⟨some 8, none, .pick (.t 5) (.t 7) (.k (.bool false))⟩,
      ⟨some 9, none, .mv (.t 8)⟩,
      ⟨some 10, some (9, true), .mv (.t 0)⟩,
      ⟨some 11, some (9, true), .bin .neq (.t 10) (.k (.int .u8 35))⟩,
      ⟨some 12, none, .pick (.t 9) (.t 11) (.k (.bool false))⟩,
      ⟨some 2, none, .mv (.t 12)⟩] false)
    .ret))
-- keep: 1: [2] · 0: [0]
theorem i20_eq : IC.of Try.prog 13 (Try.f20.body.getD .skip) = i20 := by kernel_rfl
theorem fn20 {args : List AV} {Q : AV → List (Nat × Row) → Prop} (hl : args.length ≤ 13) (h : ∀ Γ : Ctx, Γ.P = Try.prog → Γ.n = 13 → (∀ b, ¬ Γ.X b) → (Γ.g = false ∧ ∀ r, Γ.pin r = none) → AWI Γ i20 (Fin Γ [2] Q) ⟨envOf 0 args, []⟩) : Ctr Try.prog 20 args Q :=
  Ctr.of_body Try.func20 Try.ntmps20 (by kernel_rfl) (by kernel_rfl) i20_eq (by kernel_rfl) hl h

/-- tallage/lex.run -/
def i21 : IC :=
  (.seq
   (.region 0 [⟨some 6, none, .mv (.k (.int .i64 0))⟩] false)
   (.seq
    (.region 1 [⟨some 7, none, .mv (.k (.int .i64 0))⟩] false)
    (.seq
     (.block 0
      (.loop
       (.seq
        (.seq
         (.region 2 [⟨some 8, none, .mv (.t 1)⟩,
           ⟨some 9, none, .mv (.t 7)⟩,
           ⟨some 10, none, .bin .add (.t 8) (.t 9)⟩,
           ⟨some 11, none, .mv (.t 0)⟩,
           ⟨some 12, none, .len true (.t 11)⟩,
           ⟨some 13, none, .bin .lss (.t 10) (.t 12)⟩,
           ⟨some 14, none, .mv (.t 13)⟩,
           ⟨some 15, some (14, true), .mv (.t 2)⟩,
           ⟨some 16, some (14, true), .mv (.t 0)⟩,
           ⟨some 17, some (14, true), .mv (.t 1)⟩,
           ⟨some 18, some (14, true), .mv (.t 7)⟩,
           ⟨some 19, some (14, true), .bin .add (.t 17) (.t 18)⟩,
           ⟨some 20, some (14, true), .ixs (.t 16) (.t 19)⟩,
           ⟨some 21, some (14, true), .callv (.t 15) [(.t 20)]⟩,
           ⟨some 22, none, .pick (.t 14) (.t 21) (.k (.bool false))⟩] false)
         (.cond (.t 22)
          .skip
          (.exit 0)))
        (.block 1
         (.region 3 [⟨some 23, none, .mv (.t 7)⟩,
           ⟨some 24, none, .bin .add (.t 23) (.k (.int .i64 1))⟩,
           ⟨some 7, none, .mv (.t 24)⟩] false)))))
     (.seq
      (.region 4 [⟨some 25, none, .mv (.t 7)⟩,
        ⟨some 6, none, .mv (.t 25)⟩] false)
      .ret))))
-- keep: 4: [6] · 3: [0, 1, 2, 7] · 2: [0, 1, 2, 7, 22] · 1: [0, 1, 2, 7] · 0: [0, 1, 2] · loops: [[0, 1, 2, 7]]
theorem i21_eq : IC.of Try.prog 26 (Try.f21.body.getD .skip) = i21 := by kernel_rfl
theorem fn21 {args : List AV} {Q : AV → List (Nat × Row) → Prop} (hl : args.length ≤ 26) (h : ∀ Γ : Ctx, Γ.P = Try.prog → Γ.n = 26 → (∀ b, ¬ Γ.X b) → (Γ.g = false ∧ ∀ r, Γ.pin r = none) → AWI Γ i21 (Fin Γ [6] Q) ⟨envOf 0 args, []⟩) : Ctr Try.prog 21 args Q :=
  Ctr.of_body Try.func21 Try.ntmps21 (by kernel_rfl) (by kernel_rfl) i21_eq (by kernel_rfl) hl h

/-- tallage/lex.word -/
def i22 : IC :=
  (.seq
   (.region 0 [⟨some 2, none, .mv (.k (.bool false))⟩] false)
   (.seq
    (.region 1 [⟨some 3, none, .mv (.t 0)⟩,
      ⟨some 4, none, .bin .gtr (.t 3) (.k (.int .u8 32))⟩,
      ⟨some 5, none, .mv (.t 4)⟩,
      ⟨some 6, some (5, true), .mv (.t 0)⟩,
      ⟨some 7, some (5, true), .bin .lss (.t 6) (.k (.int .u8 127))⟩,
      ⟨some 8, none, .pick (.t 5) (.t 7) (.k (.bool false))⟩,
      ⟨some 9, none, .mv (.t 8)⟩,
      ⟨some 10, some (9, true), .mv (.t 0)⟩,
      ⟨some 11, some (9, true), .bin .neq (.t 10) (.k (.int .u8 35))⟩,
      ⟨some 12, none, .pick (.t 9) (.t 11) (.k (.bool false))⟩,
      ⟨some 2, none, .mv (.t 12)⟩] false)
    .ret))
-- keep: 1: [2] · 0: [0]
theorem i22_eq : IC.of Try.prog 13 (Try.f22.body.getD .skip) = i22 := by kernel_rfl
theorem fn22 {args : List AV} {Q : AV → List (Nat × Row) → Prop} (hl : args.length ≤ 13) (h : ∀ Γ : Ctx, Γ.P = Try.prog → Γ.n = 13 → (∀ b, ¬ Γ.X b) → (Γ.g = false ∧ ∀ r, Γ.pin r = none) → AWI Γ i22 (Fin Γ [2] Q) ⟨envOf 0 args, []⟩) : Ctr Try.prog 22 args Q :=
  Ctr.of_body Try.func22 Try.ntmps22 (by kernel_rfl) (by kernel_rfl) i22_eq (by kernel_rfl) hl h

/-- (*strings.Builder).WriteByte -/
def i23 : IC :=
  (.seq
   (.region 0 [⟨some 4, none, .mv (.k .nilIface)⟩] false)
   (.seq
    (.region 1 [⟨some 5, none, .mv (.t 0)⟩,
      ⟨some 6, none, .call 30 [(.t 5)]⟩] false)
    (.seq
     (.region 2 [⟨some 7, none, .mv (.t 0)⟩,
       ⟨some 8, none, .mv (.t 0)⟩,
       ⟨some 9, none, .nilck (.t 8)⟩,
       ⟨some 10, none, .fad 1 (.t 9)⟩,
       ⟨some 11, none, .load false 1 (.t 10)⟩,
       ⟨some 12, none, .mv (.t 1)⟩,
       ⟨some 13, none, .bslice 5 1 1 [(.int .u8 0)] [(0, (.t 12))]⟩,
       ⟨some 14, none, .app 5 1 1 [(.int .u8 0)] (.t 11) (.t 13)⟩,
       ⟨some 15, none, .nilck (.t 7)⟩,
       ⟨some 16, none, .fad 1 (.t 15)⟩,
       ⟨none, none, .store 1 (.t 16) (.t 14)⟩] false)
     (.seq
      (.region 3 [⟨some 4, none, .mv (.k .nilIface)⟩] false)
      .ret))))
-- keep: 3: [4] · 2: [] · 1: [0, 1] · 0: [0, 1]
theorem i23_eq : IC.of Try.prog 17 (Try.f23.body.getD .skip) = i23 := by kernel_rfl
theorem fn23 {args : List AV} {Q : AV → List (Nat × Row) → Prop} (hl : args.length ≤ 17) (h : ∀ Γ : Ctx, Γ.P = Try.prog → Γ.n = 17 → (∀ b, ¬ Γ.X b) → (Γ.g = false ∧ ∀ r, Γ.pin r = none) → AWI Γ i23 (Fin Γ [4] Q) ⟨envOf 0 args, []⟩) : Ctr Try.prog 23 args Q :=
  Ctr.of_body Try.func23 Try.ntmps23 (by kernel_rfl) (by kernel_rfl) i23_eq (by kernel_rfl) hl h
theorem fm23 {args : List AV} {rs : List (Nat × Row)} {Q : AV → List (Nat × Row) → Prop} (hl : args.length ≤ 17) (h : ∀ Γ : Ctx, Γ.P = Try.prog → Γ.n = 17 → Γ.g = false → AWI Γ i23 (Fin Γ [4] Q) ⟨envOf 0 args, rs⟩) : CtrM Try.prog 23 args rs Q :=
  CtrM.of_body Try.func23 Try.ntmps23 (by kernel_rfl) (by kernel_rfl) i23_eq (by kernel_rfl) hl h

/-- (*strings.Builder).WriteString -/
def i24 : IC :=
  (.seq
   (.region 0 [⟨some 4, none, .mv (.k (.int .i64 0))⟩,
     ⟨some 5, none, .mv (.k .nilIface)⟩] false)
   (.seq
    (.region 1 [⟨some 6, none, .mv (.t 0)⟩,
      ⟨some 7, none, .call 30 [(.t 6)]⟩] false)
    (.seq
     (.region 2 [⟨some 8, none, .mv (.t 0)⟩,
       ⟨some 9, none, .mv (.t 0)⟩,
       ⟨some 10, none, .nilck (.t 9)⟩,
       ⟨some 11, none, .fad 1 (.t 10)⟩,
       ⟨some 12, none, .load false 1 (.t 11)⟩,
       ⟨some 13, none, .mv (.t 1)⟩,
       ⟨some 14, none, .app 5 1 1 [(.int .u8 0)] (.t 12) (.t 13)⟩,
       ⟨some 15, none, .nilck (.t 8)⟩,
       ⟨some 16, none, .fad 1 (.t 15)⟩,
       ⟨none, none, .store 1 (.t 16) (.t 14)⟩] false)
     (.seq
      (.region 3 [⟨some 17, none, .mv (.t 1)⟩,
        ⟨some 18, none, .len true (.t 17)⟩,
        ⟨some 4, none, .mv (.t 18)⟩,
        ⟨some 5, none, .mv (.k .nilIface)⟩] false)
      .ret))))
-- keep: 3: [4, 5] · 2: [1] · 1: [0, 1] · 0: [0, 1]
theorem i24_eq : IC.of Try.prog 19 (Try.f24.body.getD .skip) = i24 := by kernel_rfl
theorem fn24 {args : List AV} {Q : AV → List (Nat × Row) → Prop} (hl : args.length ≤ 19) (h : ∀ Γ : Ctx, Γ.P = Try.prog → Γ.n = 19 → (∀ b, ¬ Γ.X b) → (Γ.g = false ∧ ∀ r, Γ.pin r = none) → AWI Γ i24 (Fin Γ [4, 5] Q) ⟨envOf 0 args, []⟩) : Ctr Try.prog 24 args Q :=
  Ctr.of_body Try.func24 Try.ntmps24 (by kernel_rfl) (by kernel_rfl) i24_eq (by kernel_rfl) hl h
theorem fm24 {args : List AV} {rs : List (Nat × Row)} {Q : AV → List (Nat × Row) → Prop} (hl : args.length ≤ 19) (h : ∀ Γ : Ctx, Γ.P = Try.prog → Γ.n = 19 → Γ.g = false → AWI Γ i24 (Fin Γ [4, 5] Q) ⟨envOf 0 args, rs⟩) : CtrM Try.prog 24 args rs Q :=
  CtrM.of_body Try.func24 Try.ntmps24 (by kernel_rfl) (by kernel_rfl) i24_eq (by kernel_rfl) hl h

/-- internal/stringslite.Cut -/
def i26 : IC :=
  (.seq
   (.region 0 [⟨some 4, none, .mv (.k (.string ⟨#[]⟩))⟩,
     ⟨some 5, none, .mv (.k (.string ⟨#[]⟩))⟩,
     ⟨some 6, none, .mv (.k (.bool false))⟩] false)
   (.seq
    (.seq
     (.region 1 [⟨some 8, none, .mv (.t 0)⟩,
       ⟨some 9, none, .mv (.t 1)⟩,
       ⟨some 10, none, .call 31 [(.t 8), (.t 9)]⟩,
       ⟨some 7, none, .mv (.t 10)⟩] false)
     (.seq
      (.region 2 [⟨some 11, none, .mv (.t 7)⟩,
        ⟨some 12, none, .bin .geq (.t 11) (.k (.int .i64 0))⟩] false)
      (.cond (.t 12)
       (.seq
        (.draw 3 [⟨⟨some 13, none, .mv (.t 0)⟩, [], [0], true, true, true, true⟩,
          ⟨⟨some 14, none, .mv (.t 7)⟩, [], [7], true, true, true, true⟩,
          ⟨⟨some 15, none, .slcS (.t 13) none (some (.t 14))⟩, [0, 1], [13, 14], true, false, true, true⟩,
          ⟨⟨some 16, none, .mv (.t 0)⟩, [], [0], true, true, true, true⟩,
          ⟨⟨some 17, none, .mv (.t 7)⟩, [], [7], true, true, true, true⟩,
          ⟨⟨some 18, none, .mv (.t 1)⟩, [], [1], true, true, true, true⟩,
          ⟨⟨some 19, none, .len true (.t 18)⟩, [5], [18], true, false, true, true⟩,
          ⟨⟨some 20, none, .bin .add (.t 17) (.t 19)⟩, [4, 6], [17, 19], true, false, true, true⟩,
          ⟨⟨some 21, none, .slcS (.t 16) (some (.t 20)) none⟩, [3, 7], [16, 20], true, false, true, true⟩,
          ⟨⟨some 4, none, .mv (.t 15)⟩, [2, 0, 1, 2], [15], true, true, true, true⟩,
          ⟨⟨some 5, none, .mv (.t 21)⟩, [8, 9, 0, 1, 2, 3, 4, 5, 6, 7, 8, 9], [21], true, true, true, true⟩,
          ⟨⟨some 6, none, .mv (.k (.bool true))⟩, [10, 0, 1, 2, 3, 4, 5, 6, 7, 8, 9, 10], [], true, true, true, true⟩])
        .ret)
       .skip)))
    (.seq
     (.region 4 [⟨some 22, none, .mv (.t 0)⟩,
       ⟨some 4, none, .mv (.t 22)⟩,
       ⟨some 5, none, .mv (.k (.string ⟨#[]⟩))⟩,
       ⟨some 6, none, .mv (.k (.bool false))⟩] false)
     .ret)))
-- draw 3: [(0, ⟨some 13, none, .mv (.t 0)⟩, .mv), (1, ⟨some 14, none, .mv (.t 7)⟩, .mv), (2, ⟨some 15, none, .slcS (.t 13) none (some (.t 14))⟩, .cc), (3, ⟨some 16, none, .mv (.t 0)⟩, .mv), (4, ⟨some 17, none, .mv (.t 7)⟩, .mv), (5, ⟨some 18, none, .mv (.t 1)⟩, .mv), (6, ⟨some 19, none, .len true (.t 18)⟩, .cc), (7, ⟨some 20, none, .bin .add (.t 17) (.t 19)⟩, .cc), (8, ⟨some 21, none, .slcS (.t 16) (some (.t 20)) none⟩, .cc), (9, ⟨some 4, none, .mv (.t 15)⟩, .mv), (10, ⟨some 5, none, .mv (.t 21)⟩, .mv), (11, ⟨some 6, none, .mv (.k (.bool true))⟩, .mv)] []
-- keep: 4: [4, 5, 6] · 3: [4, 5, 6] · 2: [0, 1, 7, 12] · 1: [0, 1, 7] · 0: [0, 1]
theorem i26_eq : IC.of Try.prog 23 (Try.f26.body.getD .skip) = i26 := by kernel_rfl
theorem fn26 {args : List AV} {Q : AV → List (Nat × Row) → Prop} (hl : args.length ≤ 23) (h : ∀ Γ : Ctx, Γ.P = Try.prog → Γ.n = 23 → (∀ b, ¬ Γ.X b) → (Γ.g = false ∧ ∀ r, Γ.pin r = none) → AWI Γ i26 (Fin Γ [4, 5, 6] Q) ⟨envOf 0 args, []⟩) : Ctr Try.prog 26 args Q :=
  Ctr.of_body Try.func26 Try.ntmps26 (by kernel_rfl) (by kernel_rfl) i26_eq (by kernel_rfl) hl h

/-- tallage/lex.words$1 -/
def i27 : IC :=
  (.seq
   (.region 0 [⟨some 4, none, .mv (.k (.int .i64 0))⟩] false)
   (.seq
    (.region 1 [⟨some 5, none, .load false 1 (.t 1)⟩,
      ⟨some 6, none, .load false 1 (.t 2)⟩,
      ⟨some 7, none, .mv (.t 0)⟩,
      ⟨some 8, none, .call 21 [(.t 5), (.t 6), (.t 7)]⟩,
      ⟨some 4, none, .mv (.t 8)⟩] false)
    .ret))
-- keep: 1: [4] · 0: [0, 1, 2]
theorem i27_eq : IC.of Try.prog 9 (Try.f27.body.getD .skip) = i27 := by kernel_rfl
theorem fn27 {args : List AV} {Q : AV → List (Nat × Row) → Prop} (hl : args.length ≤ 9) (h : ∀ Γ : Ctx, Γ.P = Try.prog → Γ.n = 9 → (∀ b, ¬ Γ.X b) → (Γ.g = false ∧ ∀ r, Γ.pin r = none) → AWI Γ i27 (Fin Γ [4] Q) ⟨envOf 0 args, []⟩) : Ctr Try.prog 27 args Q :=
  Ctr.of_body Try.func27 Try.ntmps27 (by kernel_rfl) (by kernel_rfl) i27_eq (by kernel_rfl) hl h

/-- strings.Clone -/
def i28 : IC :=
  (.seq
   (.region 0 [⟨some 2, none, .mv (.k (.string ⟨#[]⟩))⟩] false)
   (.seq
    (.region 1 [⟨some 3, none, .mv (.t 0)⟩,
      ⟨some 4, none, .call 32 [(.t 3)]⟩,
      ⟨some 2, none, .mv (.t 4)⟩] false)
    .ret))
-- keep: 1: [2] · 0: [0]
theorem i28_eq : IC.of Try.prog 5 (Try.f28.body.getD .skip) = i28 := by kernel_rfl
theorem fn28 {args : List AV} {Q : AV → List (Nat × Row) → Prop} (hl : args.length ≤ 5) (h : ∀ Γ : Ctx, Γ.P = Try.prog → Γ.n = 5 → (∀ b, ¬ Γ.X b) → (Γ.g = false ∧ ∀ r, Γ.pin r = none) → AWI Γ i28 (Fin Γ [2] Q) ⟨envOf 0 args, []⟩) : Ctr Try.prog 28 args Q :=
  Ctr.of_body Try.func28 Try.ntmps28 (by kernel_rfl) (by kernel_rfl) i28_eq (by kernel_rfl) hl h

/-- tallage/lex.blank -/
def i29 : IC :=
  (.seq
   (.region 0 [⟨some 2, none, .mv (.k (.bool false))⟩] false)
   (.seq
    (.region 1 [⟨some 3, none, .mv (.t 0)⟩,
      ⟨some 4, none, .bin .eql (.t 3) (.k (.int .u8 32))⟩,
      ⟨some 5, none, .mv (.t 4)⟩,
      ⟨some 6, some (5, false), .mv (.t 0)⟩,
      ⟨some 7, some (5, false), .bin .eql (.t 6) (.k (.int .u8 9))⟩,
      ⟨some 8, none, .pick (.t 5) (.k (.bool true)) (.t 7)⟩,
      ⟨some 2, none, .mv (.t 8)⟩] false)
    .ret))
-- keep: 1: [2] · 0: [0]
theorem i29_eq : IC.of Try.prog 9 (Try.f29.body.getD .skip) = i29 := by kernel_rfl
theorem fn29 {args : List AV} {Q : AV → List (Nat × Row) → Prop} (hl : args.length ≤ 9) (h : ∀ Γ : Ctx, Γ.P = Try.prog → Γ.n = 9 → (∀ b, ¬ Γ.X b) → (Γ.g = false ∧ ∀ r, Γ.pin r = none) → AWI Γ i29 (Fin Γ [2] Q) ⟨envOf 0 args, []⟩) : Ctr Try.prog 29 args Q :=
  Ctr.of_body Try.func29 Try.ntmps29 (by kernel_rfl) (by kernel_rfl) i29_eq (by kernel_rfl) hl h

end Go.Proofs.Ytnealepilmobjaa
