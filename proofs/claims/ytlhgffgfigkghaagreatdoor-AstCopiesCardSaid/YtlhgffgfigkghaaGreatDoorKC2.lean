/- The code of the functions that are walked through, and that it is the program's. -/
import Derived.KernelRfl
import Derived.WalkKit
import Derived.Orders
import Derived.Test.YtlhgffgfigkghaaGreatDoorKB7
import Derived.Test.YtlhgffgfigkghaaGreatDoorKC1
set_option linter.unusedVariables false
set_option maxRecDepth 100000
namespace Go.Proofs.YtlhgffgfigkghaaGreatDoor
open Go.CE Go.RowKit
abbrev iq (d : Nat) (o : Ins) : I := ⟨some d, none, o⟩
theorem FOk.mk1 {P : Program} {f : Nat} {fn : Func} {e : FE} (hf : P.funcs[f]? = some fn) (hn : fn.ntmps = e.n) (hb : fn.body.isSome = true) (hname : (fn.name != "runtime.NumGoroutine") = true)
    (hic : IC.of P e.n (fn.body.getD .skip) = e.x.ic) (hr : fn.results.toList.map (RR.of P) = e.ts.map some) (hok : e.x.ok = true) : FOk P f e := by
  obtain ⟨c, hc⟩ := Option.isSome_iff_exists.1 hb
  exact ⟨fn, c, hf, hn, hc, hname, by rw [hc] at hic; exact hic, hr, hok⟩
theorem all_c1 {P : Program} {f : Nat} {e : FE} {l : List (Nat × FE)} (h : FOk P f e) (g : ∀ p, p ∈ l → FOk P p.1 p.2) : ∀ p, p ∈ (f, e) :: l → FOk P p.1 p.2 := by
  intro p hp
  rcases List.mem_cons.1 hp with rfl | hp
  · exact h
  · exact g p hp
def y3 : XC := (.seq (.region [iq 1 (.box 32 (.t 0)), iq 2 (.mv (.k (.bool false)))])
 (.seq (.seq (.region [iq 7 (.load true 25 (.t 1)), iq 8 (.call 6 [(.t 7)]), iq 9 (.un .not (.t 8))])
 (.cond (.t 9) (.seq (.region [iq 10 (.call 7 []), iq 2 (.mv (.t 10))])
 .ret)
 .skip))
 (.seq (.region [iq 11 (.load true 25 (.t 1)), iq 12 (.call 8 [(.t 11)]), iq 3 (.alloc 42 [(.string ⟨#[]⟩), (.string ⟨#[]⟩), (.slice none 0 0), (.bool false), (.slice none 0 0), (.bool false), (.slice none 0 0), (.bool false), (.slice none 0 0), (.bool false), (.slice none 0 0), (.int .i64 0), (.int .i64 0), (.bool false), (.slice none 0 0), (.bool false), (.slice none 0 0), (.bool false), (.slice none 0 0), (.bool false), (.slice none 0 0), (.int .i64 0), (.slice none 0 0), (.slice none 0 0), (.slice none 0 0)]), ⟨none, none, .store 25 (.t 3) (.t 12)⟩])
 (.seq (.region [iq 13 (.load true 25 (.t 1)), iq 14 (.call 9 [(.t 13)]), iq 4 (.alloc 32 [(.string ⟨#[]⟩), (.string ⟨#[]⟩), (.slice none 0 0), (.bool false), (.slice none 0 0), (.bool false), (.slice none 0 0), (.bool false), (.slice none 0 0), (.bool false), (.slice none 0 0), (.int .i64 0), (.int .i64 0), (.bool false), (.slice none 0 0), (.bool false), (.slice none 0 0), (.bool false), (.slice none 0 0), (.bool false), (.slice none 0 0), (.int .i64 0), (.slice none 0 0), (.slice none 0 0), (.slice none 0 0)]), ⟨none, none, .store 25 (.t 4) (.t 14)⟩])
 (.seq (.region [iq 15 (.load true 25 (.t 4)), iq 16 (.call 9 [(.t 15)]), iq 5 (.alloc 32 [(.string ⟨#[]⟩), (.string ⟨#[]⟩), (.slice none 0 0), (.bool false), (.slice none 0 0), (.bool false), (.slice none 0 0), (.bool false), (.slice none 0 0), (.bool false), (.slice none 0 0), (.int .i64 0), (.int .i64 0), (.bool false), (.slice none 0 0), (.bool false), (.slice none 0 0), (.bool false), (.slice none 0 0), (.bool false), (.slice none 0 0), (.int .i64 0), (.slice none 0 0), (.slice none 0 0), (.slice none 0 0)]), ⟨none, none, .store 25 (.t 5) (.t 16)⟩])
 (.seq (.seq (.draw [⟨iq 17 (.load true 25 (.t 4)), []⟩, ⟨iq 18 (.call 8 [(.t 17)]), [0]⟩, ⟨iq 19 (.load true 25 (.t 3)), []⟩, ⟨iq 20 (.call 10 [(.t 18), (.t 19)]), [1, 2, 1]⟩, ⟨iq 21 (.un .not (.t 20)), [3]⟩, ⟨iq 22 (.mv (.t 21)), [4, 3]⟩, ⟨⟨some 23, some (22, false), .load true 25 (.t 5)⟩, [5]⟩, ⟨⟨some 24, some (22, false), .call 8 [(.t 23)]⟩, [6, 5, 5]⟩, ⟨⟨some 25, some (22, false), .load true 25 (.t 3)⟩, [5]⟩, ⟨⟨some 26, some (22, false), .call 10 [(.t 24), (.t 25)]⟩, [7, 8, 7, 5]⟩, ⟨⟨some 27, some (22, false), .un .not (.t 26)⟩, [9, 5]⟩, ⟨iq 28 (.pick (.t 22) (.k (.bool true)) (.t 27)), [5, 10]⟩] [0, 1, 0, 7, 15, 31, 63, 127, 63, 511, 1023, 2047])
 (.cond (.t 28) (.seq (.region [iq 2 (.mv (.k (.bool false)))])
 .ret)
 .skip))
 (.seq (.region [iq 29 (.load true 25 (.t 4)), iq 30 (.call 11 [(.t 29)])])
 (.seq (.seq (.draw [⟨iq 31 (.load true 25 (.t 1)), []⟩, ⟨iq 32 (.call 8 [(.t 31)]), [0]⟩, ⟨iq 33 (.load true 25 (.t 3)), []⟩, ⟨iq 34 (.call 10 [(.t 32), (.t 33)]), [1, 2, 1]⟩, ⟨iq 35 (.un .not (.t 34)), [3]⟩, ⟨iq 36 (.mv (.t 35)), [4, 3]⟩, ⟨⟨some 37, some (36, false), .load true 25 (.t 5)⟩, [5]⟩, ⟨⟨some 38, some (36, false), .call 8 [(.t 37)]⟩, [6, 5, 5]⟩, ⟨⟨some 39, some (36, false), .load true 25 (.t 3)⟩, [5]⟩, ⟨⟨some 40, some (36, false), .call 10 [(.t 38), (.t 39)]⟩, [7, 8, 7, 5]⟩, ⟨⟨some 41, some (36, false), .un .not (.t 40)⟩, [9, 5]⟩, ⟨iq 42 (.pick (.t 36) (.k (.bool true)) (.t 41)), [5, 10]⟩] [0, 1, 0, 7, 15, 31, 63, 127, 63, 511, 1023, 2047])
 (.cond (.t 42) (.seq (.region [iq 2 (.mv (.k (.bool false)))])
 .ret)
 .skip))
 (.seq (.region [iq 43 (.load true 25 (.t 5)), iq 44 (.call 9 [(.t 43)]), iq 6 (.alloc 32 [(.string ⟨#[]⟩), (.string ⟨#[]⟩), (.slice none 0 0), (.bool false), (.slice none 0 0), (.bool false), (.slice none 0 0), (.bool false), (.slice none 0 0), (.bool false), (.slice none 0 0), (.int .i64 0), (.int .i64 0), (.bool false), (.slice none 0 0), (.bool false), (.slice none 0 0), (.bool false), (.slice none 0 0), (.bool false), (.slice none 0 0), (.int .i64 0), (.slice none 0 0), (.slice none 0 0), (.slice none 0 0)]), ⟨none, none, .store 25 (.t 6) (.t 44)⟩])
 (.seq (.region [iq 45 (.load true 25 (.t 5)), iq 46 (.call 11 [(.t 45)])])
 (.seq (.draw [⟨iq 47 (.load true 25 (.t 6)), []⟩, ⟨iq 48 (.call 8 [(.t 47)]), [0]⟩, ⟨iq 49 (.load true 25 (.t 3)), []⟩, ⟨iq 50 (.call 10 [(.t 48), (.t 49)]), [1, 2, 1]⟩, ⟨iq 51 (.mv (.t 50)), [3, 3]⟩, ⟨⟨some 52, some (51, true), .call 7 []⟩, [4, 4]⟩, ⟨iq 53 (.pick (.t 51) (.t 52) (.k (.bool false))), [4, 5]⟩, ⟨iq 2 (.mv (.t 53)), [6, 5, 0, 1, 2, 3, 4, 5, 6]⟩] [0, 1, 0, 7, 15, 31, 63, 127])
 .ret)))))))))))
def ge3 : FE := ⟨54, y3, [.t 2]⟩
theorem oks3 : FOk Tryz.prog 3 ge3 := FOk.mk1 Tryz.func3 rfl rfl rfl (by kernel_rfl) (by kernel_rfl) (by kernel_rfl)
def y6 : XC := (.seq (.region [iq 1 (.box 32 (.t 0)), iq 2 (.mv (.k (.bool false)))])
 (.seq (.seq (.region [iq 5 (.fad 2 (.t 1)), iq 6 (.load false 1 (.t 5)), iq 7 (.len false (.t 6)), iq 8 (.bin .gtr (.t 7) (.k (.int .i64 20))), iq 9 (.mv (.t 8)), ⟨some 10, some (9, false), .fad 22 (.t 1)⟩, ⟨some 11, some (9, false), .load false 1 (.t 10)⟩, ⟨some 12, some (9, false), .len false (.t 11)⟩, ⟨some 13, some (9, false), .bin .gtr (.t 12) (.k (.int .i64 70))⟩, iq 14 (.pick (.t 9) (.k (.bool true)) (.t 13)), iq 15 (.mv (.t 14)), ⟨some 16, some (15, false), .fad 23 (.t 1)⟩, ⟨some 17, some (15, false), .load false 1 (.t 16)⟩, ⟨some 18, some (15, false), .len false (.t 17)⟩, ⟨some 19, some (15, false), .bin .gtr (.t 18) (.k (.int .i64 260))⟩, iq 20 (.pick (.t 15) (.k (.bool true)) (.t 19)), iq 21 (.mv (.t 20)), ⟨some 22, some (21, false), .fad 24 (.t 1)⟩, ⟨some 23, some (21, false), .load false 1 (.t 22)⟩, ⟨some 24, some (21, false), .len false (.t 23)⟩, ⟨some 25, some (21, false), .bin .gtr (.t 24) (.k (.int .i64 45))⟩, iq 26 (.pick (.t 21) (.k (.bool true)) (.t 25))])
 (.cond (.t 26) (.seq (.region [iq 2 (.mv (.k (.bool false)))])
 .ret)
 .skip))
 (.seq (.seq (.region [iq 3 (.mv (.k (.int .i64 0)))])
 (.block 0 (.loop (.seq (.seq (.region [iq 27 (.mv (.t 3)), iq 28 (.fad 24 (.t 1)), iq 29 (.load false 1 (.t 28)), iq 30 (.len false (.t 29)), iq 31 (.bin .lss (.t 27) (.t 30))])
 (.cond (.t 31) .skip
 (.exit 0)))
 (.seq (.block 1 (.seq (.region [iq 34 (.fad 24 (.t 1)), iq 35 (.load false 1 (.t 34)), iq 36 (.mv (.t 3)), iq 37 (.iad 6 (.t 35) (.t 36)), iq 38 (.load true 6 (.t 37)), iq 4 (.alloc 55 [(.int .i64 0), (.slice none 0 0), (.slice none 0 0), (.slice none 0 0), (.slice none 0 0), (.slice none 0 0)]), ⟨none, none, .store 6 (.t 4) (.t 38)⟩])
 (.seq (.region [iq 39 (.fad 1 (.t 4)), iq 40 (.load false 1 (.t 39)), iq 41 (.len false (.t 40)), iq 42 (.bin .gtr (.t 41) (.k (.int .i64 40))), iq 43 (.mv (.t 42)), ⟨some 44, some (43, false), .fad 2 (.t 4)⟩, ⟨some 45, some (43, false), .load false 1 (.t 44)⟩, ⟨some 46, some (43, false), .len false (.t 45)⟩, ⟨some 47, some (43, false), .bin .gtr (.t 46) (.k (.int .i64 40))⟩, iq 48 (.pick (.t 43) (.k (.bool true)) (.t 47)), iq 49 (.mv (.t 48)), ⟨some 50, some (49, false), .fad 3 (.t 4)⟩, ⟨some 51, some (49, false), .load false 1 (.t 50)⟩, ⟨some 52, some (49, false), .len false (.t 51)⟩, ⟨some 53, some (49, false), .bin .gtr (.t 52) (.k (.int .i64 40))⟩, iq 54 (.pick (.t 49) (.k (.bool true)) (.t 53)), iq 55 (.mv (.t 54)), ⟨some 56, some (55, false), .fad 4 (.t 4)⟩, ⟨some 57, some (55, false), .load false 1 (.t 56)⟩, ⟨some 58, some (55, false), .len false (.t 57)⟩, ⟨some 59, some (55, false), .bin .gtr (.t 58) (.k (.int .i64 40))⟩, iq 60 (.pick (.t 55) (.k (.bool true)) (.t 59)), iq 61 (.mv (.t 60)), ⟨some 62, some (61, false), .fad 5 (.t 4)⟩, ⟨some 63, some (61, false), .load false 1 (.t 62)⟩, ⟨some 64, some (61, false), .len false (.t 63)⟩, ⟨some 65, some (61, false), .bin .gtr (.t 64) (.k (.int .i64 40))⟩, iq 66 (.pick (.t 61) (.k (.bool true)) (.t 65))])
 (.cond (.t 66) (.seq (.region [iq 2 (.mv (.k (.bool false)))])
 .ret)
 .skip))))
 (.region [iq 32 (.mv (.t 3)), iq 33 (.bin .add (.t 32) (.k (.int .i64 1))), iq 3 (.mv (.t 33))]))))))
 (.seq (.region [iq 67 (.load true 25 (.t 1)), iq 68 (.call 17 [(.t 67)]), iq 69 (.call 16 [(.t 68)]), iq 70 (.mv (.t 69)), ⟨some 71, some (70, true), .load true 25 (.t 1)⟩, ⟨some 72, some (70, true), .call 19 [(.t 71)]⟩, ⟨some 73, some (70, true), .call 18 [(.t 72)]⟩, iq 74 (.pick (.t 70) (.t 73) (.k (.bool false))), iq 2 (.mv (.t 74))])
 .ret))))
def ge6 : FE := ⟨75, y6, [.t 2]⟩
theorem oks6 : FOk Tryz.prog 6 ge6 := FOk.mk1 Tryz.func6 rfl rfl rfl (by kernel_rfl) (by kernel_rfl) (by kernel_rfl)
def y8 : XC := (.seq (.region [iq 1 (.box 32 (.t 0)), iq 2 (.alloc 42 [(.string ⟨#[]⟩), (.string ⟨#[]⟩), (.slice none 0 0), (.bool false), (.slice none 0 0), (.bool false), (.slice none 0 0), (.bool false), (.slice none 0 0), (.bool false), (.slice none 0 0), (.int .i64 0), (.int .i64 0), (.bool false), (.slice none 0 0), (.bool false), (.slice none 0 0), (.bool false), (.slice none 0 0), (.bool false), (.slice none 0 0), (.int .i64 0), (.slice none 0 0), (.slice none 0 0), (.slice none 0 0)])])
 (.seq (.draw [⟨iq 8 (.fad 0 (.t 1)), []⟩, ⟨iq 9 (.load false 1 (.t 8)), [0]⟩, ⟨iq 10 (.fad 1 (.t 1)), []⟩, ⟨iq 11 (.load false 1 (.t 10)), [2]⟩, ⟨iq 12 (.fad 3 (.t 1)), []⟩, ⟨iq 13 (.load true 4 (.t 12)), [4]⟩, ⟨iq 14 (.call 26 [(.t 13)]), [5]⟩, ⟨iq 15 (.fad 7 (.t 1)), []⟩, ⟨iq 16 (.load true 4 (.t 15)), [7]⟩, ⟨iq 17 (.call 26 [(.t 16)]), [8, 6]⟩, ⟨iq 18 (.fad 11 (.t 1)), []⟩, ⟨iq 19 (.load false 1 (.t 18)), [10]⟩, ⟨iq 20 (.fad 12 (.t 1)), []⟩, ⟨iq 21 (.load false 1 (.t 20)), [12]⟩, ⟨iq 22 (.fad 13 (.t 1)), []⟩, ⟨iq 23 (.load true 4 (.t 22)), [14]⟩, ⟨iq 24 (.call 26 [(.t 23)]), [15, 9]⟩, ⟨iq 25 (.fad 17 (.t 1)), []⟩, ⟨iq 26 (.load true 4 (.t 25)), [17]⟩, ⟨iq 27 (.call 26 [(.t 26)]), [18, 16]⟩, ⟨iq 28 (.fad 21 (.t 1)), []⟩, ⟨iq 29 (.load false 1 (.t 28)), [20]⟩, ⟨iq 30 (.build [(.string ⟨#[]⟩), (.string ⟨#[]⟩), (.slice none 0 0), (.bool false), (.slice none 0 0), (.bool false), (.slice none 0 0), (.bool false), (.slice none 0 0), (.bool false), (.slice none 0 0), (.int .i64 0), (.int .i64 0), (.bool false), (.slice none 0 0), (.bool false), (.slice none 0 0), (.bool false), (.slice none 0 0), (.bool false), (.slice none 0 0), (.int .i64 0), (.slice none 0 0), (.slice none 0 0), (.slice none 0 0)] [(0, 1, (.t 9)), (1, 1, (.t 11)), (3, 4, (.t 14)), (7, 4, (.t 17)), (11, 1, (.t 19)), (12, 1, (.t 21)), (13, 4, (.t 24)), (17, 4, (.t 27)), (21, 1, (.t 29))]), [1, 3, 6, 9, 11, 13, 16, 19, 21]⟩, ⟨iq 3 (.alloc 42 [(.string ⟨#[]⟩), (.string ⟨#[]⟩), (.slice none 0 0), (.bool false), (.slice none 0 0), (.bool false), (.slice none 0 0), (.bool false), (.slice none 0 0), (.bool false), (.slice none 0 0), (.int .i64 0), (.int .i64 0), (.bool false), (.slice none 0 0), (.bool false), (.slice none 0 0), (.bool false), (.slice none 0 0), (.bool false), (.slice none 0 0), (.int .i64 0), (.slice none 0 0), (.slice none 0 0), (.slice none 0 0)]), []⟩, ⟨⟨none, none, .store 25 (.t 3) (.t 30)⟩, [23, 22, 19, 0, 1, 2, 3, 4, 5, 6, 7, 8, 9, 10, 11, 12, 13, 14, 15, 16, 17, 18, 19, 20, 21, 22, 23]⟩] [0, 1, 0, 4, 0, 16, 48, 0, 128, 496, 0, 1024, 0, 4096, 0, 16384, 50160, 0, 131072, 508912, 0, 1048576, 4194303, 0, 16777215])
 (.seq (.region [iq 31 (.fad 23 (.t 3)), iq 32 (.load false 1 (.t 31)), iq 33 (.fad 23 (.t 1)), iq 34 (.load false 1 (.t 33)), iq 35 (.app 9 1 16 [(.string ⟨#[]⟩)] (.t 32) (.t 34)), iq 36 (.fad 23 (.t 3)), ⟨none, none, .store 1 (.t 36) (.t 35)⟩])
 (.seq (.seq (.region [iq 4 (.mv (.k (.int .i64 0)))])
 (.block 0 (.loop (.seq (.seq (.region [iq 37 (.mv (.t 4)), iq 38 (.fad 2 (.t 1)), iq 39 (.load false 1 (.t 38)), iq 40 (.len false (.t 39)), iq 41 (.bin .lss (.t 37) (.t 40))])
 (.cond (.t 41) .skip
 (.exit 0)))
 (.seq (.block 1 (.draw [⟨iq 44 (.fad 2 (.t 3)), []⟩, ⟨iq 45 (.load false 1 (.t 44)), [0]⟩, ⟨iq 46 (.fad 2 (.t 1)), []⟩, ⟨iq 47 (.load false 1 (.t 46)), [2]⟩, ⟨iq 48 (.mv (.t 4)), []⟩, ⟨iq 49 (.iad 8 (.t 47) (.t 48)), [3, 4]⟩, ⟨iq 50 (.fad 0 (.t 49)), [5]⟩, ⟨iq 51 (.load true 4 (.t 50)), [6]⟩, ⟨iq 52 (.call 26 [(.t 51)]), [7]⟩, ⟨iq 53 (.fad 2 (.t 1)), []⟩, ⟨iq 54 (.load false 1 (.t 53)), [9]⟩, ⟨iq 55 (.mv (.t 4)), []⟩, ⟨iq 56 (.iad 8 (.t 54) (.t 55)), [10, 11]⟩, ⟨iq 57 (.fad 4 (.t 56)), [12]⟩, ⟨iq 58 (.load true 4 (.t 57)), [13]⟩, ⟨iq 59 (.call 26 [(.t 58)]), [14, 8]⟩, ⟨iq 60 (.build [(.bool false), (.slice none 0 0), (.bool false), (.slice none 0 0), (.bool false), (.slice none 0 0), (.bool false), (.slice none 0 0)] [(0, 4, (.t 52)), (4, 4, (.t 59))]), [8, 15]⟩, ⟨iq 61 (.bslice 74 8 1 [(.bool false), (.slice none 0 0), (.bool false), (.slice none 0 0), (.bool false), (.slice none 0 0), (.bool false), (.slice none 0 0)] [(0, (.t 60))]), [16]⟩, ⟨iq 62 (.app 74 8 128 [(.bool false), (.slice none 0 0), (.bool false), (.slice none 0 0), (.bool false), (.slice none 0 0), (.bool false), (.slice none 0 0)] (.t 45) (.t 61)), [1, 17, 15]⟩, ⟨iq 63 (.fad 2 (.t 3)), [0, 1, 2, 3, 4, 5, 6, 7, 8, 9, 10, 11, 12, 13, 14, 15, 16, 17, 18]⟩, ⟨⟨none, none, .store 1 (.t 63) (.t 62)⟩, [19, 18, 18, 0, 1, 2, 3, 4, 5, 6, 7, 8, 9, 10, 11, 12, 13, 14, 15, 16, 17, 18]⟩] [0, 1, 0, 4, 0, 28, 60, 124, 252, 0, 512, 0, 3584, 7680, 15872, 32764, 65532, 131068, 262143, 524287, 1048575]))
 (.region [iq 42 (.mv (.t 4)), iq 43 (.bin .add (.t 42) (.k (.int .i64 1))), iq 4 (.mv (.t 43))]))))))
 (.seq (.seq (.region [iq 5 (.mv (.k (.int .i64 0)))])
 (.block 2 (.loop (.seq (.seq (.region [iq 64 (.mv (.t 5)), iq 65 (.fad 22 (.t 1)), iq 66 (.load false 1 (.t 65)), iq 67 (.len false (.t 66)), iq 68 (.bin .lss (.t 64) (.t 67))])
 (.cond (.t 68) .skip
 (.exit 2)))
 (.seq (.block 3 (.seq (.region [iq 71 (.fad 22 (.t 1)), iq 72 (.load false 1 (.t 71)), iq 73 (.mv (.t 5)), iq 74 (.iad 6 (.t 72) (.t 73)), iq 75 (.load true 6 (.t 74)), iq 6 (.alloc 76 [(.string ⟨#[]⟩), (.int .u8 0), (.bool false), (.slice none 0 0), (.bool false), (.slice none 0 0)]), ⟨none, none, .store 6 (.t 6) (.t 75)⟩])
 (.draw [⟨iq 76 (.fad 22 (.t 3)), []⟩, ⟨iq 77 (.load false 1 (.t 76)), [0]⟩, ⟨iq 78 (.fad 0 (.t 6)), []⟩, ⟨iq 79 (.load false 1 (.t 78)), [2]⟩, ⟨iq 80 (.fad 1 (.t 6)), []⟩, ⟨iq 81 (.load false 1 (.t 80)), [4]⟩, ⟨iq 82 (.fad 2 (.t 6)), []⟩, ⟨iq 83 (.load true 4 (.t 82)), [6]⟩, ⟨iq 84 (.call 26 [(.t 83)]), [7]⟩, ⟨iq 85 (.build [(.string ⟨#[]⟩), (.int .u8 0), (.bool false), (.slice none 0 0), (.bool false), (.slice none 0 0)] [(0, 1, (.t 79)), (1, 1, (.t 81)), (2, 4, (.t 84))]), [3, 5, 8]⟩, ⟨iq 86 (.bslice 78 6 1 [(.string ⟨#[]⟩), (.int .u8 0), (.bool false), (.slice none 0 0), (.bool false), (.slice none 0 0)] [(0, (.t 85))]), [9]⟩, ⟨iq 87 (.app 78 6 88 [(.string ⟨#[]⟩), (.int .u8 0), (.bool false), (.slice none 0 0), (.bool false), (.slice none 0 0)] (.t 77) (.t 86)), [1, 10, 8]⟩, ⟨iq 88 (.fad 22 (.t 3)), [0, 1, 2, 3, 4, 5, 6, 7, 8, 9, 10, 11]⟩, ⟨⟨none, none, .store 1 (.t 88) (.t 87)⟩, [12, 11, 11, 0, 1, 2, 3, 4, 5, 6, 7, 8, 9, 10, 11]⟩] [0, 1, 0, 4, 0, 16, 0, 64, 192, 508, 1020, 2047, 4095, 8191])))
 (.region [iq 69 (.mv (.t 5)), iq 70 (.bin .add (.t 69) (.k (.int .i64 1))), iq 5 (.mv (.t 70))]))))))
 (.seq (.seq (.region [iq 7 (.mv (.k (.int .i64 0)))])
 (.block 4 (.loop (.seq (.seq (.region [iq 89 (.mv (.t 7)), iq 90 (.fad 24 (.t 1)), iq 91 (.load false 1 (.t 90)), iq 92 (.len false (.t 91)), iq 93 (.bin .lss (.t 89) (.t 92))])
 (.cond (.t 93) .skip
 (.exit 4)))
 (.seq (.block 5 (.draw [⟨iq 96 (.fad 24 (.t 3)), []⟩, ⟨iq 97 (.load false 1 (.t 96)), [0]⟩, ⟨iq 98 (.fad 24 (.t 1)), []⟩, ⟨iq 99 (.load false 1 (.t 98)), [2]⟩, ⟨iq 100 (.mv (.t 7)), []⟩, ⟨iq 101 (.iad 6 (.t 99) (.t 100)), [3, 4]⟩, ⟨iq 102 (.load true 6 (.t 101)), [5]⟩, ⟨iq 103 (.call 27 [(.t 102)]), [6]⟩, ⟨iq 104 (.bslice 85 6 1 [(.int .i64 0), (.slice none 0 0), (.slice none 0 0), (.slice none 0 0), (.slice none 0 0), (.slice none 0 0)] [(0, (.t 103))]), [7]⟩, ⟨iq 105 (.app 85 6 128 [(.int .i64 0), (.slice none 0 0), (.slice none 0 0), (.slice none 0 0), (.slice none 0 0), (.slice none 0 0)] (.t 97) (.t 104)), [1, 8, 7]⟩, ⟨iq 106 (.fad 24 (.t 3)), [0, 1, 2, 3, 4, 5, 6, 7, 8, 9]⟩, ⟨⟨none, none, .store 1 (.t 106) (.t 105)⟩, [10, 9, 9, 0, 1, 2, 3, 4, 5, 6, 7, 8, 9]⟩] [0, 1, 0, 4, 0, 28, 60, 124, 252, 511, 1023, 2047]))
 (.region [iq 94 (.mv (.t 7)), iq 95 (.bin .add (.t 94) (.k (.int .i64 1))), iq 7 (.mv (.t 95))]))))))
 (.seq (.region [iq 107 (.load true 25 (.t 3)), ⟨none, none, .store 25 (.t 2) (.t 107)⟩])
 .ret)))))))
def ge8 : FE := ⟨108, y8, [.c 2 true 25]⟩
theorem oks8 : FOk Tryz.prog 8 ge8 := FOk.mk1 Tryz.func8 rfl rfl rfl (by kernel_rfl) (by kernel_rfl) (by kernel_rfl)
def y9 : XC := (.seq (.region [iq 1 (.box 32 (.t 0)), iq 2 (.alloc 32 [(.string ⟨#[]⟩), (.string ⟨#[]⟩), (.slice none 0 0), (.bool false), (.slice none 0 0), (.bool false), (.slice none 0 0), (.bool false), (.slice none 0 0), (.bool false), (.slice none 0 0), (.int .i64 0), (.int .i64 0), (.bool false), (.slice none 0 0), (.bool false), (.slice none 0 0), (.bool false), (.slice none 0 0), (.bool false), (.slice none 0 0), (.int .i64 0), (.slice none 0 0), (.slice none 0 0), (.slice none 0 0)])])
 (.seq (.draw [⟨iq 3 (.fad 3 (.t 1)), []⟩, ⟨iq 4 (.load true 4 (.t 3)), [0]⟩, ⟨iq 5 (.call 28 [(.t 4)]), [1]⟩, ⟨iq 6 (.fad 7 (.t 1)), []⟩, ⟨iq 7 (.load true 4 (.t 6)), [3]⟩, ⟨iq 8 (.call 28 [(.t 7)]), [4, 2]⟩, ⟨iq 9 (.fad 13 (.t 1)), []⟩, ⟨iq 10 (.load true 4 (.t 9)), [6]⟩, ⟨iq 11 (.call 28 [(.t 10)]), [7, 5]⟩, ⟨iq 12 (.fad 17 (.t 1)), []⟩, ⟨iq 13 (.load true 4 (.t 12)), [9]⟩, ⟨iq 14 (.call 28 [(.t 13)]), [10, 8]⟩, ⟨iq 15 (.fad 3 (.t 1)), [0, 1, 2, 3, 4, 6, 7, 9, 10]⟩, ⟨⟨none, none, .store 4 (.t 15) (.t 5)⟩, [12, 2, 11, 0, 1, 2, 3, 4, 6, 7, 9, 10]⟩, ⟨iq 16 (.fad 7 (.t 1)), [0, 1, 2, 3, 4, 5, 6, 7, 9, 10, 12, 13]⟩, ⟨⟨none, none, .store 4 (.t 16) (.t 8)⟩, [14, 5, 13, 0, 1, 2, 3, 4, 5, 6, 7, 9, 10, 12, 13]⟩, ⟨iq 17 (.fad 13 (.t 1)), [0, 1, 2, 3, 4, 5, 6, 7, 8, 9, 10, 12, 13, 14, 15]⟩, ⟨⟨none, none, .store 4 (.t 17) (.t 11)⟩, [16, 8, 15, 0, 1, 2, 3, 4, 5, 6, 7, 8, 9, 10, 12, 13, 14, 15]⟩, ⟨iq 18 (.fad 17 (.t 1)), [0, 1, 2, 3, 4, 5, 6, 7, 8, 9, 10, 11, 12, 13, 14, 15, 16, 17]⟩, ⟨⟨none, none, .store 4 (.t 18) (.t 14)⟩, [18, 11, 17, 0, 1, 2, 3, 4, 5, 6, 7, 8, 9, 10, 11, 12, 13, 14, 15, 16, 17]⟩] [0, 1, 3, 0, 8, 31, 0, 64, 255, 0, 512, 2047, 1759, 8191, 16383, 32767, 65535, 131071, 262143, 524287])
 (.seq (.region [iq 19 (.fad 2 (.t 1)), iq 20 (.load false 1 (.t 19)), iq 21 (.call 29 [(.t 20), (.f 30)]), iq 22 (.fad 2 (.t 1)), ⟨none, none, .store 1 (.t 22) (.t 21)⟩])
 (.seq (.region [iq 23 (.fad 22 (.t 1)), iq 24 (.load false 1 (.t 23)), iq 25 (.call 31 [(.t 24), (.f 32)]), iq 26 (.fad 22 (.t 1)), ⟨none, none, .store 1 (.t 26) (.t 25)⟩])
 (.seq (.region [iq 27 (.fad 23 (.t 1)), iq 28 (.load false 1 (.t 27)), iq 29 (.call 33 [(.t 28)]), iq 30 (.fad 23 (.t 1)), ⟨none, none, .store 1 (.t 30) (.t 29)⟩])
 (.seq (.region [iq 31 (.fad 24 (.t 1)), iq 32 (.load false 1 (.t 31)), iq 33 (.call 34 [(.t 32), (.f 35)]), iq 34 (.fad 24 (.t 1)), ⟨none, none, .store 1 (.t 34) (.t 33)⟩])
 (.seq (.region [iq 35 (.load true 25 (.t 1)), ⟨none, none, .store 25 (.t 2) (.t 35)⟩])
 .ret)))))))
def ge9 : FE := ⟨36, y9, [.c 2 true 25]⟩
theorem oks9 : FOk Tryz.prog 9 ge9 := FOk.mk1 Tryz.func9 rfl rfl rfl (by kernel_rfl) (by kernel_rfl) (by kernel_rfl)
def y10 : XC := (.seq (.region [iq 2 (.box 42 (.t 0)), iq 3 (.box 42 (.t 1)), iq 4 (.mv (.k (.bool false)))])
 (.seq (.seq (.region [iq 9 (.fad 0 (.t 2)), iq 10 (.load false 1 (.t 9)), iq 11 (.fad 0 (.t 3)), iq 12 (.load false 1 (.t 11)), iq 13 (.bin .neq (.t 10) (.t 12)), iq 14 (.mv (.t 13)), ⟨some 15, some (14, false), .fad 1 (.t 2)⟩, ⟨some 16, some (14, false), .load false 1 (.t 15)⟩, ⟨some 17, some (14, false), .fad 1 (.t 3)⟩, ⟨some 18, some (14, false), .load false 1 (.t 17)⟩, ⟨some 19, some (14, false), .bin .neq (.t 16) (.t 18)⟩, iq 20 (.pick (.t 14) (.k (.bool true)) (.t 19)), iq 21 (.mv (.t 20)), ⟨some 22, some (21, false), .fad 2 (.t 2)⟩, ⟨some 23, some (21, false), .load false 1 (.t 22)⟩, ⟨some 24, some (21, false), .len false (.t 23)⟩, ⟨some 25, some (21, false), .fad 2 (.t 3)⟩, ⟨some 26, some (21, false), .load false 1 (.t 25)⟩, ⟨some 27, some (21, false), .len false (.t 26)⟩, ⟨some 28, some (21, false), .bin .neq (.t 24) (.t 27)⟩, iq 29 (.pick (.t 21) (.k (.bool true)) (.t 28)), iq 30 (.mv (.t 29)), ⟨some 31, some (30, false), .fad 22 (.t 2)⟩, ⟨some 32, some (30, false), .load false 1 (.t 31)⟩, ⟨some 33, some (30, false), .len false (.t 32)⟩, ⟨some 34, some (30, false), .fad 22 (.t 3)⟩, ⟨some 35, some (30, false), .load false 1 (.t 34)⟩, ⟨some 36, some (30, false), .len false (.t 35)⟩, ⟨some 37, some (30, false), .bin .neq (.t 33) (.t 36)⟩, iq 38 (.pick (.t 30) (.k (.bool true)) (.t 37)), iq 39 (.mv (.t 38)), ⟨some 40, some (39, false), .fad 23 (.t 2)⟩, ⟨some 41, some (39, false), .load false 1 (.t 40)⟩, ⟨some 42, some (39, false), .len false (.t 41)⟩, ⟨some 43, some (39, false), .fad 23 (.t 3)⟩, ⟨some 44, some (39, false), .load false 1 (.t 43)⟩, ⟨some 45, some (39, false), .len false (.t 44)⟩, ⟨some 46, some (39, false), .bin .neq (.t 42) (.t 45)⟩, iq 47 (.pick (.t 39) (.k (.bool true)) (.t 46)), iq 48 (.mv (.t 47)), ⟨some 49, some (48, false), .fad 24 (.t 2)⟩, ⟨some 50, some (48, false), .load false 1 (.t 49)⟩, ⟨some 51, some (48, false), .len false (.t 50)⟩, ⟨some 52, some (48, false), .fad 24 (.t 3)⟩, ⟨some 53, some (48, false), .load false 1 (.t 52)⟩, ⟨some 54, some (48, false), .len false (.t 53)⟩, ⟨some 55, some (48, false), .bin .neq (.t 51) (.t 54)⟩, iq 56 (.pick (.t 48) (.k (.bool true)) (.t 55))])
 (.cond (.t 56) (.seq (.region [iq 4 (.mv (.k (.bool false)))])
 .ret)
 .skip))
 (.seq (.seq (.region [iq 57 (.fad 3 (.t 2)), iq 58 (.load true 4 (.t 57)), iq 59 (.fad 3 (.t 3)), iq 60 (.load true 4 (.t 59)), iq 61 (.call 36 [(.t 58), (.t 60)]), iq 62 (.un .not (.t 61)), iq 63 (.mv (.t 62)), ⟨some 64, some (63, false), .fad 7 (.t 2)⟩, ⟨some 65, some (63, false), .load true 4 (.t 64)⟩, ⟨some 66, some (63, false), .fad 7 (.t 3)⟩, ⟨some 67, some (63, false), .load true 4 (.t 66)⟩, ⟨some 68, some (63, false), .call 36 [(.t 65), (.t 67)]⟩, ⟨some 69, some (63, false), .un .not (.t 68)⟩, iq 70 (.pick (.t 63) (.k (.bool true)) (.t 69)), iq 71 (.mv (.t 70)), ⟨some 72, some (71, false), .fad 11 (.t 2)⟩, ⟨some 73, some (71, false), .load false 1 (.t 72)⟩, ⟨some 74, some (71, false), .fad 11 (.t 3)⟩, ⟨some 75, some (71, false), .load false 1 (.t 74)⟩, ⟨some 76, some (71, false), .bin .neq (.t 73) (.t 75)⟩, iq 77 (.pick (.t 71) (.k (.bool true)) (.t 76)), iq 78 (.mv (.t 77)), ⟨some 79, some (78, false), .fad 12 (.t 2)⟩, ⟨some 80, some (78, false), .load false 1 (.t 79)⟩, ⟨some 81, some (78, false), .fad 12 (.t 3)⟩, ⟨some 82, some (78, false), .load false 1 (.t 81)⟩, ⟨some 83, some (78, false), .bin .neq (.t 80) (.t 82)⟩, iq 84 (.pick (.t 78) (.k (.bool true)) (.t 83)), iq 85 (.mv (.t 84)), ⟨some 86, some (85, false), .fad 13 (.t 2)⟩, ⟨some 87, some (85, false), .load true 4 (.t 86)⟩, ⟨some 88, some (85, false), .fad 13 (.t 3)⟩, ⟨some 89, some (85, false), .load true 4 (.t 88)⟩, ⟨some 90, some (85, false), .call 36 [(.t 87), (.t 89)]⟩, ⟨some 91, some (85, false), .un .not (.t 90)⟩, iq 92 (.pick (.t 85) (.k (.bool true)) (.t 91)), iq 93 (.mv (.t 92)), ⟨some 94, some (93, false), .fad 17 (.t 2)⟩, ⟨some 95, some (93, false), .load true 4 (.t 94)⟩, ⟨some 96, some (93, false), .fad 17 (.t 3)⟩, ⟨some 97, some (93, false), .load true 4 (.t 96)⟩, ⟨some 98, some (93, false), .call 36 [(.t 95), (.t 97)]⟩, ⟨some 99, some (93, false), .un .not (.t 98)⟩, iq 100 (.pick (.t 93) (.k (.bool true)) (.t 99)), iq 101 (.mv (.t 100)), ⟨some 102, some (101, false), .fad 21 (.t 2)⟩, ⟨some 103, some (101, false), .load false 1 (.t 102)⟩, ⟨some 104, some (101, false), .fad 21 (.t 3)⟩, ⟨some 105, some (101, false), .load false 1 (.t 104)⟩, ⟨some 106, some (101, false), .bin .neq (.t 103) (.t 105)⟩, iq 107 (.pick (.t 101) (.k (.bool true)) (.t 106))])
 (.cond (.t 107) (.seq (.region [iq 4 (.mv (.k (.bool false)))])
 .ret)
 .skip))
 (.seq (.seq (.region [iq 5 (.mv (.k (.int .i64 0)))])
 (.block 0 (.loop (.seq (.seq (.region [iq 108 (.mv (.t 5)), iq 109 (.fad 2 (.t 2)), iq 110 (.load false 1 (.t 109)), iq 111 (.len false (.t 110)), iq 112 (.bin .lss (.t 108) (.t 111))])
 (.cond (.t 112) .skip
 (.exit 0)))
 (.seq (.block 1 (.seq (.draw [⟨iq 115 (.fad 2 (.t 2)), []⟩, ⟨iq 116 (.load false 1 (.t 115)), [0]⟩, ⟨iq 117 (.mv (.t 5)), []⟩, ⟨iq 118 (.iad 8 (.t 116) (.t 117)), [1, 2]⟩, ⟨iq 119 (.fad 0 (.t 118)), [3]⟩, ⟨iq 120 (.load true 4 (.t 119)), [4]⟩, ⟨iq 121 (.fad 2 (.t 3)), []⟩, ⟨iq 122 (.load false 1 (.t 121)), [6]⟩, ⟨iq 123 (.mv (.t 5)), []⟩, ⟨iq 124 (.iad 8 (.t 122) (.t 123)), [7, 8]⟩, ⟨iq 125 (.fad 0 (.t 124)), [9]⟩, ⟨iq 126 (.load true 4 (.t 125)), [10]⟩, ⟨iq 127 (.call 36 [(.t 120), (.t 126)]), [5, 11]⟩, ⟨iq 128 (.un .not (.t 127)), [12]⟩, ⟨iq 129 (.mv (.t 128)), [13, 12]⟩, ⟨⟨some 130, some (129, false), .fad 2 (.t 2)⟩, [14]⟩, ⟨⟨some 131, some (129, false), .load false 1 (.t 130)⟩, [15, 14]⟩, ⟨⟨some 132, some (129, false), .mv (.t 5)⟩, [14]⟩, ⟨⟨some 133, some (129, false), .iad 8 (.t 131) (.t 132)⟩, [16, 17, 14]⟩, ⟨⟨some 134, some (129, false), .fad 4 (.t 133)⟩, [18, 14]⟩, ⟨⟨some 135, some (129, false), .load true 4 (.t 134)⟩, [19, 14]⟩, ⟨⟨some 136, some (129, false), .fad 2 (.t 3)⟩, [14]⟩, ⟨⟨some 137, some (129, false), .load false 1 (.t 136)⟩, [21, 14]⟩, ⟨⟨some 138, some (129, false), .mv (.t 5)⟩, [14]⟩, ⟨⟨some 139, some (129, false), .iad 8 (.t 137) (.t 138)⟩, [22, 23, 14]⟩, ⟨⟨some 140, some (129, false), .fad 4 (.t 139)⟩, [24, 14]⟩, ⟨⟨some 141, some (129, false), .load true 4 (.t 140)⟩, [25, 14]⟩, ⟨⟨some 142, some (129, false), .call 36 [(.t 135), (.t 141)]⟩, [20, 26, 14, 14]⟩, ⟨⟨some 143, some (129, false), .un .not (.t 142)⟩, [27, 14]⟩, ⟨iq 144 (.pick (.t 129) (.k (.bool true)) (.t 143)), [14, 28]⟩] [0, 1, 0, 7, 15, 31, 0, 64, 0, 448, 960, 1984, 4095, 8191, 16383, 32767, 65535, 32767, 262143, 524287, 1048575, 32767, 2129919, 32767, 14712831, 31490047, 65044479, 134217727, 268435455, 536870911])
 (.cond (.t 144) (.seq (.region [iq 4 (.mv (.k (.bool false)))])
 .ret)
 .skip)))
 (.region [iq 113 (.mv (.t 5)), iq 114 (.bin .add (.t 113) (.k (.int .i64 1))), iq 5 (.mv (.t 114))]))))))
 (.seq (.seq (.region [iq 6 (.mv (.k (.int .i64 0)))])
 (.block 2 (.loop (.seq (.seq (.region [iq 145 (.mv (.t 6)), iq 146 (.fad 22 (.t 2)), iq 147 (.load false 1 (.t 146)), iq 148 (.len false (.t 147)), iq 149 (.bin .lss (.t 145) (.t 148))])
 (.cond (.t 149) .skip
 (.exit 2)))
 (.seq (.block 3 (.seq (.draw [⟨iq 152 (.fad 22 (.t 2)), []⟩, ⟨iq 153 (.load false 1 (.t 152)), [0]⟩, ⟨iq 154 (.mv (.t 6)), []⟩, ⟨iq 155 (.iad 6 (.t 153) (.t 154)), [1, 2]⟩, ⟨iq 156 (.fad 0 (.t 155)), [3]⟩, ⟨iq 157 (.load false 1 (.t 156)), [4]⟩, ⟨iq 158 (.fad 22 (.t 3)), []⟩, ⟨iq 159 (.load false 1 (.t 158)), [6]⟩, ⟨iq 160 (.mv (.t 6)), []⟩, ⟨iq 161 (.iad 6 (.t 159) (.t 160)), [7, 8]⟩, ⟨iq 162 (.fad 0 (.t 161)), [9]⟩, ⟨iq 163 (.load false 1 (.t 162)), [10]⟩, ⟨iq 164 (.bin .neq (.t 157) (.t 163)), [5, 11]⟩, ⟨iq 165 (.mv (.t 164)), [12]⟩, ⟨⟨some 166, some (165, false), .fad 22 (.t 2)⟩, [13]⟩, ⟨⟨some 167, some (165, false), .load false 1 (.t 166)⟩, [14, 13]⟩, ⟨⟨some 168, some (165, false), .mv (.t 6)⟩, [13]⟩, ⟨⟨some 169, some (165, false), .iad 6 (.t 167) (.t 168)⟩, [15, 16, 13]⟩, ⟨⟨some 170, some (165, false), .fad 1 (.t 169)⟩, [17, 13]⟩, ⟨⟨some 171, some (165, false), .load false 1 (.t 170)⟩, [18, 13]⟩, ⟨⟨some 172, some (165, false), .fad 22 (.t 3)⟩, [13]⟩, ⟨⟨some 173, some (165, false), .load false 1 (.t 172)⟩, [20, 13]⟩, ⟨⟨some 174, some (165, false), .mv (.t 6)⟩, [13]⟩, ⟨⟨some 175, some (165, false), .iad 6 (.t 173) (.t 174)⟩, [21, 22, 13]⟩, ⟨⟨some 176, some (165, false), .fad 1 (.t 175)⟩, [23, 13]⟩, ⟨⟨some 177, some (165, false), .load false 1 (.t 176)⟩, [24, 13]⟩, ⟨⟨some 178, some (165, false), .bin .neq (.t 171) (.t 177)⟩, [19, 25, 13]⟩, ⟨iq 179 (.pick (.t 165) (.k (.bool true)) (.t 178)), [13, 26]⟩, ⟨iq 180 (.mv (.t 179)), [27, 13]⟩, ⟨⟨some 181, some (180, false), .fad 22 (.t 2)⟩, [28]⟩, ⟨⟨some 182, some (180, false), .load false 1 (.t 181)⟩, [29, 28]⟩, ⟨⟨some 183, some (180, false), .mv (.t 6)⟩, [28]⟩, ⟨⟨some 184, some (180, false), .iad 6 (.t 182) (.t 183)⟩, [30, 31, 28]⟩, ⟨⟨some 185, some (180, false), .fad 2 (.t 184)⟩, [32, 28]⟩, ⟨⟨some 186, some (180, false), .load true 4 (.t 185)⟩, [33, 28]⟩, ⟨⟨some 187, some (180, false), .fad 22 (.t 3)⟩, [28]⟩, ⟨⟨some 188, some (180, false), .load false 1 (.t 187)⟩, [35, 28]⟩, ⟨⟨some 189, some (180, false), .mv (.t 6)⟩, [28]⟩, ⟨⟨some 190, some (180, false), .iad 6 (.t 188) (.t 189)⟩, [36, 37, 28]⟩, ⟨⟨some 191, some (180, false), .fad 2 (.t 190)⟩, [38, 28]⟩, ⟨⟨some 192, some (180, false), .load true 4 (.t 191)⟩, [39, 28]⟩, ⟨⟨some 193, some (180, false), .call 36 [(.t 186), (.t 192)]⟩, [34, 40, 28, 28]⟩, ⟨⟨some 194, some (180, false), .un .not (.t 193)⟩, [41, 28]⟩, ⟨iq 195 (.pick (.t 180) (.k (.bool true)) (.t 194)), [28, 42]⟩] [0, 1, 0, 7, 15, 31, 0, 64, 0, 448, 960, 1984, 4095, 8191, 16383, 32767, 16383, 131071, 262143, 524287, 16383, 1064959, 16383, 7356415, 15745023, 32522239, 67108863, 134217727, 268435455, 536870911, 1073741823, 536870911, 4294967295, 8589934591, 17179869183, 536870911, 34896609279, 536870911, 241055039487, 515932946431, 1065688760319, 2199023255551, 4398046511103, 8796093022207])
 (.cond (.t 195) (.seq (.region [iq 4 (.mv (.k (.bool false)))])
 .ret)
 .skip)))
 (.region [iq 150 (.mv (.t 6)), iq 151 (.bin .add (.t 150) (.k (.int .i64 1))), iq 6 (.mv (.t 151))]))))))
 (.seq (.seq (.region [iq 7 (.mv (.k (.int .i64 0)))])
 (.block 4 (.loop (.seq (.seq (.region [iq 196 (.mv (.t 7)), iq 197 (.fad 23 (.t 2)), iq 198 (.load false 1 (.t 197)), iq 199 (.len false (.t 198)), iq 200 (.bin .lss (.t 196) (.t 199))])
 (.cond (.t 200) .skip
 (.exit 4)))
 (.seq (.block 5 (.seq (.draw [⟨iq 203 (.fad 23 (.t 2)), []⟩, ⟨iq 204 (.load false 1 (.t 203)), [0]⟩, ⟨iq 205 (.mv (.t 7)), []⟩, ⟨iq 206 (.iad 1 (.t 204) (.t 205)), [1, 2]⟩, ⟨iq 207 (.load false 1 (.t 206)), [3]⟩, ⟨iq 208 (.fad 23 (.t 3)), []⟩, ⟨iq 209 (.load false 1 (.t 208)), [5]⟩, ⟨iq 210 (.mv (.t 7)), []⟩, ⟨iq 211 (.iad 1 (.t 209) (.t 210)), [6, 7]⟩, ⟨iq 212 (.load false 1 (.t 211)), [8]⟩, ⟨iq 213 (.bin .neq (.t 207) (.t 212)), [4, 9]⟩] [0, 1, 0, 7, 15, 0, 32, 0, 224, 480, 1023])
 (.cond (.t 213) (.seq (.region [iq 4 (.mv (.k (.bool false)))])
 .ret)
 .skip)))
 (.region [iq 201 (.mv (.t 7)), iq 202 (.bin .add (.t 201) (.k (.int .i64 1))), iq 7 (.mv (.t 202))]))))))
 (.seq (.seq (.region [iq 8 (.mv (.k (.int .i64 0)))])
 (.block 6 (.loop (.seq (.seq (.region [iq 214 (.mv (.t 8)), iq 215 (.fad 24 (.t 2)), iq 216 (.load false 1 (.t 215)), iq 217 (.len false (.t 216)), iq 218 (.bin .lss (.t 214) (.t 217))])
 (.cond (.t 218) .skip
 (.exit 6)))
 (.seq (.block 7 (.seq (.draw [⟨iq 221 (.fad 24 (.t 2)), []⟩, ⟨iq 222 (.load false 1 (.t 221)), [0]⟩, ⟨iq 223 (.mv (.t 8)), []⟩, ⟨iq 224 (.iad 6 (.t 222) (.t 223)), [1, 2]⟩, ⟨iq 225 (.load true 6 (.t 224)), [3]⟩, ⟨iq 226 (.fad 24 (.t 3)), []⟩, ⟨iq 227 (.load false 1 (.t 226)), [5]⟩, ⟨iq 228 (.mv (.t 8)), []⟩, ⟨iq 229 (.iad 6 (.t 227) (.t 228)), [6, 7]⟩, ⟨iq 230 (.load true 6 (.t 229)), [8]⟩, ⟨iq 231 (.call 37 [(.t 225), (.t 230)]), [4, 9]⟩, ⟨iq 232 (.un .not (.t 231)), [10]⟩] [0, 1, 0, 7, 15, 0, 32, 0, 224, 480, 1023, 2047])
 (.cond (.t 232) (.seq (.region [iq 4 (.mv (.k (.bool false)))])
 .ret)
 .skip)))
 (.region [iq 219 (.mv (.t 8)), iq 220 (.bin .add (.t 219) (.k (.int .i64 1))), iq 8 (.mv (.t 220))]))))))
 (.seq (.region [iq 4 (.mv (.k (.bool true)))])
 .ret))))))))
def ge10 : FE := ⟨233, y10, [.t 4]⟩
theorem oks10 : FOk Tryz.prog 10 ge10 := FOk.mk1 Tryz.func10 rfl rfl rfl (by kernel_rfl) (by kernel_rfl) (by kernel_rfl)
def y11 : XC := (.seq (.region [iq 1 (.box 32 (.t 0))])
 (.seq (.region [iq 16 (.load true 25 (.t 1)), iq 17 (.call 17 [(.t 16)]), iq 2 (.mv (.t 17))])
 (.seq (.seq (.region [iq 3 (.mv (.k (.int .i64 0)))])
 (.block 0 (.loop (.seq (.seq (.region [iq 18 (.mv (.t 3)), iq 19 (.mv (.t 2)), iq 20 (.len false (.t 19)), iq 21 (.bin .lss (.t 18) (.t 20))])
 (.cond (.t 21) .skip
 (.exit 0)))
 (.seq (.block 1 (.seq (.seq (.region [iq 4 (.mv (.k (.int .i64 0)))])
 (.block 2 (.loop (.seq (.seq (.region [iq 24 (.mv (.t 4)), iq 25 (.mv (.t 2)), iq 26 (.mv (.t 3)), iq 27 (.iad 4 (.t 25) (.t 26)), iq 28 (.fad 0 (.t 27)), iq 29 (.fad 1 (.t 28)), iq 30 (.load false 1 (.t 29)), iq 31 (.len false (.t 30)), iq 32 (.bin .lss (.t 24) (.t 31))])
 (.cond (.t 32) .skip
 (.exit 2)))
 (.seq (.block 3 (.region [iq 35 (.mv (.t 2)), iq 36 (.mv (.t 3)), iq 37 (.iad 4 (.t 35) (.t 36)), iq 38 (.fad 0 (.t 37)), iq 39 (.fad 1 (.t 38)), iq 40 (.load false 1 (.t 39)), iq 41 (.mv (.t 4)), iq 42 (.iad 1 (.t 40) (.t 41)), ⟨none, none, .store 1 (.t 42) (.k (.int .u32 77))⟩]))
 (.region [iq 33 (.mv (.t 4)), iq 34 (.bin .add (.t 33) (.k (.int .i64 1))), iq 4 (.mv (.t 34))]))))))
 (.seq (.region [iq 5 (.mv (.k (.int .i64 0)))])
 (.block 4 (.loop (.seq (.seq (.region [iq 43 (.mv (.t 5)), iq 44 (.mv (.t 2)), iq 45 (.mv (.t 3)), iq 46 (.iad 4 (.t 44) (.t 45)), iq 47 (.fad 2 (.t 46)), iq 48 (.fad 1 (.t 47)), iq 49 (.load false 1 (.t 48)), iq 50 (.len false (.t 49)), iq 51 (.bin .lss (.t 43) (.t 50))])
 (.cond (.t 51) .skip
 (.exit 4)))
 (.seq (.block 5 (.region [iq 54 (.mv (.t 2)), iq 55 (.mv (.t 3)), iq 56 (.iad 4 (.t 54) (.t 55)), iq 57 (.fad 2 (.t 56)), iq 58 (.fad 1 (.t 57)), iq 59 (.load false 1 (.t 58)), iq 60 (.mv (.t 5)), iq 61 (.iad 1 (.t 59) (.t 60)), ⟨none, none, .store 1 (.t 61) (.k (.int .u32 78))⟩]))
 (.region [iq 52 (.mv (.t 5)), iq 53 (.bin .add (.t 52) (.k (.int .i64 1))), iq 5 (.mv (.t 53))]))))))))
 (.region [iq 22 (.mv (.t 3)), iq 23 (.bin .add (.t 22) (.k (.int .i64 1))), iq 3 (.mv (.t 23))]))))))
 (.seq (.seq (.region [iq 6 (.mv (.k (.int .i64 0)))])
 (.block 6 (.loop (.seq (.seq (.region [iq 62 (.mv (.t 6)), iq 63 (.fad 2 (.t 1)), iq 64 (.load false 1 (.t 63)), iq 65 (.len false (.t 64)), iq 66 (.bin .lss (.t 62) (.t 65))])
 (.cond (.t 66) .skip
 (.exit 6)))
 (.seq (.block 7 (.region [iq 69 (.fad 2 (.t 1)), iq 70 (.load false 1 (.t 69)), iq 71 (.mv (.t 6)), iq 72 (.build [(.bool false), (.slice none 0 0), (.bool false), (.slice none 0 0), (.bool false), (.slice none 0 0), (.bool false), (.slice none 0 0)] []), iq 73 (.iad 8 (.t 70) (.t 71)), ⟨none, none, .store 8 (.t 73) (.t 72)⟩]))
 (.region [iq 67 (.mv (.t 6)), iq 68 (.bin .add (.t 67) (.k (.int .i64 1))), iq 6 (.mv (.t 68))]))))))
 (.seq (.seq (.region [iq 7 (.mv (.k (.int .i64 0)))])
 (.block 8 (.loop (.seq (.seq (.region [iq 74 (.mv (.t 7)), iq 75 (.fad 22 (.t 1)), iq 76 (.load false 1 (.t 75)), iq 77 (.len false (.t 76)), iq 78 (.bin .lss (.t 74) (.t 77))])
 (.cond (.t 78) .skip
 (.exit 8)))
 (.seq (.block 9 (.region [iq 81 (.fad 22 (.t 1)), iq 82 (.load false 1 (.t 81)), iq 83 (.mv (.t 7)), iq 84 (.build [(.string ⟨#[]⟩), (.int .u8 0), (.bool false), (.slice none 0 0), (.bool false), (.slice none 0 0)] [(0, 1, (.k (.string ⟨#[63]⟩)))]), iq 85 (.iad 6 (.t 82) (.t 83)), ⟨none, none, .store 6 (.t 85) (.t 84)⟩]))
 (.region [iq 79 (.mv (.t 7)), iq 80 (.bin .add (.t 79) (.k (.int .i64 1))), iq 7 (.mv (.t 80))]))))))
 (.seq (.seq (.region [iq 8 (.mv (.k (.int .i64 0)))])
 (.block 10 (.loop (.seq (.seq (.region [iq 86 (.mv (.t 8)), iq 87 (.fad 23 (.t 1)), iq 88 (.load false 1 (.t 87)), iq 89 (.len false (.t 88)), iq 90 (.bin .lss (.t 86) (.t 89))])
 (.cond (.t 90) .skip
 (.exit 10)))
 (.seq (.block 11 (.region [iq 93 (.fad 23 (.t 1)), iq 94 (.load false 1 (.t 93)), iq 95 (.mv (.t 8)), iq 96 (.iad 1 (.t 94) (.t 95)), ⟨none, none, .store 1 (.t 96) (.k (.string ⟨#[63]⟩))⟩]))
 (.region [iq 91 (.mv (.t 8)), iq 92 (.bin .add (.t 91) (.k (.int .i64 1))), iq 8 (.mv (.t 92))]))))))
 (.seq (.region [iq 9 (.mv (.k (.int .i64 0)))])
 (.block 12 (.loop (.seq (.seq (.region [iq 97 (.mv (.t 9)), iq 98 (.fad 24 (.t 1)), iq 99 (.load false 1 (.t 98)), iq 100 (.len false (.t 99)), iq 101 (.bin .lss (.t 97) (.t 100))])
 (.cond (.t 101) .skip
 (.exit 12)))
 (.seq (.block 13 (.seq (.region [iq 104 (.fad 24 (.t 1)), iq 105 (.load false 1 (.t 104)), iq 106 (.mv (.t 9)), iq 107 (.iad 6 (.t 105) (.t 106)), iq 108 (.load true 6 (.t 107)), iq 10 (.alloc 55 [(.int .i64 0), (.slice none 0 0), (.slice none 0 0), (.slice none 0 0), (.slice none 0 0), (.slice none 0 0)]), ⟨none, none, .store 6 (.t 10) (.t 108)⟩])
 (.seq (.seq (.region [iq 11 (.mv (.k (.int .i64 0)))])
 (.block 14 (.loop (.seq (.seq (.region [iq 109 (.mv (.t 11)), iq 110 (.fad 1 (.t 10)), iq 111 (.load false 1 (.t 110)), iq 112 (.len false (.t 111)), iq 113 (.bin .lss (.t 109) (.t 112))])
 (.cond (.t 113) .skip
 (.exit 14)))
 (.seq (.block 15 (.region [iq 116 (.fad 1 (.t 10)), iq 117 (.load false 1 (.t 116)), iq 118 (.mv (.t 11)), iq 119 (.build [(.string ⟨#[]⟩), (.string ⟨#[]⟩), (.bool false), (.slice none 0 0), (.bool false), (.slice none 0 0)] [(0, 1, (.k (.string ⟨#[63]⟩)))]), iq 120 (.iad 6 (.t 117) (.t 118)), ⟨none, none, .store 6 (.t 120) (.t 119)⟩]))
 (.region [iq 114 (.mv (.t 11)), iq 115 (.bin .add (.t 114) (.k (.int .i64 1))), iq 11 (.mv (.t 115))]))))))
 (.seq (.seq (.region [iq 12 (.mv (.k (.int .i64 0)))])
 (.block 16 (.loop (.seq (.seq (.region [iq 121 (.mv (.t 12)), iq 122 (.fad 2 (.t 10)), iq 123 (.load false 1 (.t 122)), iq 124 (.len false (.t 123)), iq 125 (.bin .lss (.t 121) (.t 124))])
 (.cond (.t 125) .skip
 (.exit 16)))
 (.seq (.block 17 (.region [iq 128 (.fad 2 (.t 10)), iq 129 (.load false 1 (.t 128)), iq 130 (.mv (.t 12)), iq 131 (.build [(.string ⟨#[]⟩), (.string ⟨#[]⟩), (.bool false), (.slice none 0 0), (.bool false), (.slice none 0 0)] [(0, 1, (.k (.string ⟨#[63]⟩)))]), iq 132 (.iad 6 (.t 129) (.t 130)), ⟨none, none, .store 6 (.t 132) (.t 131)⟩]))
 (.region [iq 126 (.mv (.t 12)), iq 127 (.bin .add (.t 126) (.k (.int .i64 1))), iq 12 (.mv (.t 127))]))))))
 (.seq (.seq (.region [iq 13 (.mv (.k (.int .i64 0)))])
 (.block 18 (.loop (.seq (.seq (.region [iq 133 (.mv (.t 13)), iq 134 (.fad 3 (.t 10)), iq 135 (.load false 1 (.t 134)), iq 136 (.len false (.t 135)), iq 137 (.bin .lss (.t 133) (.t 136))])
 (.cond (.t 137) .skip
 (.exit 18)))
 (.seq (.block 19 (.region [iq 140 (.fad 3 (.t 10)), iq 141 (.load false 1 (.t 140)), iq 142 (.mv (.t 13)), iq 143 (.build [(.bool false), (.string ⟨#[]⟩), (.int .u8 0), (.string ⟨#[]⟩), (.string ⟨#[]⟩), (.string ⟨#[]⟩), (.bool false), (.slice none 0 0), (.bool false), (.slice none 0 0)] [(1, 1, (.k (.string ⟨#[63]⟩)))]), iq 144 (.iad 10 (.t 141) (.t 142)), ⟨none, none, .store 10 (.t 144) (.t 143)⟩]))
 (.region [iq 138 (.mv (.t 13)), iq 139 (.bin .add (.t 138) (.k (.int .i64 1))), iq 13 (.mv (.t 139))]))))))
 (.seq (.seq (.region [iq 14 (.mv (.k (.int .i64 0)))])
 (.block 20 (.loop (.seq (.seq (.region [iq 145 (.mv (.t 14)), iq 146 (.fad 4 (.t 10)), iq 147 (.load false 1 (.t 146)), iq 148 (.len false (.t 147)), iq 149 (.bin .lss (.t 145) (.t 148))])
 (.cond (.t 149) .skip
 (.exit 20)))
 (.seq (.block 21 (.region [iq 152 (.fad 4 (.t 10)), iq 153 (.load false 1 (.t 152)), iq 154 (.mv (.t 14)), iq 155 (.build [(.string ⟨#[]⟩), (.bool false), (.slice none 0 0), (.bool false), (.slice none 0 0), (.bool false), (.slice none 0 0), (.bool false), (.slice none 0 0)] [(0, 1, (.k (.string ⟨#[63]⟩)))]), iq 156 (.iad 9 (.t 153) (.t 154)), ⟨none, none, .store 9 (.t 156) (.t 155)⟩]))
 (.region [iq 150 (.mv (.t 14)), iq 151 (.bin .add (.t 150) (.k (.int .i64 1))), iq 14 (.mv (.t 151))]))))))
 (.seq (.seq (.region [iq 15 (.mv (.k (.int .i64 0)))])
 (.block 22 (.loop (.seq (.seq (.region [iq 157 (.mv (.t 15)), iq 158 (.fad 5 (.t 10)), iq 159 (.load false 1 (.t 158)), iq 160 (.len false (.t 159)), iq 161 (.bin .lss (.t 157) (.t 160))])
 (.cond (.t 161) .skip
 (.exit 22)))
 (.seq (.block 23 (.region [iq 164 (.fad 5 (.t 10)), iq 165 (.load false 1 (.t 164)), iq 166 (.mv (.t 15)), iq 167 (.build [(.string ⟨#[]⟩), (.bool false), (.slice none 0 0), (.bool false), (.slice none 0 0)] [(0, 1, (.k (.string ⟨#[63]⟩)))]), iq 168 (.iad 5 (.t 165) (.t 166)), ⟨none, none, .store 5 (.t 168) (.t 167)⟩]))
 (.region [iq 162 (.mv (.t 15)), iq 163 (.bin .add (.t 162) (.k (.int .i64 1))), iq 15 (.mv (.t 163))]))))))
 (.region [iq 169 (.fad 24 (.t 1)), iq 170 (.load false 1 (.t 169)), iq 171 (.mv (.t 9)), iq 172 (.build [(.int .i64 0), (.slice none 0 0), (.slice none 0 0), (.slice none 0 0), (.slice none 0 0), (.slice none 0 0)] [(0, 1, (.k (.int .i64 77)))]), iq 173 (.iad 6 (.t 170) (.t 171)), ⟨none, none, .store 6 (.t 173) (.t 172)⟩]))))))))
 (.region [iq 102 (.mv (.t 9)), iq 103 (.bin .add (.t 102) (.k (.int .i64 1))), iq 9 (.mv (.t 103))]))))))))))))
def ge11 : FE := ⟨174, y11, []⟩
theorem oks11 : FOk Tryz.prog 11 ge11 := FOk.mk1 Tryz.func11 rfl rfl rfl (by kernel_rfl) (by kernel_rfl) (by kernel_rfl)
def y16 : XC := (.seq (.region [iq 2 (.mv (.k (.bool false)))])
 (.seq (.seq (.region [iq 3 (.mv (.k (.int .i64 0)))])
 (.block 0 (.loop (.seq (.seq (.region [iq 4 (.mv (.t 3)), iq 5 (.mv (.t 0)), iq 6 (.len false (.t 5)), iq 7 (.bin .lss (.t 4) (.t 6))])
 (.cond (.t 7) .skip
 (.exit 0)))
 (.seq (.block 1 (.seq (.region [iq 10 (.mv (.t 0)), iq 11 (.mv (.t 3)), iq 12 (.iad 4 (.t 10) (.t 11)), iq 13 (.fad 0 (.t 12)), iq 14 (.fad 1 (.t 13)), iq 15 (.load false 1 (.t 14)), iq 16 (.len false (.t 15)), iq 17 (.bin .gtr (.t 16) (.k (.int .i64 6))), iq 18 (.mv (.t 17)), ⟨some 19, some (18, false), .mv (.t 0)⟩, ⟨some 20, some (18, false), .mv (.t 3)⟩, ⟨some 21, some (18, false), .iad 4 (.t 19) (.t 20)⟩, ⟨some 22, some (18, false), .fad 2 (.t 21)⟩, ⟨some 23, some (18, false), .fad 1 (.t 22)⟩, ⟨some 24, some (18, false), .load false 1 (.t 23)⟩, ⟨some 25, some (18, false), .len false (.t 24)⟩, ⟨some 26, some (18, false), .bin .gtr (.t 25) (.k (.int .i64 6))⟩, iq 27 (.pick (.t 18) (.k (.bool true)) (.t 26))])
 (.cond (.t 27) (.seq (.region [iq 2 (.mv (.k (.bool false)))])
 .ret)
 .skip)))
 (.region [iq 8 (.mv (.t 3)), iq 9 (.bin .add (.t 8) (.k (.int .i64 1))), iq 3 (.mv (.t 9))]))))))
 (.seq (.region [iq 2 (.mv (.k (.bool true)))])
 .ret)))
def ge16 : FE := ⟨28, y16, [.t 2]⟩
theorem oks16 : FOk Tryz.prog 16 ge16 := FOk.mk1 Tryz.func16 rfl rfl rfl (by kernel_rfl) (by kernel_rfl) (by kernel_rfl)
def y17 : XC := (.seq (.region [iq 1 (.box 32 (.t 0)), iq 2 (.mv (.k (.slice none 0 0)))])
 (.seq (.region [iq 13 (.fad 3 (.t 1)), iq 14 (.load true 4 (.t 13)), iq 15 (.fad 7 (.t 1)), iq 16 (.load true 4 (.t 15)), iq 17 (.fad 13 (.t 1)), iq 18 (.load true 4 (.t 17)), iq 19 (.fad 17 (.t 1)), iq 20 (.load true 4 (.t 19)), iq 21 (.bslice 27 4 4 [(.bool false), (.slice none 0 0), (.bool false), (.slice none 0 0)] [(0, (.t 14)), (1, (.t 16)), (2, (.t 18)), (3, (.t 20))]), iq 3 (.mv (.t 21))])
 (.seq (.seq (.region [iq 4 (.mv (.k (.int .i64 0)))])
 (.block 0 (.loop (.seq (.seq (.region [iq 22 (.mv (.t 4)), iq 23 (.fad 2 (.t 1)), iq 24 (.load false 1 (.t 23)), iq 25 (.len false (.t 24)), iq 26 (.bin .lss (.t 22) (.t 25))])
 (.cond (.t 26) .skip
 (.exit 0)))
 (.seq (.block 1 (.draw [⟨iq 29 (.mv (.t 3)), []⟩, ⟨iq 30 (.fad 2 (.t 1)), []⟩, ⟨iq 31 (.load false 1 (.t 30)), [1]⟩, ⟨iq 32 (.mv (.t 4)), []⟩, ⟨iq 33 (.iad 8 (.t 31) (.t 32)), [2, 3]⟩, ⟨iq 34 (.fad 0 (.t 33)), [4]⟩, ⟨iq 35 (.load true 4 (.t 34)), [5]⟩, ⟨iq 36 (.fad 2 (.t 1)), []⟩, ⟨iq 37 (.load false 1 (.t 36)), [7]⟩, ⟨iq 38 (.mv (.t 4)), []⟩, ⟨iq 39 (.iad 8 (.t 37) (.t 38)), [8, 9]⟩, ⟨iq 40 (.fad 4 (.t 39)), [10]⟩, ⟨iq 41 (.load true 4 (.t 40)), [11]⟩, ⟨iq 42 (.bslice 27 4 2 [(.bool false), (.slice none 0 0), (.bool false), (.slice none 0 0)] [(0, (.t 35)), (1, (.t 41))]), [6, 12]⟩, ⟨iq 43 (.app 27 4 64 [(.bool false), (.slice none 0 0), (.bool false), (.slice none 0 0)] (.t 29) (.t 42)), [0, 13]⟩, ⟨iq 3 (.mv (.t 43)), [14, 14, 0, 1, 2, 3, 4, 5, 6, 7, 8, 9, 10, 11, 12, 13, 14]⟩] [0, 0, 2, 0, 14, 30, 62, 0, 128, 0, 896, 1920, 3968, 8190, 16383, 32767]))
 (.region [iq 27 (.mv (.t 4)), iq 28 (.bin .add (.t 27) (.k (.int .i64 1))), iq 4 (.mv (.t 28))]))))))
 (.seq (.seq (.region [iq 5 (.mv (.k (.int .i64 0)))])
 (.block 2 (.loop (.seq (.seq (.region [iq 44 (.mv (.t 5)), iq 45 (.fad 22 (.t 1)), iq 46 (.load false 1 (.t 45)), iq 47 (.len false (.t 46)), iq 48 (.bin .lss (.t 44) (.t 47))])
 (.cond (.t 48) .skip
 (.exit 2)))
 (.seq (.block 3 (.region [iq 51 (.mv (.t 3)), iq 52 (.fad 22 (.t 1)), iq 53 (.load false 1 (.t 52)), iq 54 (.mv (.t 5)), iq 55 (.iad 6 (.t 53) (.t 54)), iq 56 (.fad 2 (.t 55)), iq 57 (.load true 4 (.t 56)), iq 58 (.bslice 27 4 1 [(.bool false), (.slice none 0 0), (.bool false), (.slice none 0 0)] [(0, (.t 57))]), iq 59 (.app 27 4 64 [(.bool false), (.slice none 0 0), (.bool false), (.slice none 0 0)] (.t 51) (.t 58)), iq 3 (.mv (.t 59))]))
 (.region [iq 49 (.mv (.t 5)), iq 50 (.bin .add (.t 49) (.k (.int .i64 1))), iq 5 (.mv (.t 50))]))))))
 (.seq (.seq (.region [iq 6 (.mv (.k (.int .i64 0)))])
 (.block 4 (.loop (.seq (.seq (.region [iq 60 (.mv (.t 6)), iq 61 (.fad 24 (.t 1)), iq 62 (.load false 1 (.t 61)), iq 63 (.len false (.t 62)), iq 64 (.bin .lss (.t 60) (.t 63))])
 (.cond (.t 64) .skip
 (.exit 4)))
 (.seq (.block 5 (.seq (.region [iq 67 (.fad 24 (.t 1)), iq 68 (.load false 1 (.t 67)), iq 69 (.mv (.t 6)), iq 70 (.iad 6 (.t 68) (.t 69)), iq 71 (.load true 6 (.t 70)), iq 7 (.alloc 55 [(.int .i64 0), (.slice none 0 0), (.slice none 0 0), (.slice none 0 0), (.slice none 0 0), (.slice none 0 0)]), ⟨none, none, .store 6 (.t 7) (.t 71)⟩])
 (.seq (.seq (.region [iq 8 (.mv (.k (.int .i64 0)))])
 (.block 6 (.loop (.seq (.seq (.region [iq 72 (.mv (.t 8)), iq 73 (.fad 1 (.t 7)), iq 74 (.load false 1 (.t 73)), iq 75 (.len false (.t 74)), iq 76 (.bin .lss (.t 72) (.t 75))])
 (.cond (.t 76) .skip
 (.exit 6)))
 (.seq (.block 7 (.region [iq 79 (.mv (.t 3)), iq 80 (.fad 1 (.t 7)), iq 81 (.load false 1 (.t 80)), iq 82 (.mv (.t 8)), iq 83 (.iad 6 (.t 81) (.t 82)), iq 84 (.fad 2 (.t 83)), iq 85 (.load true 4 (.t 84)), iq 86 (.bslice 27 4 1 [(.bool false), (.slice none 0 0), (.bool false), (.slice none 0 0)] [(0, (.t 85))]), iq 87 (.app 27 4 64 [(.bool false), (.slice none 0 0), (.bool false), (.slice none 0 0)] (.t 79) (.t 86)), iq 3 (.mv (.t 87))]))
 (.region [iq 77 (.mv (.t 8)), iq 78 (.bin .add (.t 77) (.k (.int .i64 1))), iq 8 (.mv (.t 78))]))))))
 (.seq (.seq (.region [iq 9 (.mv (.k (.int .i64 0)))])
 (.block 8 (.loop (.seq (.seq (.region [iq 88 (.mv (.t 9)), iq 89 (.fad 2 (.t 7)), iq 90 (.load false 1 (.t 89)), iq 91 (.len false (.t 90)), iq 92 (.bin .lss (.t 88) (.t 91))])
 (.cond (.t 92) .skip
 (.exit 8)))
 (.seq (.block 9 (.region [iq 95 (.mv (.t 3)), iq 96 (.fad 2 (.t 7)), iq 97 (.load false 1 (.t 96)), iq 98 (.mv (.t 9)), iq 99 (.iad 6 (.t 97) (.t 98)), iq 100 (.fad 2 (.t 99)), iq 101 (.load true 4 (.t 100)), iq 102 (.bslice 27 4 1 [(.bool false), (.slice none 0 0), (.bool false), (.slice none 0 0)] [(0, (.t 101))]), iq 103 (.app 27 4 64 [(.bool false), (.slice none 0 0), (.bool false), (.slice none 0 0)] (.t 95) (.t 102)), iq 3 (.mv (.t 103))]))
 (.region [iq 93 (.mv (.t 9)), iq 94 (.bin .add (.t 93) (.k (.int .i64 1))), iq 9 (.mv (.t 94))]))))))
 (.seq (.seq (.region [iq 10 (.mv (.k (.int .i64 0)))])
 (.block 10 (.loop (.seq (.seq (.region [iq 104 (.mv (.t 10)), iq 105 (.fad 3 (.t 7)), iq 106 (.load false 1 (.t 105)), iq 107 (.len false (.t 106)), iq 108 (.bin .lss (.t 104) (.t 107))])
 (.cond (.t 108) .skip
 (.exit 10)))
 (.seq (.block 11 (.region [iq 111 (.mv (.t 3)), iq 112 (.fad 3 (.t 7)), iq 113 (.load false 1 (.t 112)), iq 114 (.mv (.t 10)), iq 115 (.iad 10 (.t 113) (.t 114)), iq 116 (.fad 6 (.t 115)), iq 117 (.load true 4 (.t 116)), iq 118 (.bslice 27 4 1 [(.bool false), (.slice none 0 0), (.bool false), (.slice none 0 0)] [(0, (.t 117))]), iq 119 (.app 27 4 64 [(.bool false), (.slice none 0 0), (.bool false), (.slice none 0 0)] (.t 111) (.t 118)), iq 3 (.mv (.t 119))]))
 (.region [iq 109 (.mv (.t 10)), iq 110 (.bin .add (.t 109) (.k (.int .i64 1))), iq 10 (.mv (.t 110))]))))))
 (.seq (.seq (.region [iq 11 (.mv (.k (.int .i64 0)))])
 (.block 12 (.loop (.seq (.seq (.region [iq 120 (.mv (.t 11)), iq 121 (.fad 4 (.t 7)), iq 122 (.load false 1 (.t 121)), iq 123 (.len false (.t 122)), iq 124 (.bin .lss (.t 120) (.t 123))])
 (.cond (.t 124) .skip
 (.exit 12)))
 (.seq (.block 13 (.draw [⟨iq 127 (.mv (.t 3)), []⟩, ⟨iq 128 (.fad 4 (.t 7)), []⟩, ⟨iq 129 (.load false 1 (.t 128)), [1]⟩, ⟨iq 130 (.mv (.t 11)), []⟩, ⟨iq 131 (.iad 9 (.t 129) (.t 130)), [2, 3]⟩, ⟨iq 132 (.fad 1 (.t 131)), [4]⟩, ⟨iq 133 (.load true 4 (.t 132)), [5]⟩, ⟨iq 134 (.fad 4 (.t 7)), []⟩, ⟨iq 135 (.load false 1 (.t 134)), [7]⟩, ⟨iq 136 (.mv (.t 11)), []⟩, ⟨iq 137 (.iad 9 (.t 135) (.t 136)), [8, 9]⟩, ⟨iq 138 (.fad 5 (.t 137)), [10]⟩, ⟨iq 139 (.load true 4 (.t 138)), [11]⟩, ⟨iq 140 (.bslice 27 4 2 [(.bool false), (.slice none 0 0), (.bool false), (.slice none 0 0)] [(0, (.t 133)), (1, (.t 139))]), [6, 12]⟩, ⟨iq 141 (.app 27 4 64 [(.bool false), (.slice none 0 0), (.bool false), (.slice none 0 0)] (.t 127) (.t 140)), [0, 13]⟩, ⟨iq 3 (.mv (.t 141)), [14, 14, 0, 1, 2, 3, 4, 5, 6, 7, 8, 9, 10, 11, 12, 13, 14]⟩] [0, 0, 2, 0, 14, 30, 62, 0, 128, 0, 896, 1920, 3968, 8190, 16383, 32767]))
 (.region [iq 125 (.mv (.t 11)), iq 126 (.bin .add (.t 125) (.k (.int .i64 1))), iq 11 (.mv (.t 126))]))))))
 (.seq (.region [iq 12 (.mv (.k (.int .i64 0)))])
 (.block 14 (.loop (.seq (.seq (.region [iq 142 (.mv (.t 12)), iq 143 (.fad 5 (.t 7)), iq 144 (.load false 1 (.t 143)), iq 145 (.len false (.t 144)), iq 146 (.bin .lss (.t 142) (.t 145))])
 (.cond (.t 146) .skip
 (.exit 14)))
 (.seq (.block 15 (.region [iq 149 (.mv (.t 3)), iq 150 (.fad 5 (.t 7)), iq 151 (.load false 1 (.t 150)), iq 152 (.mv (.t 12)), iq 153 (.iad 5 (.t 151) (.t 152)), iq 154 (.fad 1 (.t 153)), iq 155 (.load true 4 (.t 154)), iq 156 (.bslice 27 4 1 [(.bool false), (.slice none 0 0), (.bool false), (.slice none 0 0)] [(0, (.t 155))]), iq 157 (.app 27 4 64 [(.bool false), (.slice none 0 0), (.bool false), (.slice none 0 0)] (.t 149) (.t 156)), iq 3 (.mv (.t 157))]))
 (.region [iq 147 (.mv (.t 12)), iq 148 (.bin .add (.t 147) (.k (.int .i64 1))), iq 12 (.mv (.t 148))]))))))))))))
 (.region [iq 65 (.mv (.t 6)), iq 66 (.bin .add (.t 65) (.k (.int .i64 1))), iq 6 (.mv (.t 66))]))))))
 (.seq (.region [iq 158 (.mv (.t 3)), iq 2 (.mv (.t 158))])
 .ret))))))
def ge17 : FE := ⟨159, y17, [.t 2]⟩
theorem oks17 : FOk Tryz.prog 17 ge17 := FOk.mk1 Tryz.func17 rfl rfl rfl (by kernel_rfl) (by kernel_rfl) (by kernel_rfl)
def y18 : XC := (.seq (.region [iq 2 (.mv (.k (.bool false)))])
 (.seq (.seq (.region [iq 3 (.mv (.k (.int .i64 0)))])
 (.block 0 (.loop (.seq (.seq (.region [iq 4 (.mv (.t 3)), iq 5 (.mv (.t 0)), iq 6 (.len false (.t 5)), iq 7 (.bin .lss (.t 4) (.t 6))])
 (.cond (.t 7) .skip
 (.exit 0)))
 (.seq (.block 1 (.seq (.region [iq 10 (.mv (.t 0)), iq 11 (.mv (.t 3)), iq 12 (.iad 1 (.t 10) (.t 11)), iq 13 (.load false 1 (.t 12)), iq 14 (.len true (.t 13)), iq 15 (.bin .gtr (.t 14) (.k (.int .i64 70)))])
 (.cond (.t 15) (.seq (.region [iq 2 (.mv (.k (.bool false)))])
 .ret)
 .skip)))
 (.region [iq 8 (.mv (.t 3)), iq 9 (.bin .add (.t 8) (.k (.int .i64 1))), iq 3 (.mv (.t 9))]))))))
 (.seq (.region [iq 2 (.mv (.k (.bool true)))])
 .ret)))
def ge18 : FE := ⟨16, y18, [.t 2]⟩
theorem oks18 : FOk Tryz.prog 18 ge18 := FOk.mk1 Tryz.func18 rfl rfl rfl (by kernel_rfl) (by kernel_rfl) (by kernel_rfl)
def y19 : XC := (.seq (.region [iq 1 (.box 32 (.t 0)), iq 2 (.mv (.k (.slice none 0 0)))])
 (.seq (.region [iq 13 (.fad 0 (.t 1)), iq 14 (.load false 1 (.t 13)), iq 15 (.fad 1 (.t 1)), iq 16 (.load false 1 (.t 15)), iq 17 (.bslice 9 1 2 [(.string ⟨#[]⟩)] [(0, (.t 14)), (1, (.t 16))]), iq 3 (.mv (.t 17))])
 (.seq (.region [iq 18 (.mv (.t 3)), iq 19 (.fad 23 (.t 1)), iq 20 (.load false 1 (.t 19)), iq 21 (.app 9 1 16 [(.string ⟨#[]⟩)] (.t 18) (.t 20)), iq 3 (.mv (.t 21))])
 (.seq (.seq (.region [iq 4 (.mv (.k (.int .i64 0)))])
 (.block 0 (.loop (.seq (.seq (.region [iq 22 (.mv (.t 4)), iq 23 (.fad 22 (.t 1)), iq 24 (.load false 1 (.t 23)), iq 25 (.len false (.t 24)), iq 26 (.bin .lss (.t 22) (.t 25))])
 (.cond (.t 26) .skip
 (.exit 0)))
 (.seq (.block 1 (.region [iq 29 (.mv (.t 3)), iq 30 (.fad 22 (.t 1)), iq 31 (.load false 1 (.t 30)), iq 32 (.mv (.t 4)), iq 33 (.iad 6 (.t 31) (.t 32)), iq 34 (.fad 0 (.t 33)), iq 35 (.load false 1 (.t 34)), iq 36 (.bslice 9 1 1 [(.string ⟨#[]⟩)] [(0, (.t 35))]), iq 37 (.app 9 1 16 [(.string ⟨#[]⟩)] (.t 29) (.t 36)), iq 3 (.mv (.t 37))]))
 (.region [iq 27 (.mv (.t 4)), iq 28 (.bin .add (.t 27) (.k (.int .i64 1))), iq 4 (.mv (.t 28))]))))))
 (.seq (.seq (.region [iq 5 (.mv (.k (.int .i64 0)))])
 (.block 2 (.loop (.seq (.seq (.region [iq 38 (.mv (.t 5)), iq 39 (.fad 24 (.t 1)), iq 40 (.load false 1 (.t 39)), iq 41 (.len false (.t 40)), iq 42 (.bin .lss (.t 38) (.t 41))])
 (.cond (.t 42) .skip
 (.exit 2)))
 (.seq (.block 3 (.seq (.region [iq 45 (.fad 24 (.t 1)), iq 46 (.load false 1 (.t 45)), iq 47 (.mv (.t 5)), iq 48 (.iad 6 (.t 46) (.t 47)), iq 49 (.load true 6 (.t 48)), iq 6 (.alloc 55 [(.int .i64 0), (.slice none 0 0), (.slice none 0 0), (.slice none 0 0), (.slice none 0 0), (.slice none 0 0)]), ⟨none, none, .store 6 (.t 6) (.t 49)⟩])
 (.seq (.seq (.region [iq 7 (.mv (.k (.int .i64 0)))])
 (.block 4 (.loop (.seq (.seq (.region [iq 50 (.mv (.t 7)), iq 51 (.fad 1 (.t 6)), iq 52 (.load false 1 (.t 51)), iq 53 (.len false (.t 52)), iq 54 (.bin .lss (.t 50) (.t 53))])
 (.cond (.t 54) .skip
 (.exit 4)))
 (.seq (.block 5 (.draw [⟨iq 57 (.mv (.t 3)), []⟩, ⟨iq 58 (.fad 1 (.t 6)), []⟩, ⟨iq 59 (.load false 1 (.t 58)), [1]⟩, ⟨iq 60 (.mv (.t 7)), []⟩, ⟨iq 61 (.iad 6 (.t 59) (.t 60)), [2, 3]⟩, ⟨iq 62 (.fad 0 (.t 61)), [4]⟩, ⟨iq 63 (.load false 1 (.t 62)), [5]⟩, ⟨iq 64 (.fad 1 (.t 6)), []⟩, ⟨iq 65 (.load false 1 (.t 64)), [7]⟩, ⟨iq 66 (.mv (.t 7)), []⟩, ⟨iq 67 (.iad 6 (.t 65) (.t 66)), [8, 9]⟩, ⟨iq 68 (.fad 1 (.t 67)), [10]⟩, ⟨iq 69 (.load false 1 (.t 68)), [11]⟩, ⟨iq 70 (.bslice 9 1 2 [(.string ⟨#[]⟩)] [(0, (.t 63)), (1, (.t 69))]), [6, 12]⟩, ⟨iq 71 (.app 9 1 16 [(.string ⟨#[]⟩)] (.t 57) (.t 70)), [0, 13]⟩, ⟨iq 3 (.mv (.t 71)), [14, 14, 0, 1, 2, 3, 4, 5, 6, 7, 8, 9, 10, 11, 12, 13, 14]⟩] [0, 0, 2, 0, 14, 30, 62, 0, 128, 0, 896, 1920, 3968, 8190, 16383, 32767]))
 (.region [iq 55 (.mv (.t 7)), iq 56 (.bin .add (.t 55) (.k (.int .i64 1))), iq 7 (.mv (.t 56))]))))))
 (.seq (.seq (.region [iq 8 (.mv (.k (.int .i64 0)))])
 (.block 6 (.loop (.seq (.seq (.region [iq 72 (.mv (.t 8)), iq 73 (.fad 2 (.t 6)), iq 74 (.load false 1 (.t 73)), iq 75 (.len false (.t 74)), iq 76 (.bin .lss (.t 72) (.t 75))])
 (.cond (.t 76) .skip
 (.exit 6)))
 (.seq (.block 7 (.draw [⟨iq 79 (.mv (.t 3)), []⟩, ⟨iq 80 (.fad 2 (.t 6)), []⟩, ⟨iq 81 (.load false 1 (.t 80)), [1]⟩, ⟨iq 82 (.mv (.t 8)), []⟩, ⟨iq 83 (.iad 6 (.t 81) (.t 82)), [2, 3]⟩, ⟨iq 84 (.fad 0 (.t 83)), [4]⟩, ⟨iq 85 (.load false 1 (.t 84)), [5]⟩, ⟨iq 86 (.fad 2 (.t 6)), []⟩, ⟨iq 87 (.load false 1 (.t 86)), [7]⟩, ⟨iq 88 (.mv (.t 8)), []⟩, ⟨iq 89 (.iad 6 (.t 87) (.t 88)), [8, 9]⟩, ⟨iq 90 (.fad 1 (.t 89)), [10]⟩, ⟨iq 91 (.load false 1 (.t 90)), [11]⟩, ⟨iq 92 (.bslice 9 1 2 [(.string ⟨#[]⟩)] [(0, (.t 85)), (1, (.t 91))]), [6, 12]⟩, ⟨iq 93 (.app 9 1 16 [(.string ⟨#[]⟩)] (.t 79) (.t 92)), [0, 13]⟩, ⟨iq 3 (.mv (.t 93)), [14, 14, 0, 1, 2, 3, 4, 5, 6, 7, 8, 9, 10, 11, 12, 13, 14]⟩] [0, 0, 2, 0, 14, 30, 62, 0, 128, 0, 896, 1920, 3968, 8190, 16383, 32767]))
 (.region [iq 77 (.mv (.t 8)), iq 78 (.bin .add (.t 77) (.k (.int .i64 1))), iq 8 (.mv (.t 78))]))))))
 (.seq (.seq (.region [iq 9 (.mv (.k (.int .i64 0)))])
 (.block 8 (.loop (.seq (.seq (.region [iq 94 (.mv (.t 9)), iq 95 (.fad 3 (.t 6)), iq 96 (.load false 1 (.t 95)), iq 97 (.len false (.t 96)), iq 98 (.bin .lss (.t 94) (.t 97))])
 (.cond (.t 98) .skip
 (.exit 8)))
 (.seq (.block 9 (.seq (.region [iq 101 (.fad 3 (.t 6)), iq 102 (.load false 1 (.t 101)), iq 103 (.mv (.t 9)), iq 104 (.iad 10 (.t 102) (.t 103)), iq 105 (.load true 10 (.t 104)), iq 10 (.alloc 106 [(.bool false), (.string ⟨#[]⟩), (.int .u8 0), (.string ⟨#[]⟩), (.string ⟨#[]⟩), (.string ⟨#[]⟩), (.bool false), (.slice none 0 0), (.bool false), (.slice none 0 0)]), ⟨none, none, .store 10 (.t 10) (.t 105)⟩])
 (.region [iq 106 (.mv (.t 3)), iq 107 (.fad 1 (.t 10)), iq 108 (.load false 1 (.t 107)), iq 109 (.fad 3 (.t 10)), iq 110 (.load false 1 (.t 109)), iq 111 (.fad 4 (.t 10)), iq 112 (.load false 1 (.t 111)), iq 113 (.fad 5 (.t 10)), iq 114 (.load false 1 (.t 113)), iq 115 (.bslice 9 1 4 [(.string ⟨#[]⟩)] [(0, (.t 108)), (1, (.t 110)), (2, (.t 112)), (3, (.t 114))]), iq 116 (.app 9 1 16 [(.string ⟨#[]⟩)] (.t 106) (.t 115)), iq 3 (.mv (.t 116))])))
 (.region [iq 99 (.mv (.t 9)), iq 100 (.bin .add (.t 99) (.k (.int .i64 1))), iq 9 (.mv (.t 100))]))))))
 (.seq (.seq (.region [iq 11 (.mv (.k (.int .i64 0)))])
 (.block 10 (.loop (.seq (.seq (.region [iq 117 (.mv (.t 11)), iq 118 (.fad 4 (.t 6)), iq 119 (.load false 1 (.t 118)), iq 120 (.len false (.t 119)), iq 121 (.bin .lss (.t 117) (.t 120))])
 (.cond (.t 121) .skip
 (.exit 10)))
 (.seq (.block 11 (.region [iq 124 (.mv (.t 3)), iq 125 (.fad 4 (.t 6)), iq 126 (.load false 1 (.t 125)), iq 127 (.mv (.t 11)), iq 128 (.iad 9 (.t 126) (.t 127)), iq 129 (.fad 0 (.t 128)), iq 130 (.load false 1 (.t 129)), iq 131 (.bslice 9 1 1 [(.string ⟨#[]⟩)] [(0, (.t 130))]), iq 132 (.app 9 1 16 [(.string ⟨#[]⟩)] (.t 124) (.t 131)), iq 3 (.mv (.t 132))]))
 (.region [iq 122 (.mv (.t 11)), iq 123 (.bin .add (.t 122) (.k (.int .i64 1))), iq 11 (.mv (.t 123))]))))))
 (.seq (.region [iq 12 (.mv (.k (.int .i64 0)))])
 (.block 12 (.loop (.seq (.seq (.region [iq 133 (.mv (.t 12)), iq 134 (.fad 5 (.t 6)), iq 135 (.load false 1 (.t 134)), iq 136 (.len false (.t 135)), iq 137 (.bin .lss (.t 133) (.t 136))])
 (.cond (.t 137) .skip
 (.exit 12)))
 (.seq (.block 13 (.region [iq 140 (.mv (.t 3)), iq 141 (.fad 5 (.t 6)), iq 142 (.load false 1 (.t 141)), iq 143 (.mv (.t 12)), iq 144 (.iad 5 (.t 142) (.t 143)), iq 145 (.fad 0 (.t 144)), iq 146 (.load false 1 (.t 145)), iq 147 (.bslice 9 1 1 [(.string ⟨#[]⟩)] [(0, (.t 146))]), iq 148 (.app 9 1 16 [(.string ⟨#[]⟩)] (.t 140) (.t 147)), iq 3 (.mv (.t 148))]))
 (.region [iq 138 (.mv (.t 12)), iq 139 (.bin .add (.t 138) (.k (.int .i64 1))), iq 12 (.mv (.t 139))]))))))))))))
 (.region [iq 43 (.mv (.t 5)), iq 44 (.bin .add (.t 43) (.k (.int .i64 1))), iq 5 (.mv (.t 44))]))))))
 (.seq (.region [iq 149 (.mv (.t 3)), iq 2 (.mv (.t 149))])
 .ret))))))
def ge19 : FE := ⟨150, y19, [.t 2]⟩
theorem oks19 : FOk Tryz.prog 19 ge19 := FOk.mk1 Tryz.func19 rfl rfl rfl (by kernel_rfl) (by kernel_rfl) (by kernel_rfl)
def y26 : XC := (.seq (.region [iq 1 (.box 27 (.t 0)), iq 2 (.alloc 38 [(.bool false), (.slice none 0 0), (.bool false), (.slice none 0 0)])])
 (.seq (.draw [⟨iq 3 (.fad 0 (.t 1)), []⟩, ⟨iq 4 (.fad 0 (.t 3)), [0]⟩, ⟨iq 5 (.load false 1 (.t 4)), [1]⟩, ⟨iq 6 (.fad 0 (.t 1)), []⟩, ⟨iq 7 (.fad 1 (.t 6)), [3]⟩, ⟨iq 8 (.load false 1 (.t 7)), [4]⟩, ⟨iq 9 (.call 80 [(.t 8)]), [5]⟩, ⟨iq 10 (.build [(.bool false), (.slice none 0 0)] [(0, 1, (.t 5)), (1, 1, (.t 9))]), [2, 6]⟩, ⟨iq 11 (.fad 2 (.t 1)), []⟩, ⟨iq 12 (.fad 0 (.t 11)), [8]⟩, ⟨iq 13 (.load false 1 (.t 12)), [9]⟩, ⟨iq 14 (.fad 2 (.t 1)), []⟩, ⟨iq 15 (.fad 1 (.t 14)), [11]⟩, ⟨iq 16 (.load false 1 (.t 15)), [12]⟩, ⟨iq 17 (.call 80 [(.t 16)]), [13, 6]⟩, ⟨iq 18 (.build [(.bool false), (.slice none 0 0)] [(0, 1, (.t 13)), (1, 1, (.t 17))]), [10, 14]⟩, ⟨iq 19 (.build [(.bool false), (.slice none 0 0), (.bool false), (.slice none 0 0)] [(0, 2, (.t 10)), (2, 2, (.t 18))]), [7, 15]⟩, ⟨⟨none, none, .store 4 (.t 2) (.t 19)⟩, [16, 14, 0, 1, 2, 3, 4, 5, 6, 7, 8, 9, 10, 11, 12, 13, 14, 15, 16]⟩] [0, 1, 3, 0, 8, 24, 56, 127, 0, 256, 768, 0, 2048, 6144, 14456, 32632, 65535, 131071])
 .ret))
def ge26 : FE := ⟨20, y26, [.c 2 true 4]⟩
theorem oks26 : FOk Tryz.prog 26 ge26 := FOk.mk1 Tryz.func26 rfl rfl rfl (by kernel_rfl) (by kernel_rfl) (by kernel_rfl)
def y27 : XC := (.seq (.region [iq 1 (.box 55 (.t 0)), iq 2 (.alloc 85 [(.int .i64 0), (.slice none 0 0), (.slice none 0 0), (.slice none 0 0), (.slice none 0 0), (.slice none 0 0)])])
 (.seq (.region [iq 13 (.fad 0 (.t 1)), iq 14 (.load false 1 (.t 13)), iq 15 (.build [(.int .i64 0), (.slice none 0 0), (.slice none 0 0), (.slice none 0 0), (.slice none 0 0), (.slice none 0 0)] [(0, 1, (.t 14))]), iq 3 (.alloc 85 [(.int .i64 0), (.slice none 0 0), (.slice none 0 0), (.slice none 0 0), (.slice none 0 0), (.slice none 0 0)]), ⟨none, none, .store 6 (.t 3) (.t 15)⟩])
 (.seq (.seq (.region [iq 4 (.mv (.k (.int .i64 0)))])
 (.block 0 (.loop (.seq (.seq (.region [iq 16 (.mv (.t 4)), iq 17 (.fad 1 (.t 1)), iq 18 (.load false 1 (.t 17)), iq 19 (.len false (.t 18)), iq 20 (.bin .lss (.t 16) (.t 19))])
 (.cond (.t 20) .skip
 (.exit 0)))
 (.seq (.block 1 (.seq (.region [iq 23 (.fad 1 (.t 1)), iq 24 (.load false 1 (.t 23)), iq 25 (.mv (.t 4)), iq 26 (.iad 6 (.t 24) (.t 25)), iq 27 (.load true 6 (.t 26)), iq 5 (.alloc 102 [(.string ⟨#[]⟩), (.string ⟨#[]⟩), (.bool false), (.slice none 0 0), (.bool false), (.slice none 0 0)]), ⟨none, none, .store 6 (.t 5) (.t 27)⟩])
 (.draw [⟨iq 28 (.fad 1 (.t 3)), []⟩, ⟨iq 29 (.load false 1 (.t 28)), [0]⟩, ⟨iq 30 (.fad 0 (.t 5)), []⟩, ⟨iq 31 (.load false 1 (.t 30)), [2]⟩, ⟨iq 32 (.fad 1 (.t 5)), []⟩, ⟨iq 33 (.load false 1 (.t 32)), [4]⟩, ⟨iq 34 (.fad 2 (.t 5)), []⟩, ⟨iq 35 (.load true 4 (.t 34)), [6]⟩, ⟨iq 36 (.call 26 [(.t 35)]), [7]⟩, ⟨iq 37 (.build [(.string ⟨#[]⟩), (.string ⟨#[]⟩), (.bool false), (.slice none 0 0), (.bool false), (.slice none 0 0)] [(0, 1, (.t 31)), (1, 1, (.t 33)), (2, 4, (.t 36))]), [3, 5, 8]⟩, ⟨iq 38 (.bslice 161 6 1 [(.string ⟨#[]⟩), (.string ⟨#[]⟩), (.bool false), (.slice none 0 0), (.bool false), (.slice none 0 0)] [(0, (.t 37))]), [9]⟩, ⟨iq 39 (.app 161 6 96 [(.string ⟨#[]⟩), (.string ⟨#[]⟩), (.bool false), (.slice none 0 0), (.bool false), (.slice none 0 0)] (.t 29) (.t 38)), [1, 10, 8]⟩, ⟨iq 40 (.fad 1 (.t 3)), [0, 1, 2, 3, 4, 5, 6, 7, 8, 9, 10, 11]⟩, ⟨⟨none, none, .store 1 (.t 40) (.t 39)⟩, [12, 11, 11, 0, 1, 2, 3, 4, 5, 6, 7, 8, 9, 10, 11]⟩] [0, 1, 0, 4, 0, 16, 0, 64, 192, 508, 1020, 2047, 4095, 8191])))
 (.region [iq 21 (.mv (.t 4)), iq 22 (.bin .add (.t 21) (.k (.int .i64 1))), iq 4 (.mv (.t 22))]))))))
 (.seq (.seq (.region [iq 6 (.mv (.k (.int .i64 0)))])
 (.block 2 (.loop (.seq (.seq (.region [iq 41 (.mv (.t 6)), iq 42 (.fad 2 (.t 1)), iq 43 (.load false 1 (.t 42)), iq 44 (.len false (.t 43)), iq 45 (.bin .lss (.t 41) (.t 44))])
 (.cond (.t 45) .skip
 (.exit 2)))
 (.seq (.block 3 (.seq (.region [iq 48 (.fad 2 (.t 1)), iq 49 (.load false 1 (.t 48)), iq 50 (.mv (.t 6)), iq 51 (.iad 6 (.t 49) (.t 50)), iq 52 (.load true 6 (.t 51)), iq 7 (.alloc 104 [(.string ⟨#[]⟩), (.string ⟨#[]⟩), (.bool false), (.slice none 0 0), (.bool false), (.slice none 0 0)]), ⟨none, none, .store 6 (.t 7) (.t 52)⟩])
 (.draw [⟨iq 53 (.fad 2 (.t 3)), []⟩, ⟨iq 54 (.load false 1 (.t 53)), [0]⟩, ⟨iq 55 (.fad 0 (.t 7)), []⟩, ⟨iq 56 (.load false 1 (.t 55)), [2]⟩, ⟨iq 57 (.fad 1 (.t 7)), []⟩, ⟨iq 58 (.load false 1 (.t 57)), [4]⟩, ⟨iq 59 (.fad 2 (.t 7)), []⟩, ⟨iq 60 (.load true 4 (.t 59)), [6]⟩, ⟨iq 61 (.call 26 [(.t 60)]), [7]⟩, ⟨iq 62 (.build [(.string ⟨#[]⟩), (.string ⟨#[]⟩), (.bool false), (.slice none 0 0), (.bool false), (.slice none 0 0)] [(0, 1, (.t 56)), (1, 1, (.t 58)), (2, 4, (.t 61))]), [3, 5, 8]⟩, ⟨iq 63 (.bslice 163 6 1 [(.string ⟨#[]⟩), (.string ⟨#[]⟩), (.bool false), (.slice none 0 0), (.bool false), (.slice none 0 0)] [(0, (.t 62))]), [9]⟩, ⟨iq 64 (.app 163 6 96 [(.string ⟨#[]⟩), (.string ⟨#[]⟩), (.bool false), (.slice none 0 0), (.bool false), (.slice none 0 0)] (.t 54) (.t 63)), [1, 10, 8]⟩, ⟨iq 65 (.fad 2 (.t 3)), [0, 1, 2, 3, 4, 5, 6, 7, 8, 9, 10, 11]⟩, ⟨⟨none, none, .store 1 (.t 65) (.t 64)⟩, [12, 11, 11, 0, 1, 2, 3, 4, 5, 6, 7, 8, 9, 10, 11]⟩] [0, 1, 0, 4, 0, 16, 0, 64, 192, 508, 1020, 2047, 4095, 8191])))
 (.region [iq 46 (.mv (.t 6)), iq 47 (.bin .add (.t 46) (.k (.int .i64 1))), iq 6 (.mv (.t 47))]))))))
 (.seq (.seq (.region [iq 8 (.mv (.k (.int .i64 0)))])
 (.block 4 (.loop (.seq (.seq (.region [iq 66 (.mv (.t 8)), iq 67 (.fad 3 (.t 1)), iq 68 (.load false 1 (.t 67)), iq 69 (.len false (.t 68)), iq 70 (.bin .lss (.t 66) (.t 69))])
 (.cond (.t 70) .skip
 (.exit 4)))
 (.seq (.block 5 (.seq (.region [iq 73 (.fad 3 (.t 1)), iq 74 (.load false 1 (.t 73)), iq 75 (.mv (.t 8)), iq 76 (.iad 10 (.t 74) (.t 75)), iq 77 (.load true 10 (.t 76)), iq 9 (.alloc 106 [(.bool false), (.string ⟨#[]⟩), (.int .u8 0), (.string ⟨#[]⟩), (.string ⟨#[]⟩), (.string ⟨#[]⟩), (.bool false), (.slice none 0 0), (.bool false), (.slice none 0 0)]), ⟨none, none, .store 10 (.t 9) (.t 77)⟩])
 (.draw [⟨iq 78 (.fad 3 (.t 3)), []⟩, ⟨iq 79 (.load false 1 (.t 78)), [0]⟩, ⟨iq 80 (.fad 0 (.t 9)), []⟩, ⟨iq 81 (.load false 1 (.t 80)), [2]⟩, ⟨iq 82 (.fad 1 (.t 9)), []⟩, ⟨iq 83 (.load false 1 (.t 82)), [4]⟩, ⟨iq 84 (.fad 2 (.t 9)), []⟩, ⟨iq 85 (.load false 1 (.t 84)), [6]⟩, ⟨iq 86 (.fad 3 (.t 9)), []⟩, ⟨iq 87 (.load false 1 (.t 86)), [8]⟩, ⟨iq 88 (.fad 4 (.t 9)), []⟩, ⟨iq 89 (.load false 1 (.t 88)), [10]⟩, ⟨iq 90 (.fad 5 (.t 9)), []⟩, ⟨iq 91 (.load false 1 (.t 90)), [12]⟩, ⟨iq 92 (.fad 6 (.t 9)), []⟩, ⟨iq 93 (.load true 4 (.t 92)), [14]⟩, ⟨iq 94 (.call 26 [(.t 93)]), [15]⟩, ⟨iq 95 (.build [(.bool false), (.string ⟨#[]⟩), (.int .u8 0), (.string ⟨#[]⟩), (.string ⟨#[]⟩), (.string ⟨#[]⟩), (.bool false), (.slice none 0 0), (.bool false), (.slice none 0 0)] [(0, 1, (.t 81)), (1, 1, (.t 83)), (2, 1, (.t 85)), (3, 1, (.t 87)), (4, 1, (.t 89)), (5, 1, (.t 91)), (6, 4, (.t 94))]), [3, 5, 7, 9, 11, 13, 16]⟩, ⟨iq 96 (.bslice 165 10 1 [(.bool false), (.string ⟨#[]⟩), (.int .u8 0), (.string ⟨#[]⟩), (.string ⟨#[]⟩), (.string ⟨#[]⟩), (.bool false), (.slice none 0 0), (.bool false), (.slice none 0 0)] [(0, (.t 95))]), [17]⟩, ⟨iq 97 (.app 165 10 144 [(.bool false), (.string ⟨#[]⟩), (.int .u8 0), (.string ⟨#[]⟩), (.string ⟨#[]⟩), (.string ⟨#[]⟩), (.bool false), (.slice none 0 0), (.bool false), (.slice none 0 0)] (.t 79) (.t 96)), [1, 18, 16]⟩, ⟨iq 98 (.fad 3 (.t 3)), [0, 1, 2, 3, 4, 5, 6, 7, 8, 9, 10, 11, 12, 13, 14, 15, 16, 17, 18, 19]⟩, ⟨⟨none, none, .store 1 (.t 98) (.t 97)⟩, [20, 19, 19, 0, 1, 2, 3, 4, 5, 6, 7, 8, 9, 10, 11, 12, 13, 14, 15, 16, 17, 18, 19]⟩] [0, 1, 0, 4, 0, 16, 0, 64, 0, 256, 0, 1024, 0, 4096, 0, 16384, 49152, 131068, 262140, 524287, 1048575, 2097151])))
 (.region [iq 71 (.mv (.t 8)), iq 72 (.bin .add (.t 71) (.k (.int .i64 1))), iq 8 (.mv (.t 72))]))))))
 (.seq (.seq (.region [iq 10 (.mv (.k (.int .i64 0)))])
 (.block 6 (.loop (.seq (.seq (.region [iq 99 (.mv (.t 10)), iq 100 (.fad 4 (.t 1)), iq 101 (.load false 1 (.t 100)), iq 102 (.len false (.t 101)), iq 103 (.bin .lss (.t 99) (.t 102))])
 (.cond (.t 103) .skip
 (.exit 6)))
 (.seq (.block 7 (.seq (.region [iq 106 (.fad 4 (.t 1)), iq 107 (.load false 1 (.t 106)), iq 108 (.mv (.t 10)), iq 109 (.iad 9 (.t 107) (.t 108)), iq 110 (.load true 9 (.t 109)), iq 11 (.alloc 108 [(.string ⟨#[]⟩), (.bool false), (.slice none 0 0), (.bool false), (.slice none 0 0), (.bool false), (.slice none 0 0), (.bool false), (.slice none 0 0)]), ⟨none, none, .store 9 (.t 11) (.t 110)⟩])
 (.draw [⟨iq 111 (.fad 4 (.t 3)), []⟩, ⟨iq 112 (.load false 1 (.t 111)), [0]⟩, ⟨iq 113 (.fad 0 (.t 11)), []⟩, ⟨iq 114 (.load false 1 (.t 113)), [2]⟩, ⟨iq 115 (.fad 1 (.t 11)), []⟩, ⟨iq 116 (.load true 4 (.t 115)), [4]⟩, ⟨iq 117 (.call 26 [(.t 116)]), [5]⟩, ⟨iq 118 (.fad 5 (.t 11)), []⟩, ⟨iq 119 (.load true 4 (.t 118)), [7]⟩, ⟨iq 120 (.call 26 [(.t 119)]), [8, 6]⟩, ⟨iq 121 (.build [(.string ⟨#[]⟩), (.bool false), (.slice none 0 0), (.bool false), (.slice none 0 0), (.bool false), (.slice none 0 0), (.bool false), (.slice none 0 0)] [(0, 1, (.t 114)), (1, 4, (.t 117)), (5, 4, (.t 120))]), [3, 6, 9]⟩, ⟨iq 122 (.bslice 167 9 1 [(.string ⟨#[]⟩), (.bool false), (.slice none 0 0), (.bool false), (.slice none 0 0), (.bool false), (.slice none 0 0), (.bool false), (.slice none 0 0)] [(0, (.t 121))]), [10]⟩, ⟨iq 123 (.app 167 9 144 [(.string ⟨#[]⟩), (.bool false), (.slice none 0 0), (.bool false), (.slice none 0 0), (.bool false), (.slice none 0 0), (.bool false), (.slice none 0 0)] (.t 112) (.t 122)), [1, 11, 9]⟩, ⟨iq 124 (.fad 4 (.t 3)), [0, 1, 2, 3, 4, 5, 6, 7, 8, 9, 10, 11, 12]⟩, ⟨⟨none, none, .store 1 (.t 124) (.t 123)⟩, [13, 12, 12, 0, 1, 2, 3, 4, 5, 6, 7, 8, 9, 10, 11, 12]⟩] [0, 1, 0, 4, 0, 16, 48, 0, 128, 496, 1020, 2044, 4095, 8191, 16383])))
 (.region [iq 104 (.mv (.t 10)), iq 105 (.bin .add (.t 104) (.k (.int .i64 1))), iq 10 (.mv (.t 105))]))))))
 (.seq (.seq (.region [iq 12 (.mv (.k (.int .i64 0)))])
 (.block 8 (.loop (.seq (.seq (.region [iq 125 (.mv (.t 12)), iq 126 (.fad 5 (.t 1)), iq 127 (.load false 1 (.t 126)), iq 128 (.len false (.t 127)), iq 129 (.bin .lss (.t 125) (.t 128))])
 (.cond (.t 129) .skip
 (.exit 8)))
 (.seq (.block 9 (.draw [⟨iq 132 (.fad 5 (.t 3)), []⟩, ⟨iq 133 (.load false 1 (.t 132)), [0]⟩, ⟨iq 134 (.fad 5 (.t 1)), []⟩, ⟨iq 135 (.load false 1 (.t 134)), [2]⟩, ⟨iq 136 (.mv (.t 12)), []⟩, ⟨iq 137 (.iad 5 (.t 135) (.t 136)), [3, 4]⟩, ⟨iq 138 (.fad 0 (.t 137)), [5]⟩, ⟨iq 139 (.load false 1 (.t 138)), [6]⟩, ⟨iq 140 (.fad 5 (.t 1)), []⟩, ⟨iq 141 (.load false 1 (.t 140)), [8]⟩, ⟨iq 142 (.mv (.t 12)), []⟩, ⟨iq 143 (.iad 5 (.t 141) (.t 142)), [9, 10]⟩, ⟨iq 144 (.fad 1 (.t 143)), [11]⟩, ⟨iq 145 (.load true 4 (.t 144)), [12]⟩, ⟨iq 146 (.call 26 [(.t 145)]), [13]⟩, ⟨iq 147 (.build [(.string ⟨#[]⟩), (.bool false), (.slice none 0 0), (.bool false), (.slice none 0 0)] [(0, 1, (.t 139)), (1, 4, (.t 146))]), [7, 14]⟩, ⟨iq 148 (.bslice 169 5 1 [(.string ⟨#[]⟩), (.bool false), (.slice none 0 0), (.bool false), (.slice none 0 0)] [(0, (.t 147))]), [15]⟩, ⟨iq 149 (.app 169 5 80 [(.string ⟨#[]⟩), (.bool false), (.slice none 0 0), (.bool false), (.slice none 0 0)] (.t 133) (.t 148)), [1, 16, 14]⟩, ⟨iq 150 (.fad 5 (.t 3)), [0, 1, 2, 3, 4, 5, 6, 7, 8, 9, 10, 11, 12, 13, 14, 15, 16, 17]⟩, ⟨⟨none, none, .store 1 (.t 150) (.t 149)⟩, [18, 17, 17, 0, 1, 2, 3, 4, 5, 6, 7, 8, 9, 10, 11, 12, 13, 14, 15, 16, 17]⟩] [0, 1, 0, 4, 0, 28, 60, 124, 0, 256, 0, 1792, 3840, 7936, 16128, 32764, 65532, 131071, 262143, 524287]))
 (.region [iq 130 (.mv (.t 12)), iq 131 (.bin .add (.t 130) (.k (.int .i64 1))), iq 12 (.mv (.t 131))]))))))
 (.seq (.region [iq 151 (.load true 6 (.t 3)), ⟨none, none, .store 6 (.t 2) (.t 151)⟩])
 .ret))))))))
def ge27 : FE := ⟨152, y27, [.c 2 true 6]⟩
theorem oks27 : FOk Tryz.prog 27 ge27 := FOk.mk1 Tryz.func27 rfl rfl rfl (by kernel_rfl) (by kernel_rfl) (by kernel_rfl)
def y28 : XC := (.seq (.region [iq 1 (.box 27 (.t 0)), iq 2 (.alloc 27 [(.bool false), (.slice none 0 0), (.bool false), (.slice none 0 0)])])
 (.seq (.draw [⟨iq 3 (.fad 0 (.t 1)), []⟩, ⟨iq 4 (.fad 1 (.t 3)), [0]⟩, ⟨iq 5 (.load false 1 (.t 4)), [1]⟩, ⟨iq 6 (.call 81 [(.t 5)]), [2]⟩, ⟨iq 7 (.fad 2 (.t 1)), []⟩, ⟨iq 8 (.fad 1 (.t 7)), [4]⟩, ⟨iq 9 (.load false 1 (.t 8)), [5]⟩, ⟨iq 10 (.call 81 [(.t 9)]), [6, 3]⟩, ⟨iq 11 (.fad 0 (.t 1)), [0, 1, 2, 3, 4, 5, 6]⟩, ⟨iq 12 (.fad 1 (.t 11)), [8, 0, 1, 2, 3, 4, 5, 6]⟩, ⟨⟨none, none, .store 1 (.t 12) (.t 6)⟩, [9, 3, 7, 0, 1, 2, 3, 4, 5, 6]⟩, ⟨iq 13 (.fad 2 (.t 1)), [0, 1, 2, 3, 4, 5, 6, 7, 8, 9, 10]⟩, ⟨iq 14 (.fad 1 (.t 13)), [11, 0, 1, 2, 3, 4, 5, 6, 7, 8, 9, 10]⟩, ⟨⟨none, none, .store 1 (.t 14) (.t 10)⟩, [12, 7, 10, 0, 1, 2, 3, 4, 5, 6, 7, 8, 9, 10]⟩] [0, 1, 3, 7, 0, 16, 48, 127, 127, 383, 1023, 2047, 4095, 8191])
 (.seq (.region [iq 15 (.load true 4 (.t 1)), ⟨none, none, .store 4 (.t 2) (.t 15)⟩])
 .ret)))
def ge28 : FE := ⟨16, y28, [.c 2 true 4]⟩
theorem oks28 : FOk Tryz.prog 28 ge28 := FOk.mk1 Tryz.func28 rfl rfl rfl (by kernel_rfl) (by kernel_rfl) (by kernel_rfl)
def y29 : XC := copiedX 82 8
def ge29 : FE := ⟨20, y29, [.t 4]⟩
theorem oks29 : FOk Tryz.prog 29 ge29 := FOk.mk1 Tryz.func29 rfl rfl rfl (by kernel_rfl) (by kernel_rfl) (by kernel_rfl)
def y30 : XC := (.draw [⟨iq 2 (.mv (.t 0)), []⟩, ⟨iq 3 (.mv (.t 0)), []⟩, ⟨iq 4 (.mv (.t 0)), []⟩, ⟨iq 5 (.nilck (.t 4)), [2]⟩, ⟨iq 6 (.fad 0 (.t 5)), [3]⟩, ⟨iq 7 (.load true 4 (.t 6)), [4]⟩, ⟨iq 8 (.call 28 [(.t 7)]), [5]⟩, ⟨iq 9 (.mv (.t 0)), []⟩, ⟨iq 10 (.nilck (.t 9)), [7]⟩, ⟨iq 11 (.fad 4 (.t 10)), [8]⟩, ⟨iq 12 (.load true 4 (.t 11)), [9]⟩, ⟨iq 13 (.call 28 [(.t 12)]), [10, 6]⟩, ⟨iq 14 (.nilck (.t 2)), [0, 0, 2, 3, 4, 5, 6, 10, 11]⟩, ⟨iq 15 (.fad 0 (.t 14)), [12, 0, 2, 3, 4, 5, 6, 10, 11]⟩, ⟨⟨none, none, .store 4 (.t 15) (.t 8)⟩, [13, 6, 11, 0, 2, 3, 4, 5, 6, 10, 11]⟩, ⟨iq 16 (.nilck (.t 3)), [1, 0, 1, 2, 3, 4, 5, 6, 7, 8, 9, 10, 11, 12, 13, 14]⟩, ⟨iq 17 (.fad 4 (.t 16)), [15, 0, 1, 2, 3, 4, 5, 6, 7, 8, 9, 10, 11, 12, 13, 14]⟩, ⟨⟨none, none, .store 4 (.t 17) (.t 13)⟩, [16, 11, 14, 0, 1, 2, 3, 4, 5, 6, 7, 8, 9, 10, 11, 12, 13, 14]⟩] [0, 0, 0, 4, 12, 28, 60, 0, 128, 384, 896, 2044, 4093, 8189, 16381, 32767, 65535, 131071])
def ge30 : FE := ⟨18, y30, []⟩
theorem oks30 : FOk Tryz.prog 30 ge30 := FOk.mk1 Tryz.func30 rfl rfl rfl (by kernel_rfl) (by kernel_rfl) (by kernel_rfl)
def y31 : XC := copiedX 83 6
def ge31 : FE := ⟨20, y31, [.t 4]⟩
theorem oks31 : FOk Tryz.prog 31 ge31 := FOk.mk1 Tryz.func31 rfl rfl rfl (by kernel_rfl) (by kernel_rfl) (by kernel_rfl)
def y32 : XC := (.region [iq 2 (.mv (.t 0)), iq 3 (.mv (.t 0)), iq 4 (.nilck (.t 3)), iq 5 (.fad 2 (.t 4)), iq 6 (.load true 4 (.t 5)), iq 7 (.call 28 [(.t 6)]), iq 8 (.nilck (.t 2)), iq 9 (.fad 2 (.t 8)), ⟨none, none, .store 4 (.t 9) (.t 7)⟩])
def ge32 : FE := ⟨10, y32, []⟩
theorem oks32 : FOk Tryz.prog 32 ge32 := FOk.mk1 Tryz.func32 rfl rfl rfl (by kernel_rfl) (by kernel_rfl) (by kernel_rfl)
def y33 : XC := cloneX 9 1 16 [(.string ⟨#[]⟩)]
def ge33 : FE := ⟨8, y33, [.t 2]⟩
theorem oks33 : FOk Tryz.prog 33 ge33 := FOk.mk1 Tryz.func33 rfl rfl rfl (by kernel_rfl) (by kernel_rfl) (by kernel_rfl)
def y34 : XC := copiedX 84 6
def ge34 : FE := ⟨20, y34, [.t 4]⟩
theorem oks34 : FOk Tryz.prog 34 ge34 := FOk.mk1 Tryz.func34 rfl rfl rfl (by kernel_rfl) (by kernel_rfl) (by kernel_rfl)
def y35 : XC := (.seq (.region [iq 2 (.mv (.t 0)), iq 3 (.mv (.t 0)), iq 4 (.nilck (.t 3)), iq 5 (.fad 1 (.t 4)), iq 6 (.load false 1 (.t 5)), iq 7 (.call 85 [(.t 6), (.f 86)]), iq 8 (.nilck (.t 2)), iq 9 (.fad 1 (.t 8)), ⟨none, none, .store 1 (.t 9) (.t 7)⟩])
 (.seq (.region [iq 10 (.mv (.t 0)), iq 11 (.mv (.t 0)), iq 12 (.nilck (.t 11)), iq 13 (.fad 2 (.t 12)), iq 14 (.load false 1 (.t 13)), iq 15 (.call 87 [(.t 14), (.f 88)]), iq 16 (.nilck (.t 10)), iq 17 (.fad 2 (.t 16)), ⟨none, none, .store 1 (.t 17) (.t 15)⟩])
 (.seq (.region [iq 18 (.mv (.t 0)), iq 19 (.mv (.t 0)), iq 20 (.nilck (.t 19)), iq 21 (.fad 3 (.t 20)), iq 22 (.load false 1 (.t 21)), iq 23 (.call 89 [(.t 22), (.f 90)]), iq 24 (.nilck (.t 18)), iq 25 (.fad 3 (.t 24)), ⟨none, none, .store 1 (.t 25) (.t 23)⟩])
 (.seq (.region [iq 26 (.mv (.t 0)), iq 27 (.mv (.t 0)), iq 28 (.nilck (.t 27)), iq 29 (.fad 4 (.t 28)), iq 30 (.load false 1 (.t 29)), iq 31 (.call 91 [(.t 30), (.f 92)]), iq 32 (.nilck (.t 26)), iq 33 (.fad 4 (.t 32)), ⟨none, none, .store 1 (.t 33) (.t 31)⟩])
 (.region [iq 34 (.mv (.t 0)), iq 35 (.mv (.t 0)), iq 36 (.nilck (.t 35)), iq 37 (.fad 5 (.t 36)), iq 38 (.load false 1 (.t 37)), iq 39 (.call 93 [(.t 38), (.f 94)]), iq 40 (.nilck (.t 34)), iq 41 (.fad 5 (.t 40)), ⟨none, none, .store 1 (.t 41) (.t 39)⟩])))))
def ge35 : FE := ⟨42, y35, []⟩
theorem oks35 : FOk Tryz.prog 35 ge35 := FOk.mk1 Tryz.func35 rfl rfl rfl (by kernel_rfl) (by kernel_rfl) (by kernel_rfl)
def y36 : XC := (.seq (.region [iq 2 (.box 38 (.t 0)), iq 3 (.box 38 (.t 1)), iq 4 (.mv (.k (.bool false)))])
 (.seq (.region [iq 5 (.fad 0 (.t 2)), iq 6 (.load true 2 (.t 5)), iq 7 (.fad 0 (.t 3)), iq 8 (.load true 2 (.t 7)), iq 9 (.call 95 [(.t 6), (.t 8)]), iq 10 (.mv (.t 9)), ⟨some 11, some (10, true), .fad 2 (.t 2)⟩, ⟨some 12, some (10, true), .load true 2 (.t 11)⟩, ⟨some 13, some (10, true), .fad 2 (.t 3)⟩, ⟨some 14, some (10, true), .load true 2 (.t 13)⟩, ⟨some 15, some (10, true), .call 95 [(.t 12), (.t 14)]⟩, iq 16 (.pick (.t 10) (.t 15) (.k (.bool false))), iq 4 (.mv (.t 16))])
 .ret))
def ge36 : FE := ⟨17, y36, [.t 4]⟩
theorem oks36 : FOk Tryz.prog 36 ge36 := FOk.mk1 Tryz.func36 rfl rfl rfl (by kernel_rfl) (by kernel_rfl) (by kernel_rfl)
def y37 : XC := (.seq (.region [iq 2 (.box 85 (.t 0)), iq 3 (.box 85 (.t 1)), iq 4 (.mv (.k (.bool false)))])
 (.seq (.seq (.region [iq 16 (.fad 0 (.t 2)), iq 17 (.load false 1 (.t 16)), iq 18 (.fad 0 (.t 3)), iq 19 (.load false 1 (.t 18)), iq 20 (.bin .neq (.t 17) (.t 19)), iq 21 (.mv (.t 20)), ⟨some 22, some (21, false), .fad 1 (.t 2)⟩, ⟨some 23, some (21, false), .load false 1 (.t 22)⟩, ⟨some 24, some (21, false), .len false (.t 23)⟩, ⟨some 25, some (21, false), .fad 1 (.t 3)⟩, ⟨some 26, some (21, false), .load false 1 (.t 25)⟩, ⟨some 27, some (21, false), .len false (.t 26)⟩, ⟨some 28, some (21, false), .bin .neq (.t 24) (.t 27)⟩, iq 29 (.pick (.t 21) (.k (.bool true)) (.t 28)), iq 30 (.mv (.t 29)), ⟨some 31, some (30, false), .fad 2 (.t 2)⟩, ⟨some 32, some (30, false), .load false 1 (.t 31)⟩, ⟨some 33, some (30, false), .len false (.t 32)⟩, ⟨some 34, some (30, false), .fad 2 (.t 3)⟩, ⟨some 35, some (30, false), .load false 1 (.t 34)⟩, ⟨some 36, some (30, false), .len false (.t 35)⟩, ⟨some 37, some (30, false), .bin .neq (.t 33) (.t 36)⟩, iq 38 (.pick (.t 30) (.k (.bool true)) (.t 37)), iq 39 (.mv (.t 38)), ⟨some 40, some (39, false), .fad 3 (.t 2)⟩, ⟨some 41, some (39, false), .load false 1 (.t 40)⟩, ⟨some 42, some (39, false), .len false (.t 41)⟩, ⟨some 43, some (39, false), .fad 3 (.t 3)⟩, ⟨some 44, some (39, false), .load false 1 (.t 43)⟩, ⟨some 45, some (39, false), .len false (.t 44)⟩, ⟨some 46, some (39, false), .bin .neq (.t 42) (.t 45)⟩, iq 47 (.pick (.t 39) (.k (.bool true)) (.t 46)), iq 48 (.mv (.t 47)), ⟨some 49, some (48, false), .fad 4 (.t 2)⟩, ⟨some 50, some (48, false), .load false 1 (.t 49)⟩, ⟨some 51, some (48, false), .len false (.t 50)⟩, ⟨some 52, some (48, false), .fad 4 (.t 3)⟩, ⟨some 53, some (48, false), .load false 1 (.t 52)⟩, ⟨some 54, some (48, false), .len false (.t 53)⟩, ⟨some 55, some (48, false), .bin .neq (.t 51) (.t 54)⟩, iq 56 (.pick (.t 48) (.k (.bool true)) (.t 55)), iq 57 (.mv (.t 56)), ⟨some 58, some (57, false), .fad 5 (.t 2)⟩, ⟨some 59, some (57, false), .load false 1 (.t 58)⟩, ⟨some 60, some (57, false), .len false (.t 59)⟩, ⟨some 61, some (57, false), .fad 5 (.t 3)⟩, ⟨some 62, some (57, false), .load false 1 (.t 61)⟩, ⟨some 63, some (57, false), .len false (.t 62)⟩, ⟨some 64, some (57, false), .bin .neq (.t 60) (.t 63)⟩, iq 65 (.pick (.t 57) (.k (.bool true)) (.t 64))])
 (.cond (.t 65) (.seq (.region [iq 4 (.mv (.k (.bool false)))])
 .ret)
 .skip))
 (.seq (.seq (.region [iq 5 (.mv (.k (.int .i64 0)))])
 (.block 0 (.loop (.seq (.seq (.region [iq 66 (.mv (.t 5)), iq 67 (.fad 1 (.t 2)), iq 68 (.load false 1 (.t 67)), iq 69 (.len false (.t 68)), iq 70 (.bin .lss (.t 66) (.t 69))])
 (.cond (.t 70) .skip
 (.exit 0)))
 (.seq (.block 1 (.seq (.draw [⟨iq 73 (.fad 1 (.t 2)), []⟩, ⟨iq 74 (.load false 1 (.t 73)), [0]⟩, ⟨iq 75 (.mv (.t 5)), []⟩, ⟨iq 76 (.iad 6 (.t 74) (.t 75)), [1, 2]⟩, ⟨iq 77 (.load true 6 (.t 76)), [3]⟩, ⟨iq 78 (.fad 1 (.t 3)), []⟩, ⟨iq 79 (.load false 1 (.t 78)), [5]⟩, ⟨iq 80 (.mv (.t 5)), []⟩, ⟨iq 81 (.iad 6 (.t 79) (.t 80)), [6, 7]⟩, ⟨iq 82 (.load true 6 (.t 81)), [8]⟩, ⟨iq 6 (.alloc 161 [(.string ⟨#[]⟩), (.string ⟨#[]⟩), (.bool false), (.slice none 0 0), (.bool false), (.slice none 0 0)]), []⟩, ⟨iq 7 (.alloc 161 [(.string ⟨#[]⟩), (.string ⟨#[]⟩), (.bool false), (.slice none 0 0), (.bool false), (.slice none 0 0)]), []⟩, ⟨⟨none, none, .store 6 (.t 6) (.t 77)⟩, [10, 4, 0, 1, 2, 3, 4, 10, 11]⟩, ⟨⟨none, none, .store 6 (.t 7) (.t 82)⟩, [11, 9, 12, 0, 1, 2, 3, 4, 5, 6, 7, 8, 9, 10, 11, 12]⟩] [0, 1, 0, 7, 15, 0, 32, 0, 224, 480, 0, 0, 3103, 8191])
 (.seq (.region [iq 83 (.fad 0 (.t 6)), iq 84 (.load false 1 (.t 83)), iq 85 (.fad 0 (.t 7)), iq 86 (.load false 1 (.t 85)), iq 87 (.bin .neq (.t 84) (.t 86)), iq 88 (.mv (.t 87)), ⟨some 89, some (88, false), .fad 1 (.t 6)⟩, ⟨some 90, some (88, false), .load false 1 (.t 89)⟩, ⟨some 91, some (88, false), .fad 1 (.t 7)⟩, ⟨some 92, some (88, false), .load false 1 (.t 91)⟩, ⟨some 93, some (88, false), .bin .neq (.t 90) (.t 92)⟩, iq 94 (.pick (.t 88) (.k (.bool true)) (.t 93)), iq 95 (.mv (.t 94)), ⟨some 96, some (95, false), .fad 2 (.t 6)⟩, ⟨some 97, some (95, false), .load true 4 (.t 96)⟩, ⟨some 98, some (95, false), .fad 2 (.t 7)⟩, ⟨some 99, some (95, false), .load true 4 (.t 98)⟩, ⟨some 100, some (95, false), .call 36 [(.t 97), (.t 99)]⟩, ⟨some 101, some (95, false), .un .not (.t 100)⟩, iq 102 (.pick (.t 95) (.k (.bool true)) (.t 101))])
 (.cond (.t 102) (.seq (.region [iq 4 (.mv (.k (.bool false)))])
 .ret)
 .skip))))
 (.region [iq 71 (.mv (.t 5)), iq 72 (.bin .add (.t 71) (.k (.int .i64 1))), iq 5 (.mv (.t 72))]))))))
 (.seq (.seq (.region [iq 8 (.mv (.k (.int .i64 0)))])
 (.block 2 (.loop (.seq (.seq (.region [iq 103 (.mv (.t 8)), iq 104 (.fad 2 (.t 2)), iq 105 (.load false 1 (.t 104)), iq 106 (.len false (.t 105)), iq 107 (.bin .lss (.t 103) (.t 106))])
 (.cond (.t 107) .skip
 (.exit 2)))
 (.seq (.block 3 (.seq (.draw [⟨iq 110 (.fad 2 (.t 2)), []⟩, ⟨iq 111 (.load false 1 (.t 110)), [0]⟩, ⟨iq 112 (.mv (.t 8)), []⟩, ⟨iq 113 (.iad 6 (.t 111) (.t 112)), [1, 2]⟩, ⟨iq 114 (.load true 6 (.t 113)), [3]⟩, ⟨iq 115 (.fad 2 (.t 3)), []⟩, ⟨iq 116 (.load false 1 (.t 115)), [5]⟩, ⟨iq 117 (.mv (.t 8)), []⟩, ⟨iq 118 (.iad 6 (.t 116) (.t 117)), [6, 7]⟩, ⟨iq 119 (.load true 6 (.t 118)), [8]⟩, ⟨iq 9 (.alloc 163 [(.string ⟨#[]⟩), (.string ⟨#[]⟩), (.bool false), (.slice none 0 0), (.bool false), (.slice none 0 0)]), []⟩, ⟨iq 10 (.alloc 163 [(.string ⟨#[]⟩), (.string ⟨#[]⟩), (.bool false), (.slice none 0 0), (.bool false), (.slice none 0 0)]), []⟩, ⟨⟨none, none, .store 6 (.t 9) (.t 114)⟩, [10, 4, 0, 1, 2, 3, 4, 10, 11]⟩, ⟨⟨none, none, .store 6 (.t 10) (.t 119)⟩, [11, 9, 12, 0, 1, 2, 3, 4, 5, 6, 7, 8, 9, 10, 11, 12]⟩] [0, 1, 0, 7, 15, 0, 32, 0, 224, 480, 0, 0, 3103, 8191])
 (.seq (.region [iq 120 (.fad 0 (.t 9)), iq 121 (.load false 1 (.t 120)), iq 122 (.fad 0 (.t 10)), iq 123 (.load false 1 (.t 122)), iq 124 (.bin .neq (.t 121) (.t 123)), iq 125 (.mv (.t 124)), ⟨some 126, some (125, false), .fad 1 (.t 9)⟩, ⟨some 127, some (125, false), .load false 1 (.t 126)⟩, ⟨some 128, some (125, false), .fad 1 (.t 10)⟩, ⟨some 129, some (125, false), .load false 1 (.t 128)⟩, ⟨some 130, some (125, false), .bin .neq (.t 127) (.t 129)⟩, iq 131 (.pick (.t 125) (.k (.bool true)) (.t 130)), iq 132 (.mv (.t 131)), ⟨some 133, some (132, false), .fad 2 (.t 9)⟩, ⟨some 134, some (132, false), .load true 4 (.t 133)⟩, ⟨some 135, some (132, false), .fad 2 (.t 10)⟩, ⟨some 136, some (132, false), .load true 4 (.t 135)⟩, ⟨some 137, some (132, false), .call 36 [(.t 134), (.t 136)]⟩, ⟨some 138, some (132, false), .un .not (.t 137)⟩, iq 139 (.pick (.t 132) (.k (.bool true)) (.t 138))])
 (.cond (.t 139) (.seq (.region [iq 4 (.mv (.k (.bool false)))])
 .ret)
 .skip))))
 (.region [iq 108 (.mv (.t 8)), iq 109 (.bin .add (.t 108) (.k (.int .i64 1))), iq 8 (.mv (.t 109))]))))))
 (.seq (.seq (.region [iq 11 (.mv (.k (.int .i64 0)))])
 (.block 4 (.loop (.seq (.seq (.region [iq 140 (.mv (.t 11)), iq 141 (.fad 3 (.t 2)), iq 142 (.load false 1 (.t 141)), iq 143 (.len false (.t 142)), iq 144 (.bin .lss (.t 140) (.t 143))])
 (.cond (.t 144) .skip
 (.exit 4)))
 (.seq (.block 5 (.seq (.draw [⟨iq 147 (.fad 3 (.t 2)), []⟩, ⟨iq 148 (.load false 1 (.t 147)), [0]⟩, ⟨iq 149 (.mv (.t 11)), []⟩, ⟨iq 150 (.iad 10 (.t 148) (.t 149)), [1, 2]⟩, ⟨iq 151 (.load true 10 (.t 150)), [3]⟩, ⟨iq 152 (.fad 3 (.t 3)), []⟩, ⟨iq 153 (.load false 1 (.t 152)), [5]⟩, ⟨iq 154 (.mv (.t 11)), []⟩, ⟨iq 155 (.iad 10 (.t 153) (.t 154)), [6, 7]⟩, ⟨iq 156 (.load true 10 (.t 155)), [8]⟩, ⟨iq 12 (.alloc 165 [(.bool false), (.string ⟨#[]⟩), (.int .u8 0), (.string ⟨#[]⟩), (.string ⟨#[]⟩), (.string ⟨#[]⟩), (.bool false), (.slice none 0 0), (.bool false), (.slice none 0 0)]), []⟩, ⟨iq 13 (.alloc 165 [(.bool false), (.string ⟨#[]⟩), (.int .u8 0), (.string ⟨#[]⟩), (.string ⟨#[]⟩), (.string ⟨#[]⟩), (.bool false), (.slice none 0 0), (.bool false), (.slice none 0 0)]), []⟩, ⟨⟨none, none, .store 10 (.t 12) (.t 151)⟩, [10, 4, 0, 1, 2, 3, 4, 10, 11]⟩, ⟨⟨none, none, .store 10 (.t 13) (.t 156)⟩, [11, 9, 12, 0, 1, 2, 3, 4, 5, 6, 7, 8, 9, 10, 11, 12]⟩] [0, 1, 0, 7, 15, 0, 32, 0, 224, 480, 0, 0, 3103, 8191])
 (.seq (.region [iq 157 (.fad 0 (.t 12)), iq 158 (.load false 1 (.t 157)), iq 159 (.fad 0 (.t 13)), iq 160 (.load false 1 (.t 159)), iq 161 (.binB .neq (.t 158) (.t 160)), iq 162 (.mv (.t 161)), ⟨some 163, some (162, false), .fad 1 (.t 12)⟩, ⟨some 164, some (162, false), .load false 1 (.t 163)⟩, ⟨some 165, some (162, false), .fad 1 (.t 13)⟩, ⟨some 166, some (162, false), .load false 1 (.t 165)⟩, ⟨some 167, some (162, false), .bin .neq (.t 164) (.t 166)⟩, iq 168 (.pick (.t 162) (.k (.bool true)) (.t 167)), iq 169 (.mv (.t 168)), ⟨some 170, some (169, false), .fad 2 (.t 12)⟩, ⟨some 171, some (169, false), .load false 1 (.t 170)⟩, ⟨some 172, some (169, false), .fad 2 (.t 13)⟩, ⟨some 173, some (169, false), .load false 1 (.t 172)⟩, ⟨some 174, some (169, false), .bin .neq (.t 171) (.t 173)⟩, iq 175 (.pick (.t 169) (.k (.bool true)) (.t 174)), iq 176 (.mv (.t 175)), ⟨some 177, some (176, false), .fad 3 (.t 12)⟩, ⟨some 178, some (176, false), .load false 1 (.t 177)⟩, ⟨some 179, some (176, false), .fad 3 (.t 13)⟩, ⟨some 180, some (176, false), .load false 1 (.t 179)⟩, ⟨some 181, some (176, false), .bin .neq (.t 178) (.t 180)⟩, iq 182 (.pick (.t 176) (.k (.bool true)) (.t 181)), iq 183 (.mv (.t 182)), ⟨some 184, some (183, false), .fad 4 (.t 12)⟩, ⟨some 185, some (183, false), .load false 1 (.t 184)⟩, ⟨some 186, some (183, false), .fad 4 (.t 13)⟩, ⟨some 187, some (183, false), .load false 1 (.t 186)⟩, ⟨some 188, some (183, false), .bin .neq (.t 185) (.t 187)⟩, iq 189 (.pick (.t 183) (.k (.bool true)) (.t 188)), iq 190 (.mv (.t 189)), ⟨some 191, some (190, false), .fad 5 (.t 12)⟩, ⟨some 192, some (190, false), .load false 1 (.t 191)⟩, ⟨some 193, some (190, false), .fad 5 (.t 13)⟩, ⟨some 194, some (190, false), .load false 1 (.t 193)⟩, ⟨some 195, some (190, false), .bin .neq (.t 192) (.t 194)⟩, iq 196 (.pick (.t 190) (.k (.bool true)) (.t 195)), iq 197 (.mv (.t 196)), ⟨some 198, some (197, false), .fad 6 (.t 12)⟩, ⟨some 199, some (197, false), .load true 4 (.t 198)⟩, ⟨some 200, some (197, false), .fad 6 (.t 13)⟩, ⟨some 201, some (197, false), .load true 4 (.t 200)⟩, ⟨some 202, some (197, false), .call 36 [(.t 199), (.t 201)]⟩, ⟨some 203, some (197, false), .un .not (.t 202)⟩, iq 204 (.pick (.t 197) (.k (.bool true)) (.t 203))])
 (.cond (.t 204) (.seq (.region [iq 4 (.mv (.k (.bool false)))])
 .ret)
 .skip))))
 (.region [iq 145 (.mv (.t 11)), iq 146 (.bin .add (.t 145) (.k (.int .i64 1))), iq 11 (.mv (.t 146))]))))))
 (.seq (.seq (.region [iq 14 (.mv (.k (.int .i64 0)))])
 (.block 6 (.loop (.seq (.seq (.region [iq 205 (.mv (.t 14)), iq 206 (.fad 4 (.t 2)), iq 207 (.load false 1 (.t 206)), iq 208 (.len false (.t 207)), iq 209 (.bin .lss (.t 205) (.t 208))])
 (.cond (.t 209) .skip
 (.exit 6)))
 (.seq (.block 7 (.seq (.draw [⟨iq 212 (.fad 4 (.t 2)), []⟩, ⟨iq 213 (.load false 1 (.t 212)), [0]⟩, ⟨iq 214 (.mv (.t 14)), []⟩, ⟨iq 215 (.iad 9 (.t 213) (.t 214)), [1, 2]⟩, ⟨iq 216 (.fad 0 (.t 215)), [3]⟩, ⟨iq 217 (.load false 1 (.t 216)), [4]⟩, ⟨iq 218 (.fad 4 (.t 3)), []⟩, ⟨iq 219 (.load false 1 (.t 218)), [6]⟩, ⟨iq 220 (.mv (.t 14)), []⟩, ⟨iq 221 (.iad 9 (.t 219) (.t 220)), [7, 8]⟩, ⟨iq 222 (.fad 0 (.t 221)), [9]⟩, ⟨iq 223 (.load false 1 (.t 222)), [10]⟩, ⟨iq 224 (.bin .neq (.t 217) (.t 223)), [5, 11]⟩, ⟨iq 225 (.mv (.t 224)), [12]⟩, ⟨⟨some 226, some (225, false), .fad 4 (.t 2)⟩, [13]⟩, ⟨⟨some 227, some (225, false), .load false 1 (.t 226)⟩, [14, 13]⟩, ⟨⟨some 228, some (225, false), .mv (.t 14)⟩, [13]⟩, ⟨⟨some 229, some (225, false), .iad 9 (.t 227) (.t 228)⟩, [15, 16, 13]⟩, ⟨⟨some 230, some (225, false), .fad 1 (.t 229)⟩, [17, 13]⟩, ⟨⟨some 231, some (225, false), .load true 4 (.t 230)⟩, [18, 13]⟩, ⟨⟨some 232, some (225, false), .fad 4 (.t 3)⟩, [13]⟩, ⟨⟨some 233, some (225, false), .load false 1 (.t 232)⟩, [20, 13]⟩, ⟨⟨some 234, some (225, false), .mv (.t 14)⟩, [13]⟩, ⟨⟨some 235, some (225, false), .iad 9 (.t 233) (.t 234)⟩, [21, 22, 13]⟩, ⟨⟨some 236, some (225, false), .fad 1 (.t 235)⟩, [23, 13]⟩, ⟨⟨some 237, some (225, false), .load true 4 (.t 236)⟩, [24, 13]⟩, ⟨⟨some 238, some (225, false), .call 36 [(.t 231), (.t 237)]⟩, [19, 25, 13, 13]⟩, ⟨⟨some 239, some (225, false), .un .not (.t 238)⟩, [26, 13]⟩, ⟨iq 240 (.pick (.t 225) (.k (.bool true)) (.t 239)), [13, 27]⟩, ⟨iq 241 (.mv (.t 240)), [28, 26]⟩, ⟨⟨some 242, some (241, false), .fad 4 (.t 2)⟩, [29]⟩, ⟨⟨some 243, some (241, false), .load false 1 (.t 242)⟩, [30, 29]⟩, ⟨⟨some 244, some (241, false), .mv (.t 14)⟩, [29]⟩, ⟨⟨some 245, some (241, false), .iad 9 (.t 243) (.t 244)⟩, [31, 32, 29]⟩, ⟨⟨some 246, some (241, false), .fad 5 (.t 245)⟩, [33, 29]⟩, ⟨⟨some 247, some (241, false), .load true 4 (.t 246)⟩, [34, 29]⟩, ⟨⟨some 248, some (241, false), .fad 4 (.t 3)⟩, [29]⟩, ⟨⟨some 249, some (241, false), .load false 1 (.t 248)⟩, [36, 29]⟩, ⟨⟨some 250, some (241, false), .mv (.t 14)⟩, [29]⟩, ⟨⟨some 251, some (241, false), .iad 9 (.t 249) (.t 250)⟩, [37, 38, 29]⟩, ⟨⟨some 252, some (241, false), .fad 5 (.t 251)⟩, [39, 29]⟩, ⟨⟨some 253, some (241, false), .load true 4 (.t 252)⟩, [40, 29]⟩, ⟨⟨some 254, some (241, false), .call 36 [(.t 247), (.t 253)]⟩, [35, 41, 29, 29]⟩, ⟨⟨some 255, some (241, false), .un .not (.t 254)⟩, [42, 29]⟩, ⟨iq 256 (.pick (.t 241) (.k (.bool true)) (.t 255)), [29, 43]⟩] [0, 1, 0, 7, 15, 31, 0, 64, 0, 448, 960, 1984, 4095, 8191, 16383, 32767, 16383, 131071, 262143, 524287, 16383, 1064959, 16383, 7356415, 15745023, 32522239, 67108863, 134217727, 268435455, 536870911, 1073741823, 2147483647, 1073741823, 8589934591, 17179869183, 34359738367, 1073741823, 69793218559, 1073741823, 482110078975, 1031865892863, 2131377520639, 4398046511103, 8796093022207, 17592186044415])
 (.cond (.t 256) (.seq (.region [iq 4 (.mv (.k (.bool false)))])
 .ret)
 .skip)))
 (.region [iq 210 (.mv (.t 14)), iq 211 (.bin .add (.t 210) (.k (.int .i64 1))), iq 14 (.mv (.t 211))]))))))
 (.seq (.seq (.region [iq 15 (.mv (.k (.int .i64 0)))])
 (.block 8 (.loop (.seq (.seq (.region [iq 257 (.mv (.t 15)), iq 258 (.fad 5 (.t 2)), iq 259 (.load false 1 (.t 258)), iq 260 (.len false (.t 259)), iq 261 (.bin .lss (.t 257) (.t 260))])
 (.cond (.t 261) .skip
 (.exit 8)))
 (.seq (.block 9 (.seq (.draw [⟨iq 264 (.fad 5 (.t 2)), []⟩, ⟨iq 265 (.load false 1 (.t 264)), [0]⟩, ⟨iq 266 (.mv (.t 15)), []⟩, ⟨iq 267 (.iad 5 (.t 265) (.t 266)), [1, 2]⟩, ⟨iq 268 (.fad 0 (.t 267)), [3]⟩, ⟨iq 269 (.load false 1 (.t 268)), [4]⟩, ⟨iq 270 (.fad 5 (.t 3)), []⟩, ⟨iq 271 (.load false 1 (.t 270)), [6]⟩, ⟨iq 272 (.mv (.t 15)), []⟩, ⟨iq 273 (.iad 5 (.t 271) (.t 272)), [7, 8]⟩, ⟨iq 274 (.fad 0 (.t 273)), [9]⟩, ⟨iq 275 (.load false 1 (.t 274)), [10]⟩, ⟨iq 276 (.bin .neq (.t 269) (.t 275)), [5, 11]⟩, ⟨iq 277 (.mv (.t 276)), [12]⟩, ⟨⟨some 278, some (277, false), .fad 5 (.t 2)⟩, [13]⟩, ⟨⟨some 279, some (277, false), .load false 1 (.t 278)⟩, [14, 13]⟩, ⟨⟨some 280, some (277, false), .mv (.t 15)⟩, [13]⟩, ⟨⟨some 281, some (277, false), .iad 5 (.t 279) (.t 280)⟩, [15, 16, 13]⟩, ⟨⟨some 282, some (277, false), .fad 1 (.t 281)⟩, [17, 13]⟩, ⟨⟨some 283, some (277, false), .load true 4 (.t 282)⟩, [18, 13]⟩, ⟨⟨some 284, some (277, false), .fad 5 (.t 3)⟩, [13]⟩, ⟨⟨some 285, some (277, false), .load false 1 (.t 284)⟩, [20, 13]⟩, ⟨⟨some 286, some (277, false), .mv (.t 15)⟩, [13]⟩, ⟨⟨some 287, some (277, false), .iad 5 (.t 285) (.t 286)⟩, [21, 22, 13]⟩, ⟨⟨some 288, some (277, false), .fad 1 (.t 287)⟩, [23, 13]⟩, ⟨⟨some 289, some (277, false), .load true 4 (.t 288)⟩, [24, 13]⟩, ⟨⟨some 290, some (277, false), .call 36 [(.t 283), (.t 289)]⟩, [19, 25, 13, 13]⟩, ⟨⟨some 291, some (277, false), .un .not (.t 290)⟩, [26, 13]⟩, ⟨iq 292 (.pick (.t 277) (.k (.bool true)) (.t 291)), [13, 27]⟩] [0, 1, 0, 7, 15, 31, 0, 64, 0, 448, 960, 1984, 4095, 8191, 16383, 32767, 16383, 131071, 262143, 524287, 16383, 1064959, 16383, 7356415, 15745023, 32522239, 67108863, 134217727, 268435455])
 (.cond (.t 292) (.seq (.region [iq 4 (.mv (.k (.bool false)))])
 .ret)
 .skip)))
 (.region [iq 262 (.mv (.t 15)), iq 263 (.bin .add (.t 262) (.k (.int .i64 1))), iq 15 (.mv (.t 263))]))))))
 (.seq (.region [iq 4 (.mv (.k (.bool true)))])
 .ret))))))))
def ge37 : FE := ⟨293, y37, [.t 4]⟩
theorem oks37 : FOk Tryz.prog 37 ge37 := FOk.mk1 Tryz.func37 rfl rfl rfl (by kernel_rfl) (by kernel_rfl) (by kernel_rfl)
def y80 : XC := (.seq (.region [iq 2 (.mv (.k (.slice none 0 0)))])
 (.seq (.region [iq 3 (.mv (.k (.slice none 0 0)))])
 (.seq (.region [iq 4 (.mv (.t 3)), iq 5 (.mv (.t 0)), iq 6 (.app 100 1 4 [(.int .u32 0)] (.t 4) (.t 5)), iq 2 (.mv (.t 6))])
 .ret)))
def ge80 : FE := ⟨7, y80, [.t 2]⟩
theorem oks80 : FOk Tryz.prog 80 ge80 := FOk.mk1 Tryz.func80 rfl rfl rfl (by kernel_rfl) (by kernel_rfl) (by kernel_rfl)
def y81 : XC := cloneX 100 1 4 [(.int .u32 0)]
def ge81 : FE := ⟨8, y81, [.t 2]⟩
theorem oks81 : FOk Tryz.prog 81 ge81 := FOk.mk1 Tryz.func81 rfl rfl rfl (by kernel_rfl) (by kernel_rfl) (by kernel_rfl)
def y82 : XC := cloneX 72 8 128 [(.bool false), (.slice none 0 0), (.bool false), (.slice none 0 0), (.bool false), (.slice none 0 0), (.bool false), (.slice none 0 0)]
def ge82 : FE := ⟨8, y82, [.t 2]⟩
theorem oks82 : FOk Tryz.prog 82 ge82 := FOk.mk1 Tryz.func82 rfl rfl rfl (by kernel_rfl) (by kernel_rfl) (by kernel_rfl)
def y83 : XC := cloneX 76 6 88 [(.string ⟨#[]⟩), (.int .u8 0), (.bool false), (.slice none 0 0), (.bool false), (.slice none 0 0)]
def ge83 : FE := ⟨8, y83, [.t 2]⟩
theorem oks83 : FOk Tryz.prog 83 ge83 := FOk.mk1 Tryz.func83 rfl rfl rfl (by kernel_rfl) (by kernel_rfl) (by kernel_rfl)
def y84 : XC := cloneX 55 6 128 [(.int .i64 0), (.slice none 0 0), (.slice none 0 0), (.slice none 0 0), (.slice none 0 0), (.slice none 0 0)]
def ge84 : FE := ⟨8, y84, [.t 2]⟩
theorem oks84 : FOk Tryz.prog 84 ge84 := FOk.mk1 Tryz.func84 rfl rfl rfl (by kernel_rfl) (by kernel_rfl) (by kernel_rfl)
def y85 : XC := copiedX 148 6
def ge85 : FE := ⟨20, y85, [.t 4]⟩
theorem oks85 : FOk Tryz.prog 85 ge85 := FOk.mk1 Tryz.func85 rfl rfl rfl (by kernel_rfl) (by kernel_rfl) (by kernel_rfl)
def y86 : XC := (.region [iq 2 (.mv (.t 0)), iq 3 (.mv (.t 0)), iq 4 (.nilck (.t 3)), iq 5 (.fad 2 (.t 4)), iq 6 (.load true 4 (.t 5)), iq 7 (.call 28 [(.t 6)]), iq 8 (.nilck (.t 2)), iq 9 (.fad 2 (.t 8)), ⟨none, none, .store 4 (.t 9) (.t 7)⟩])
def ge86 : FE := ⟨10, y86, []⟩
theorem oks86 : FOk Tryz.prog 86 ge86 := FOk.mk1 Tryz.func86 rfl rfl rfl (by kernel_rfl) (by kernel_rfl) (by kernel_rfl)
def y87 : XC := copiedX 149 6
def ge87 : FE := ⟨20, y87, [.t 4]⟩
theorem oks87 : FOk Tryz.prog 87 ge87 := FOk.mk1 Tryz.func87 rfl rfl rfl (by kernel_rfl) (by kernel_rfl) (by kernel_rfl)
def y88 : XC := (.region [iq 2 (.mv (.t 0)), iq 3 (.mv (.t 0)), iq 4 (.nilck (.t 3)), iq 5 (.fad 2 (.t 4)), iq 6 (.load true 4 (.t 5)), iq 7 (.call 28 [(.t 6)]), iq 8 (.nilck (.t 2)), iq 9 (.fad 2 (.t 8)), ⟨none, none, .store 4 (.t 9) (.t 7)⟩])
def ge88 : FE := ⟨10, y88, []⟩
theorem oks88 : FOk Tryz.prog 88 ge88 := FOk.mk1 Tryz.func88 rfl rfl rfl (by kernel_rfl) (by kernel_rfl) (by kernel_rfl)
def y89 : XC := copiedX 150 10
def ge89 : FE := ⟨20, y89, [.t 4]⟩
theorem oks89 : FOk Tryz.prog 89 ge89 := FOk.mk1 Tryz.func89 rfl rfl rfl (by kernel_rfl) (by kernel_rfl) (by kernel_rfl)
def y90 : XC := (.region [iq 2 (.mv (.t 0)), iq 3 (.mv (.t 0)), iq 4 (.nilck (.t 3)), iq 5 (.fad 6 (.t 4)), iq 6 (.load true 4 (.t 5)), iq 7 (.call 28 [(.t 6)]), iq 8 (.nilck (.t 2)), iq 9 (.fad 6 (.t 8)), ⟨none, none, .store 4 (.t 9) (.t 7)⟩])
def ge90 : FE := ⟨10, y90, []⟩
theorem oks90 : FOk Tryz.prog 90 ge90 := FOk.mk1 Tryz.func90 rfl rfl rfl (by kernel_rfl) (by kernel_rfl) (by kernel_rfl)
def y91 : XC := copiedX 151 9
def ge91 : FE := ⟨20, y91, [.t 4]⟩
theorem oks91 : FOk Tryz.prog 91 ge91 := FOk.mk1 Tryz.func91 rfl rfl rfl (by kernel_rfl) (by kernel_rfl) (by kernel_rfl)
def y92 : XC := (.draw [⟨iq 2 (.mv (.t 0)), []⟩, ⟨iq 3 (.mv (.t 0)), []⟩, ⟨iq 4 (.mv (.t 0)), []⟩, ⟨iq 5 (.nilck (.t 4)), [2]⟩, ⟨iq 6 (.fad 1 (.t 5)), [3]⟩, ⟨iq 7 (.load true 4 (.t 6)), [4]⟩, ⟨iq 8 (.call 28 [(.t 7)]), [5]⟩, ⟨iq 9 (.mv (.t 0)), []⟩, ⟨iq 10 (.nilck (.t 9)), [7]⟩, ⟨iq 11 (.fad 5 (.t 10)), [8]⟩, ⟨iq 12 (.load true 4 (.t 11)), [9]⟩, ⟨iq 13 (.call 28 [(.t 12)]), [10, 6]⟩, ⟨iq 14 (.nilck (.t 2)), [0, 0, 2, 3, 4, 5, 6, 10, 11]⟩, ⟨iq 15 (.fad 1 (.t 14)), [12, 0, 2, 3, 4, 5, 6, 10, 11]⟩, ⟨⟨none, none, .store 4 (.t 15) (.t 8)⟩, [13, 6, 11, 0, 2, 3, 4, 5, 6, 10, 11]⟩, ⟨iq 16 (.nilck (.t 3)), [1, 0, 1, 2, 3, 4, 5, 6, 7, 8, 9, 10, 11, 12, 13, 14]⟩, ⟨iq 17 (.fad 5 (.t 16)), [15, 0, 1, 2, 3, 4, 5, 6, 7, 8, 9, 10, 11, 12, 13, 14]⟩, ⟨⟨none, none, .store 4 (.t 17) (.t 13)⟩, [16, 11, 14, 0, 1, 2, 3, 4, 5, 6, 7, 8, 9, 10, 11, 12, 13, 14]⟩] [0, 0, 0, 4, 12, 28, 60, 0, 128, 384, 896, 2044, 4093, 8189, 16381, 32767, 65535, 131071])
def ge92 : FE := ⟨18, y92, []⟩
theorem oks92 : FOk Tryz.prog 92 ge92 := FOk.mk1 Tryz.func92 rfl rfl rfl (by kernel_rfl) (by kernel_rfl) (by kernel_rfl)
def y93 : XC := copiedX 152 5
def ge93 : FE := ⟨20, y93, [.t 4]⟩
theorem oks93 : FOk Tryz.prog 93 ge93 := FOk.mk1 Tryz.func93 rfl rfl rfl (by kernel_rfl) (by kernel_rfl) (by kernel_rfl)
def y94 : XC := (.region [iq 2 (.mv (.t 0)), iq 3 (.mv (.t 0)), iq 4 (.nilck (.t 3)), iq 5 (.fad 1 (.t 4)), iq 6 (.load true 4 (.t 5)), iq 7 (.call 28 [(.t 6)]), iq 8 (.nilck (.t 2)), iq 9 (.fad 1 (.t 8)), ⟨none, none, .store 4 (.t 9) (.t 7)⟩])
def ge94 : FE := ⟨10, y94, []⟩
theorem oks94 : FOk Tryz.prog 94 ge94 := FOk.mk1 Tryz.func94 rfl rfl rfl (by kernel_rfl) (by kernel_rfl) (by kernel_rfl)
def y95 : XC := (.seq (.region [iq 2 (.box 36 (.t 0)), iq 3 (.box 36 (.t 1)), iq 4 (.mv (.k (.bool false)))])
 (.seq (.seq (.region [iq 6 (.fad 0 (.t 2)), iq 7 (.load false 1 (.t 6)), iq 8 (.fad 0 (.t 3)), iq 9 (.load false 1 (.t 8)), iq 10 (.binB .neq (.t 7) (.t 9)), iq 11 (.mv (.t 10)), ⟨some 12, some (11, false), .fad 1 (.t 2)⟩, ⟨some 13, some (11, false), .load false 1 (.t 12)⟩, ⟨some 14, some (11, false), .len false (.t 13)⟩, ⟨some 15, some (11, false), .fad 1 (.t 3)⟩, ⟨some 16, some (11, false), .load false 1 (.t 15)⟩, ⟨some 17, some (11, false), .len false (.t 16)⟩, ⟨some 18, some (11, false), .bin .neq (.t 14) (.t 17)⟩, iq 19 (.pick (.t 11) (.k (.bool true)) (.t 18))])
 (.cond (.t 19) (.seq (.region [iq 4 (.mv (.k (.bool false)))])
 .ret)
 .skip))
 (.seq (.seq (.region [iq 5 (.mv (.k (.int .i64 0)))])
 (.block 0 (.loop (.seq (.seq (.region [iq 20 (.mv (.t 5)), iq 21 (.fad 1 (.t 2)), iq 22 (.load false 1 (.t 21)), iq 23 (.len false (.t 22)), iq 24 (.bin .lss (.t 20) (.t 23))])
 (.cond (.t 24) .skip
 (.exit 0)))
 (.seq (.block 1 (.seq (.draw [⟨iq 27 (.fad 1 (.t 2)), []⟩, ⟨iq 28 (.load false 1 (.t 27)), [0]⟩, ⟨iq 29 (.mv (.t 5)), []⟩, ⟨iq 30 (.iad 1 (.t 28) (.t 29)), [1, 2]⟩, ⟨iq 31 (.load false 1 (.t 30)), [3]⟩, ⟨iq 32 (.fad 1 (.t 3)), []⟩, ⟨iq 33 (.load false 1 (.t 32)), [5]⟩, ⟨iq 34 (.mv (.t 5)), []⟩, ⟨iq 35 (.iad 1 (.t 33) (.t 34)), [6, 7]⟩, ⟨iq 36 (.load false 1 (.t 35)), [8]⟩, ⟨iq 37 (.bin .neq (.t 31) (.t 36)), [4, 9]⟩] [0, 1, 0, 7, 15, 0, 32, 0, 224, 480, 1023])
 (.cond (.t 37) (.seq (.region [iq 4 (.mv (.k (.bool false)))])
 .ret)
 .skip)))
 (.region [iq 25 (.mv (.t 5)), iq 26 (.bin .add (.t 25) (.k (.int .i64 1))), iq 5 (.mv (.t 26))]))))))
 (.seq (.region [iq 4 (.mv (.k (.bool true)))])
 .ret))))
def ge95 : FE := ⟨38, y95, [.t 4]⟩
theorem oks95 : FOk Tryz.prog 95 ge95 := FOk.mk1 Tryz.func95 rfl rfl rfl (by kernel_rfl) (by kernel_rfl) (by kernel_rfl)
def y148 : XC := cloneX 102 6 96 [(.string ⟨#[]⟩), (.string ⟨#[]⟩), (.bool false), (.slice none 0 0), (.bool false), (.slice none 0 0)]
def ge148 : FE := ⟨8, y148, [.t 2]⟩
theorem oks148 : FOk Tryz.prog 148 ge148 := FOk.mk1 Tryz.func148 rfl rfl rfl (by kernel_rfl) (by kernel_rfl) (by kernel_rfl)
def y149 : XC := cloneX 104 6 96 [(.string ⟨#[]⟩), (.string ⟨#[]⟩), (.bool false), (.slice none 0 0), (.bool false), (.slice none 0 0)]
def ge149 : FE := ⟨8, y149, [.t 2]⟩
theorem oks149 : FOk Tryz.prog 149 ge149 := FOk.mk1 Tryz.func149 rfl rfl rfl (by kernel_rfl) (by kernel_rfl) (by kernel_rfl)
def y150 : XC := cloneX 106 10 144 [(.bool false), (.string ⟨#[]⟩), (.int .u8 0), (.string ⟨#[]⟩), (.string ⟨#[]⟩), (.string ⟨#[]⟩), (.bool false), (.slice none 0 0), (.bool false), (.slice none 0 0)]
def ge150 : FE := ⟨8, y150, [.t 2]⟩
theorem oks150 : FOk Tryz.prog 150 ge150 := FOk.mk1 Tryz.func150 rfl rfl rfl (by kernel_rfl) (by kernel_rfl) (by kernel_rfl)
def y151 : XC := cloneX 108 9 144 [(.string ⟨#[]⟩), (.bool false), (.slice none 0 0), (.bool false), (.slice none 0 0), (.bool false), (.slice none 0 0), (.bool false), (.slice none 0 0)]
def ge151 : FE := ⟨8, y151, [.t 2]⟩
theorem oks151 : FOk Tryz.prog 151 ge151 := FOk.mk1 Tryz.func151 rfl rfl rfl (by kernel_rfl) (by kernel_rfl) (by kernel_rfl)
def y152 : XC := cloneX 110 5 80 [(.string ⟨#[]⟩), (.bool false), (.slice none 0 0), (.bool false), (.slice none 0 0)]
def ge152 : FE := ⟨8, y152, [.t 2]⟩
theorem oks152 : FOk Tryz.prog 152 ge152 := FOk.mk1 Tryz.func152 rfl rfl rfl (by kernel_rfl) (by kernel_rfl) (by kernel_rfl)
def tS : List (Nat × FE) := [(3, ge3), (6, ge6), (8, ge8), (9, ge9), (10, ge10), (11, ge11), (16, ge16), (17, ge17), (18, ge18), (19, ge19), (26, ge26), (27, ge27), (28, ge28), (29, ge29), (30, ge30), (31, ge31), (32, ge32), (33, ge33), (34, ge34), (35, ge35), (36, ge36), (37, ge37), (80, ge80), (81, ge81), (82, ge82), (83, ge83), (84, ge84), (85, ge85), (86, ge86), (87, ge87), (88, ge88), (89, ge89), (90, ge90), (91, ge91), (92, ge92), (93, ge93), (94, ge94), (95, ge95), (148, ge148), (149, ge149), (150, ge150), (151, ge151), (152, ge152)]
theorem tS_ok : TblOk Tryz.prog (mkT tS) := mkT_ok (all_c1 oks3 (all_c1 oks6 (all_c1 oks8 (all_c1 oks9 (all_c1 oks10 (all_c1 oks11 (all_c1 oks16 (all_c1 oks17 (all_c1 oks18 (all_c1 oks19 (all_c1 oks26 (all_c1 oks27 (all_c1 oks28 (all_c1 oks29 (all_c1 oks30 (all_c1 oks31 (all_c1 oks32 (all_c1 oks33 (all_c1 oks34 (all_c1 oks35 (all_c1 oks36 (all_c1 oks37 (all_c1 oks80 (all_c1 oks81 (all_c1 oks82 (all_c1 oks83 (all_c1 oks84 (all_c1 oks85 (all_c1 oks86 (all_c1 oks87 (all_c1 oks88 (all_c1 oks89 (all_c1 oks90 (all_c1 oks91 (all_c1 oks92 (all_c1 oks93 (all_c1 oks94 (all_c1 oks95 (all_c1 oks148 (all_c1 oks149 (all_c1 oks150 (all_c1 oks151 (all_c1 oks152 (fun p hp => absurd hp List.not_mem_nil))))))))))))))))))))))))))))))))))))))))))))
theorem tS_get3 : (mkT tS).get 3 = some ge3 := by kernel_rfl
theorem tS_get6 : (mkT tS).get 6 = some ge6 := by kernel_rfl
theorem tS_get8 : (mkT tS).get 8 = some ge8 := by kernel_rfl
theorem tS_get9 : (mkT tS).get 9 = some ge9 := by kernel_rfl
theorem tS_get10 : (mkT tS).get 10 = some ge10 := by kernel_rfl
theorem tS_get11 : (mkT tS).get 11 = some ge11 := by kernel_rfl
theorem tS_get16 : (mkT tS).get 16 = some ge16 := by kernel_rfl
theorem tS_get17 : (mkT tS).get 17 = some ge17 := by kernel_rfl
theorem tS_get18 : (mkT tS).get 18 = some ge18 := by kernel_rfl
theorem tS_get19 : (mkT tS).get 19 = some ge19 := by kernel_rfl
theorem tS_get26 : (mkT tS).get 26 = some ge26 := by kernel_rfl
theorem tS_get27 : (mkT tS).get 27 = some ge27 := by kernel_rfl
theorem tS_get28 : (mkT tS).get 28 = some ge28 := by kernel_rfl
theorem tS_get29 : (mkT tS).get 29 = some ge29 := by kernel_rfl
theorem tS_get30 : (mkT tS).get 30 = some ge30 := by kernel_rfl
theorem tS_get31 : (mkT tS).get 31 = some ge31 := by kernel_rfl
theorem tS_get32 : (mkT tS).get 32 = some ge32 := by kernel_rfl
theorem tS_get33 : (mkT tS).get 33 = some ge33 := by kernel_rfl
theorem tS_get34 : (mkT tS).get 34 = some ge34 := by kernel_rfl
theorem tS_get35 : (mkT tS).get 35 = some ge35 := by kernel_rfl
theorem tS_get36 : (mkT tS).get 36 = some ge36 := by kernel_rfl
theorem tS_get37 : (mkT tS).get 37 = some ge37 := by kernel_rfl
theorem tS_get80 : (mkT tS).get 80 = some ge80 := by kernel_rfl
theorem tS_get81 : (mkT tS).get 81 = some ge81 := by kernel_rfl
theorem tS_get82 : (mkT tS).get 82 = some ge82 := by kernel_rfl
theorem tS_get83 : (mkT tS).get 83 = some ge83 := by kernel_rfl
theorem tS_get84 : (mkT tS).get 84 = some ge84 := by kernel_rfl
theorem tS_get85 : (mkT tS).get 85 = some ge85 := by kernel_rfl
theorem tS_get86 : (mkT tS).get 86 = some ge86 := by kernel_rfl
theorem tS_get87 : (mkT tS).get 87 = some ge87 := by kernel_rfl
theorem tS_get88 : (mkT tS).get 88 = some ge88 := by kernel_rfl
theorem tS_get89 : (mkT tS).get 89 = some ge89 := by kernel_rfl
theorem tS_get90 : (mkT tS).get 90 = some ge90 := by kernel_rfl
theorem tS_get91 : (mkT tS).get 91 = some ge91 := by kernel_rfl
theorem tS_get92 : (mkT tS).get 92 = some ge92 := by kernel_rfl
theorem tS_get93 : (mkT tS).get 93 = some ge93 := by kernel_rfl
theorem tS_get94 : (mkT tS).get 94 = some ge94 := by kernel_rfl
theorem tS_get95 : (mkT tS).get 95 = some ge95 := by kernel_rfl
theorem tS_get148 : (mkT tS).get 148 = some ge148 := by kernel_rfl
theorem tS_get149 : (mkT tS).get 149 = some ge149 := by kernel_rfl
theorem tS_get150 : (mkT tS).get 150 = some ge150 := by kernel_rfl
theorem tS_get151 : (mkT tS).get 151 = some ge151 := by kernel_rfl
theorem tS_get152 : (mkT tS).get 152 = some ge152 := by kernel_rfl
theorem hS_ok : CallSnd Tryz.prog (handL [W.e838] noHand) := handL_snd noHand_snd (all_m W.m838 (fun p hp => absurd hp List.not_mem_nil))
abbrev E (k : Nat) : Call' := evF (mkT tS) (handL [W.e838] noHand) K0 k
end Go.Proofs.YtlhgffgfigkghaaGreatDoor
