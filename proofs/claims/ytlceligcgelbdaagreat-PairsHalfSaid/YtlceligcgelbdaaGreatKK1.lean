/- The code of functions that a closed call runs, found in the program. -/
import Derived.Test.YtlceligcgelbdaaGreatChecked
import Derived.KernelRfl
import Derived.WalkKit
import Derived.Orders
import Derived.Test.YtlceligcgelbdaaGreatKA5
set_option linter.unusedVariables false
set_option maxRecDepth 100000
set_option maxHeartbeats 4000000
namespace Go.Proofs.YtlceligcgelbdaaGreat
open Go.CE
def fe34:Gc Tryz.prog Tryz.f34:=.m _
theorem ok34:FOk Tryz.prog 34 fe34.e.fe:=fe34.ok Tryz.func34
def fe37:Gc Tryz.prog Tryz.f37:=.m _
theorem ok37:FOk Tryz.prog 37 fe37.e.fe:=fe37.ok Tryz.func37
def fe38:Gc Tryz.prog Tryz.f38:=.m _
theorem ok38:FOk Tryz.prog 38 fe38.e.fe:=fe38.ok Tryz.func38
def fe39:Gc Tryz.prog Tryz.f39:=.m _
theorem ok39:FOk Tryz.prog 39 fe39.e.fe:=fe39.ok Tryz.func39
def fe42:Gc Tryz.prog Tryz.f42:=.m _
theorem ok42:FOk Tryz.prog 42 fe42.e.fe:=fe42.ok Tryz.func42
def x45 : X2 := (.seq (.region [⟨some (.b .h), none, .gen (.box 101 (.t 0))⟩, ⟨some (.b (.a .h)), none, .mv (.o (.k (.slice none 0 0)))⟩, ⟨some (.a (.b .h)), none, .mv (.i .i64 0)⟩, ⟨some (.b (.b .h)), none, .mv (.i .i64 0)⟩])
 (.seq (.seq (.region [⟨some (.a (.b (.a (.a .h)))), none, .mv (.t (.a .h))⟩, ⟨some (.b (.b (.a (.a .h)))), none, .bin .lss (.t (.a (.b (.a (.a .h))))) (.i .i64 0)⟩, ⟨some (.a (.a (.b (.a .h)))), none, .mv (.t (.b (.b (.a (.a .h)))))⟩, ⟨some (.b (.a (.b (.a .h)))), some ((.a (.a (.b (.a .h)))), false), .mv (.t (.a .h))⟩, ⟨some (.a (.b (.b (.a .h)))), some ((.a (.a (.b (.a .h)))), false), .fad 24 (.t (.b .h))⟩, ⟨some (.b (.b (.b (.a .h)))), some ((.a (.a (.b (.a .h)))), false), .load false 1 (.t (.a (.b (.b (.a .h)))))⟩, ⟨some (.a (.a (.a (.b .h)))), some ((.a (.a (.b (.a .h)))), false), .len (.t (.b (.b (.b (.a .h)))))⟩, ⟨some (.b (.a (.a (.b .h)))), some ((.a (.a (.b (.a .h)))), false), .bin .geq (.t (.b (.a (.b (.a .h))))) (.t (.a (.a (.a (.b .h)))))⟩, ⟨some (.a (.b (.a (.b .h)))), none, .pick (.t (.a (.a (.b (.a .h))))) (.o (.k (.bool true))) (.t (.b (.a (.a (.b .h)))))⟩])
 (.cond (.t (.a (.b (.a (.b .h))))) (.seq (.region [⟨some (.b (.a .h)), none, .mv (.o (.k (.slice none 0 0)))⟩, ⟨some (.a (.b .h)), none, .mv (.i .i64 0)⟩, ⟨some (.b (.b .h)), none, .mv (.i .i64 2)⟩])
 .ret)
 .skip))
 (.seq (.draw [⟨⟨some 26, none, .load true 25 (.t 2)⟩, []⟩, ⟨⟨some 27, none, .call 101 [(.t 26)]⟩, [0]⟩, ⟨⟨some 28, none, .fad 22 (.t 2)⟩, []⟩, ⟨⟨some 29, none, .load false 1 (.t 28)⟩, [2]⟩, ⟨⟨some 30, none, .build [(.slice none 0 0), (.slice none 0 0)] [(0, 1, (.t 27)), (1, 1, (.t 29))]⟩, [1, 3]⟩, ⟨⟨some 7, none, .alloc 228 [(.slice none 0 0), (.slice none 0 0)]⟩, []⟩, ⟨⟨none, none, .store 2 (.t 7) (.t 30)⟩, [5, 4, 1, 0, 1, 2, 3, 4, 5]⟩] [0, 1, 0, 4, 15, 0, 63])
 (.seq (.region [⟨some (.a (.a (.a (.a (.a .h))))), none, .fad 24 (.t (.b .h))⟩, ⟨some (.b (.a (.a (.a (.a .h))))), none, .load false 1 (.t (.a (.a (.a (.a (.a .h))))))⟩, ⟨some (.a (.b (.a (.a (.a .h))))), none, .mv (.t (.a .h))⟩, ⟨some (.b (.b (.a (.a (.a .h))))), none, .iad 6 (.t (.b (.a (.a (.a (.a .h)))))) (.t (.a (.b (.a (.a (.a .h))))))⟩, ⟨some (.a (.a (.b (.a (.a .h))))), none, .fad 3 (.t (.b (.b (.a (.a (.a .h))))))⟩, ⟨some (.b (.a (.b (.a (.a .h))))), none, .load false 1 (.t (.a (.a (.b (.a (.a .h))))))⟩, ⟨some (.b (.a (.a .h))), none, .mv (.t (.b (.a (.b (.a (.a .h))))))⟩])
 (.seq (.region [⟨some (.a (.b (.b (.a (.a .h))))), none, .gen (.mkm)⟩, ⟨some (.a (.b (.a .h))), none, .mv (.t (.a (.b (.b (.a (.a .h))))))⟩])
 (.seq (.seq (.region [⟨some (.b (.b (.b (.a (.a .h))))), none, .mv (.t (.b (.a (.a .h))))⟩, ⟨some (.a (.a (.a (.b (.a .h))))), none, .len (.t (.b (.b (.b (.a (.a .h))))))⟩, ⟨some (.b (.a (.a (.b (.a .h))))), none, .mv (.i .i64 0)⟩])
 (.block 0 (.loop (.seq (.region [⟨some (.a (.b (.a (.b (.a .h))))), none, .bin .lss (.t (.b (.a (.a (.b (.a .h)))))) (.t (.a (.a (.a (.b (.a .h))))))⟩])
 (.seq (.cond (.t (.a (.b (.a (.b (.a .h)))))) .skip
 (.exit 0))
 (.seq (.block 1 (.seq (.region [⟨some (.b (.b (.a (.b (.a .h))))), none, .mv (.t (.b (.a (.a (.b (.a .h))))))⟩, ⟨some (.a (.a (.b (.b (.a .h))))), none, .iad 10 (.t (.b (.b (.b (.a (.a .h)))))) (.t (.b (.a (.a (.b (.a .h))))))⟩, ⟨some (.b (.a (.b (.b (.a .h))))), none, .load true 10 (.t (.a (.a (.b (.b (.a .h))))))⟩, ⟨some (.a (.a (.b .h))), none, .gen (.alloc 136 [(.bool false), (.string ⟨#[]⟩), (.int .u8 0), (.string ⟨#[]⟩), (.string ⟨#[]⟩), (.string ⟨#[]⟩), (.bool false), (.slice none 0 0), (.bool false), (.slice none 0 0)])⟩, ⟨some (.b (.b (.a .h))), none, .mv (.t (.b (.b (.a (.b (.a .h))))))⟩, ⟨none, none, .store 10 (.t (.a (.a (.b .h)))) (.t (.b (.a (.b (.b (.a .h))))))⟩])
 (.draw [⟨⟨some 45,none,.mv (.t 9)⟩,[]⟩,⟨⟨some 46,none,.fad 1 (.t 11)⟩,[]⟩,⟨⟨some 47,none,.load false 1 (.t 46)⟩,[1]⟩,⟨⟨some 48,none,.mv (.t 9)⟩,[]⟩,⟨⟨some 49,none,.fad 1 (.t 11)⟩,[]⟩,⟨⟨some 50,none,.load false 1 (.t 49)⟩,[4]⟩,⟨⟨some 51,none,.look true [(.slice none 0 0)] false (.t 48) (.t 50) false⟩,[3,5]⟩,⟨⟨some 52,none,.mv (.t 10)⟩,[]⟩,⟨⟨some 53,none,.bslice 3 1 1 [(.int .i64 0)] [(0,(.t 52))]⟩,[7]⟩,⟨⟨some 54,none,.app 3 1 8 [(.int .i64 0)] (.t 51) (.t 53)⟩,[6,8]⟩,⟨⟨none,none,.mupd true (.t 45) (.t 47) (.t 54)⟩,[0,2,9,9,0,1,2,3,4,5,6,7,8,9]⟩] [0,0,2,0,0,16,56,0,128,504,1023])))
 (.region [⟨some (.a (.a (.a (.b (.b .h))))),none,.bin .add (.t (.b (.a (.a (.b (.a .h)))))) (.i .i64 1)⟩,⟨some (.b (.a (.a (.b (.a .h))))),none,.mv (.t (.a (.a (.a (.b (.b .h))))))⟩])))))))
 (.seq (.seq (.region [⟨some (.b (.a (.a (.b (.b .h))))), none, .mv (.t (.b (.a (.a .h))))⟩, ⟨some (.a (.b (.a (.b (.b .h))))), none, .len (.t (.b (.a (.a (.b (.b .h))))))⟩, ⟨some (.b (.b (.a (.b (.b .h))))), none, .mv (.i .i64 0)⟩])
 (.block 2 (.loop (.seq (.region [⟨some (.a (.a (.b (.b (.b .h))))), none, .bin .lss (.t (.b (.b (.a (.b (.b .h)))))) (.t (.a (.b (.a (.b (.b .h))))))⟩])
 (.seq (.cond (.t (.a (.a (.b (.b (.b .h)))))) .skip
 (.exit 2))
 (.seq (.block 3 (.seq (.region [⟨some (.b (.a (.b (.b (.b .h))))), none, .mv (.t (.b (.b (.a (.b (.b .h))))))⟩, ⟨some (.a (.b (.b (.b (.b .h))))), none, .iad 10 (.t (.b (.a (.a (.b (.b .h)))))) (.t (.b (.b (.a (.b (.b .h))))))⟩, ⟨some (.b (.b (.b (.b (.b .h))))), none, .load true 10 (.t (.a (.b (.b (.b (.b .h))))))⟩, ⟨some (.a (.b (.b .h))), none, .gen (.alloc 136 [(.bool false), (.string ⟨#[]⟩), (.int .u8 0), (.string ⟨#[]⟩), (.string ⟨#[]⟩), (.string ⟨#[]⟩), (.bool false), (.slice none 0 0), (.bool false), (.slice none 0 0)])⟩, ⟨some (.b (.a (.b .h))), none, .mv (.t (.b (.a (.b (.b (.b .h))))))⟩, ⟨none, none, .store 10 (.t (.a (.b (.b .h)))) (.t (.b (.b (.b (.b (.b .h))))))⟩])
 (.seq (.region [⟨some (.a (.a (.a (.a (.a (.a .h)))))), none, .mv (.t (.a (.b (.a .h))))⟩, ⟨some (.b (.a (.a (.a (.a (.a .h)))))), none, .fad 1 (.t (.a (.b (.b .h))))⟩, ⟨some (.a (.b (.a (.a (.a (.a .h)))))), none, .load false 1 (.t (.b (.a (.a (.a (.a (.a .h)))))))⟩, ⟨some (.b (.b (.a (.a (.a (.a .h)))))), none, .gen (.look true [(.slice none 0 0)] false (.t 63) (.t 65) false)⟩, ⟨some (.b (.b (.b .h))), none, .mv (.t (.b (.b (.a (.a (.a (.a .h)))))))⟩])
 (.seq (.seq (.region [⟨some (.a (.a (.b (.a (.a (.a .h)))))), none, .load true 2 (.t (.a (.a (.a .h))))⟩, ⟨some (.b (.a (.b (.a (.a (.a .h)))))), none, .load true 10 (.t (.a (.b (.b .h))))⟩, ⟨some (.a (.b (.b (.a (.a (.a .h)))))), none, .call 102 [(.t (.a (.a (.b (.a (.a (.a .h))))))), (.t (.b (.a (.b (.a (.a (.a .h)))))))]⟩, ⟨some (.b (.b (.b (.a (.a (.a .h)))))), none, .gen (.un .not (.t 69))⟩, ⟨some (.a (.a (.a (.b (.a (.a .h)))))), none, .mv (.t (.b (.b (.b (.a (.a (.a .h)))))))⟩, ⟨some (.b (.a (.a (.b (.a (.a .h)))))), some ((.a (.a (.a (.b (.a (.a .h)))))), false), .mv (.t (.b (.b (.b .h))))⟩, ⟨some (.a (.b (.a (.b (.a (.a .h)))))), some ((.a (.a (.a (.b (.a (.a .h)))))), false), .len (.t (.b (.a (.a (.b (.a (.a .h)))))))⟩, ⟨some (.b (.b (.a (.b (.a (.a .h)))))), some ((.a (.a (.a (.b (.a (.a .h)))))), false), .bin .neq (.t (.a (.b (.a (.b (.a (.a .h))))))) (.i .i64 2)⟩, ⟨some (.a (.a (.b (.b (.a (.a .h)))))), none, .pick (.t (.a (.a (.a (.b (.a (.a .h))))))) (.o (.k (.bool true))) (.t (.b (.b (.a (.b (.a (.a .h)))))))⟩])
 (.cond (.t (.a (.a (.b (.b (.a (.a .h))))))) (.seq (.region [⟨some (.b (.a (.b (.b (.a (.a .h)))))), none, .mv (.t (.b (.a (.b .h))))⟩, ⟨some (.b (.a .h)), none, .mv (.o (.k (.slice none 0 0)))⟩, ⟨some (.a (.b .h)), none, .mv (.t (.b (.a (.b (.b (.a (.a .h)))))))⟩, ⟨some (.b (.b .h)), none, .mv (.i .i64 200)⟩])
 .ret)
 .skip))
 (.seq (.draw [⟨⟨some 77, none, .mv (.t 8)⟩, []⟩, ⟨⟨some 78, none, .mv (.t 14)⟩, []⟩, ⟨⟨some 79, none, .iad 1 (.t 78) (.k (.int .i64 0))⟩, [1]⟩, ⟨⟨some 80, none, .load false 1 (.t 79)⟩, [2]⟩, ⟨⟨some 81, none, .iad 10 (.t 77) (.t 80)⟩, [0, 3]⟩, ⟨⟨some 82, none, .load true 10 (.t 81)⟩, [4]⟩, ⟨⟨some 83, none, .mv (.t 8)⟩, []⟩, ⟨⟨some 84, none, .mv (.t 14)⟩, []⟩, ⟨⟨some 85, none, .iad 1 (.t 84) (.k (.int .i64 1))⟩, [7]⟩, ⟨⟨some 86, none, .load false 1 (.t 85)⟩, [8]⟩, ⟨⟨some 87, none, .iad 10 (.t 83) (.t 86)⟩, [6, 9]⟩, ⟨⟨some 88, none, .load true 10 (.t 87)⟩, [10]⟩, ⟨⟨some 15, none, .alloc 136 [(.bool false), (.string ⟨#[]⟩), (.int .u8 0), (.string ⟨#[]⟩), (.string ⟨#[]⟩), (.string ⟨#[]⟩), (.bool false), (.slice none 0 0), (.bool false), (.slice none 0 0)]⟩, []⟩, ⟨⟨some 16, none, .alloc 136 [(.bool false), (.string ⟨#[]⟩), (.int .u8 0), (.string ⟨#[]⟩), (.string ⟨#[]⟩), (.string ⟨#[]⟩), (.bool false), (.slice none 0 0), (.bool false), (.slice none 0 0)]⟩, []⟩, ⟨⟨none, none, .store 10 (.t 15) (.t 82)⟩, [12, 5, 0, 1, 2, 3, 4, 5, 12, 13]⟩, ⟨⟨none, none, .store 10 (.t 16) (.t 88)⟩, [13, 11, 14, 0, 1, 2, 3, 4, 5, 6, 7, 8, 9, 10, 11, 12, 13, 14]⟩] [0, 0, 2, 6, 15, 31, 0, 0, 128, 384, 960, 1984, 0, 0, 12351, 32767])
 (.seq (.seq (.draw [⟨⟨some 89, none, .load true 10 (.t 15)⟩, []⟩, ⟨⟨some 90, none, .call 103 [(.t 89)]⟩, [0]⟩, ⟨⟨some 91, none, .load true 10 (.t 16)⟩, []⟩, ⟨⟨some 92, none, .call 103 [(.t 91)]⟩, [2, 1]⟩, ⟨⟨some 93, none, .binA true [.s, .i, .s, .s] (.t 90) (.t 92)⟩, [1, 3]⟩, ⟨⟨some 94, none, .mv (.t 93)⟩, [4, 3]⟩, ⟨⟨some 95, some (94, false), .fad 0 (.t 15)⟩, [5]⟩, ⟨⟨some 96, some (94, false), .load false 1 (.t 95)⟩, [6, 5]⟩, ⟨⟨some 97, some (94, false), .fad 0 (.t 16)⟩, [5]⟩, ⟨⟨some 98, some (94, false), .load false 1 (.t 97)⟩, [8, 5]⟩, ⟨⟨some 99, some (94, false), .binB .eql (.t 96) (.t 98)⟩, [7, 9, 5]⟩, ⟨⟨some 100, none, .pick (.t 94) (.k (.bool true)) (.t 99)⟩, [5, 10]⟩, ⟨⟨some 101, none, .mv (.t 100)⟩, [11, 5]⟩, ⟨⟨some 102, some (101, false), .fad 6 (.t 15)⟩, [12]⟩, ⟨⟨some 103, some (101, false), .load true 4 (.t 102)⟩, [13, 12]⟩, ⟨⟨some 104, some (101, false), .fad 6 (.t 16)⟩, [12]⟩, ⟨⟨some 105, some (101, false), .load true 4 (.t 104)⟩, [15, 12]⟩, ⟨⟨some 106, some (101, false), .call 104 [(.t 103), (.t 105)]⟩, [14, 16, 12, 12]⟩, ⟨⟨some 107, some (101, false), .un .not (.t 106)⟩, [17, 12]⟩, ⟨⟨some 108, none, .pick (.t 101) (.k (.bool true)) (.t 107)⟩, [12, 18]⟩] [0, 1, 0, 7, 15, 31, 63, 127, 63, 319, 1023, 2047, 4095, 8191, 16383, 8191, 40959, 131071, 262143, 524287])
 (.cond (.t (.b (.a (.b (.b (.a (.b .h))))))) (.seq (.region [⟨some (.a (.b (.b (.b (.a (.b .h)))))), none, .mv (.t (.b (.a (.b .h))))⟩, ⟨some (.b (.a .h)), none, .mv (.o (.k (.slice none 0 0)))⟩, ⟨some (.a (.b .h)), none, .mv (.t (.a (.b (.b (.b (.a (.b .h)))))))⟩, ⟨some (.b (.b .h)), none, .mv (.i .i64 200)⟩])
 .ret)
 .skip))
 (.seq (.region [⟨some (.b (.b (.b (.b (.a (.b .h)))))), none, .fad 0 (.t (.a (.b (.b .h))))⟩, ⟨some (.a (.a (.a (.a (.b (.b .h)))))), none, .load false 1 (.t (.b (.b (.b (.b (.a (.b .h)))))))⟩])
 (.cond (.t (.a (.a (.a (.a (.b (.b .h))))))) (.draw [⟨⟨some 112, none, .mv (.t 4)⟩, []⟩, ⟨⟨some 113, none, .load true 2 (.t 7)⟩, []⟩, ⟨⟨some 114, none, .load true 10 (.t 13)⟩, []⟩, ⟨⟨some 115, none, .mv (.t 8)⟩, []⟩, ⟨⟨some 116, none, .mv (.t 14)⟩, []⟩, ⟨⟨some 117, none, .iad 1 (.t 116) (.k (.int .i64 0))⟩, [4]⟩, ⟨⟨some 118, none, .load false 1 (.t 117)⟩, [5]⟩, ⟨⟨some 119, none, .mv (.t 14)⟩, []⟩, ⟨⟨some 120, none, .iad 1 (.t 119) (.k (.int .i64 1))⟩, [7]⟩, ⟨⟨some 121, none, .load false 1 (.t 120)⟩, [8]⟩, ⟨⟨some 122, none, .bin .add (.t 118) (.t 121)⟩, [6, 9]⟩, ⟨⟨some 123, none, .mv (.t 12)⟩, []⟩, ⟨⟨some 124, none, .bin .sub (.t 122) (.t 123)⟩, [10, 11]⟩, ⟨⟨some 125, none, .iad 10 (.t 115) (.t 124)⟩, [3, 12]⟩, ⟨⟨some 126, none, .load true 10 (.t 125)⟩, [13]⟩, ⟨⟨some 127, none, .call 105 [(.t 113), (.t 114), (.t 126)]⟩, [1, 2, 14]⟩, ⟨⟨some 128, none, .bslice 116 10 1 [(.string ⟨#[]⟩), (.int .u8 0), (.int .i64 0), (.int .i64 0), (.int .i64 0), (.int .i64 0), (.bool false), (.slice none 0 0), (.bool false), (.slice none 0 0)] [(0, (.t 127))]⟩, [15]⟩, ⟨⟨some 129, none, .app 116 10 120 [(.string ⟨#[]⟩), (.int .u8 0), (.int .i64 0), (.int .i64 0), (.int .i64 0), (.int .i64 0), (.bool false), (.slice none 0 0), (.bool false), (.slice none 0 0)] (.t 112) (.t 128)⟩, [0, 16, 15]⟩, ⟨⟨some 4, none, .mv (.t 129)⟩, [17, 17, 0, 1, 2, 3, 4, 5, 6, 7, 8, 9, 10, 11, 12, 13, 14, 15, 16, 17]⟩] [0, 0, 0, 0, 0, 16, 48, 0, 128, 384, 1008, 0, 4080, 8184, 16376, 32766, 65534, 131071, 262143])
 .skip))))))))
 (.region [⟨some (.b (.b (.a (.a (.a (.a (.a .h))))))),none,.bin .add (.t (.b (.b (.a (.b (.b .h)))))) (.i .i64 1)⟩,⟨some (.b (.b (.a (.b (.b .h))))),none,.mv (.t (.b (.b (.a (.a (.a (.a (.a .h))))))))⟩])))))))
 (.seq (.region [⟨some (.a (.a (.b (.a (.a (.a (.a .h))))))), none, .mv (.t (.b (.a .h)))⟩, ⟨some (.b (.a (.b (.a (.a (.a (.a .h))))))), none, .call 106 [(.t (.a (.a (.b (.a (.a (.a (.a .h)))))))), (.o (.f 107))]⟩])
 (.seq (.region [⟨some (.a (.b (.b (.a (.a (.a (.a .h))))))), none, .mv (.t (.b (.a .h)))⟩, ⟨some (.b (.a .h)), none, .mv (.t (.a (.b (.b (.a (.a (.a (.a .h))))))))⟩, ⟨some (.a (.b .h)), none, .mv (.i .i64 0)⟩, ⟨some (.b (.b .h)), none, .mv (.i .i64 0)⟩])
 .ret)))))))))
def fe45:F2:=⟨134,x45,[.t 4,.t 5,.t 6]⟩
theorem ok45:FOk Tryz.prog 45 fe45.fe:=FOk.mk2 Tryz.func45 rfl rfl rfl (by kernel_rfl) (by kernel_rfl) (by kernel_rfl)
def fe48:Gc Tryz.prog Tryz.f48:=.m _
theorem ok48:FOk Tryz.prog 48 fe48.e.fe:=fe48.ok Tryz.func48
def fe57:Gc Tryz.prog Tryz.f57:=.m _
theorem ok57:FOk Tryz.prog 57 fe57.e.fe:=fe57.ok Tryz.func57
def fe83:Gc Tryz.prog Tryz.f83:=.m _
theorem ok83:FOk Tryz.prog 83 fe83.e.fe:=fe83.ok Tryz.func83
def fe84:Gc Tryz.prog Tryz.f84:=.m _
theorem ok84:FOk Tryz.prog 84 fe84.e.fe:=fe84.ok Tryz.func84
def fe85:Gc Tryz.prog Tryz.f85:=.m _
theorem ok85:FOk Tryz.prog 85 fe85.e.fe:=fe85.ok Tryz.func85
def fe86:Gc Tryz.prog Tryz.f86:=.m _
theorem ok86:FOk Tryz.prog 86 fe86.e.fe:=fe86.ok Tryz.func86
def fe88:Gc Tryz.prog Tryz.f88:=.m _
theorem ok88:FOk Tryz.prog 88 fe88.e.fe:=fe88.ok Tryz.func88
def fe89:Gc Tryz.prog Tryz.f89:=.m _
theorem ok89:FOk Tryz.prog 89 fe89.e.fe:=fe89.ok Tryz.func89
def fe90:Gc Tryz.prog Tryz.f90:=.m _
theorem ok90:FOk Tryz.prog 90 fe90.e.fe:=fe90.ok Tryz.func90
def fe92:Gc Tryz.prog Tryz.f92:=.m _
theorem ok92:FOk Tryz.prog 92 fe92.e.fe:=fe92.ok Tryz.func92
def fe101:Gc Tryz.prog Tryz.f101:=.m _
theorem ok101:FOk Tryz.prog 101 fe101.e.fe:=fe101.ok Tryz.func101
def fe102:Gc Tryz.prog Tryz.f102:=.m _
theorem ok102:FOk Tryz.prog 102 fe102.e.fe:=fe102.ok Tryz.func102
def fe103:Gc Tryz.prog Tryz.f103:=.m _
theorem ok103:FOk Tryz.prog 103 fe103.e.fe:=fe103.ok Tryz.func103
def fe104:Gc Tryz.prog Tryz.f104:=.m _
theorem ok104:FOk Tryz.prog 104 fe104.e.fe:=fe104.ok Tryz.func104
def fe105:Gc Tryz.prog Tryz.f105:=.m _
theorem ok105:FOk Tryz.prog 105 fe105.e.fe:=fe105.ok Tryz.func105
def fe106:Gc Tryz.prog Tryz.f106:=.m _
theorem ok106:FOk Tryz.prog 106 fe106.e.fe:=fe106.ok Tryz.func106
def fe107:Gc Tryz.prog Tryz.f107:=.m _
theorem ok107:FOk Tryz.prog 107 fe107.e.fe:=fe107.ok Tryz.func107
def fe108:Gc Tryz.prog Tryz.f108:=.m _
theorem ok108:FOk Tryz.prog 108 fe108.e.fe:=fe108.ok Tryz.func108
def fe111:Gc Tryz.prog Tryz.f111:=.m _
theorem ok111:FOk Tryz.prog 111 fe111.e.fe:=fe111.ok Tryz.func111
def fe118:Gc Tryz.prog Tryz.f118:=.m _
theorem ok118:FOk Tryz.prog 118 fe118.e.fe:=fe118.ok Tryz.func118
def fe124:Gc Tryz.prog Tryz.f124:=.m _
theorem ok124:FOk Tryz.prog 124 fe124.e.fe:=fe124.ok Tryz.func124
def fe125:Gc Tryz.prog Tryz.f125:=.m _
theorem ok125:FOk Tryz.prog 125 fe125.e.fe:=fe125.ok Tryz.func125
def fe127:Gc Tryz.prog Tryz.f127:=.m _
theorem ok127:FOk Tryz.prog 127 fe127.e.fe:=fe127.ok Tryz.func127
def fe128:Gc Tryz.prog Tryz.f128:=.m _
theorem ok128:FOk Tryz.prog 128 fe128.e.fe:=fe128.ok Tryz.func128
def fe132:Gc Tryz.prog Tryz.f132:=.m _
theorem ok132:FOk Tryz.prog 132 fe132.e.fe:=fe132.ok Tryz.func132
def fe153:Gc Tryz.prog Tryz.f153:=.m _
theorem ok153:FOk Tryz.prog 153 fe153.e.fe:=fe153.ok Tryz.func153
def fe163:Gc Tryz.prog Tryz.f163:=.m _
theorem ok163:FOk Tryz.prog 163 fe163.e.fe:=fe163.ok Tryz.func163
def fe164:Gc Tryz.prog Tryz.f164:=.m _
theorem ok164:FOk Tryz.prog 164 fe164.e.fe:=fe164.ok Tryz.func164
def fe165:Gc Tryz.prog Tryz.f165:=.m _
theorem ok165:FOk Tryz.prog 165 fe165.e.fe:=fe165.ok Tryz.func165
def fe166:Gc Tryz.prog Tryz.f166:=.m _
theorem ok166:FOk Tryz.prog 166 fe166.e.fe:=fe166.ok Tryz.func166
def fe169:Gc Tryz.prog Tryz.f169:=.m _
theorem ok169:FOk Tryz.prog 169 fe169.e.fe:=fe169.ok Tryz.func169
def fe170:Gc Tryz.prog Tryz.f170:=.m _
theorem ok170:FOk Tryz.prog 170 fe170.e.fe:=fe170.ok Tryz.func170
def fe171:Gc Tryz.prog Tryz.f171:=.m _
theorem ok171:FOk Tryz.prog 171 fe171.e.fe:=fe171.ok Tryz.func171
def fe176:Gc Tryz.prog Tryz.f176:=.m _
theorem ok176:FOk Tryz.prog 176 fe176.e.fe:=fe176.ok Tryz.func176
def fe177:Gc Tryz.prog Tryz.f177:=.m _
theorem ok177:FOk Tryz.prog 177 fe177.e.fe:=fe177.ok Tryz.func177
def fe178:Gc Tryz.prog Tryz.f178:=.m _
theorem ok178:FOk Tryz.prog 178 fe178.e.fe:=fe178.ok Tryz.func178
def fe179:Gc Tryz.prog Tryz.f179:=.m _
theorem ok179:FOk Tryz.prog 179 fe179.e.fe:=fe179.ok Tryz.func179
def fe180:Gc Tryz.prog Tryz.f180:=.m _
theorem ok180:FOk Tryz.prog 180 fe180.e.fe:=fe180.ok Tryz.func180
def fe181:Gc Tryz.prog Tryz.f181:=.m _
theorem ok181:FOk Tryz.prog 181 fe181.e.fe:=fe181.ok Tryz.func181
def fe182:Gc Tryz.prog Tryz.f182:=.m _
theorem ok182:FOk Tryz.prog 182 fe182.e.fe:=fe182.ok Tryz.func182
def fe184:Gc Tryz.prog Tryz.f184:=.m _
theorem ok184:FOk Tryz.prog 184 fe184.e.fe:=fe184.ok Tryz.func184
def fe185:Gc Tryz.prog Tryz.f185:=.m _
theorem ok185:FOk Tryz.prog 185 fe185.e.fe:=fe185.ok Tryz.func185
def fe186:Gc Tryz.prog Tryz.f186:=.m _
theorem ok186:FOk Tryz.prog 186 fe186.e.fe:=fe186.ok Tryz.func186
def fe187:Gc Tryz.prog Tryz.f187:=.m _
theorem ok187:FOk Tryz.prog 187 fe187.e.fe:=fe187.ok Tryz.func187
def fe188:Gc Tryz.prog Tryz.f188:=.m _
theorem ok188:FOk Tryz.prog 188 fe188.e.fe:=fe188.ok Tryz.func188
def fe189:Gc Tryz.prog Tryz.f189:=.m _
theorem ok189:FOk Tryz.prog 189 fe189.e.fe:=fe189.ok Tryz.func189
def fe190:Gc Tryz.prog Tryz.f190:=.m _
theorem ok190:FOk Tryz.prog 190 fe190.e.fe:=fe190.ok Tryz.func190
open Go.CE
def fe192:Gc Tryz.prog Tryz.f192:=.m _
theorem ok192:FOk Tryz.prog 192 fe192.e.fe:=fe192.ok Tryz.func192
def fe210:Gc Tryz.prog Tryz.f210:=.m _
theorem ok210:FOk Tryz.prog 210 fe210.e.fe:=fe210.ok Tryz.func210
def fe211:Gc Tryz.prog Tryz.f211:=.m _
theorem ok211:FOk Tryz.prog 211 fe211.e.fe:=fe211.ok Tryz.func211
def fe213:Gc Tryz.prog Tryz.f213:=.m _
theorem ok213:FOk Tryz.prog 213 fe213.e.fe:=fe213.ok Tryz.func213
def fe214:Gc Tryz.prog Tryz.f214:=.m _
theorem ok214:FOk Tryz.prog 214 fe214.e.fe:=fe214.ok Tryz.func214
def fe215:Gc Tryz.prog Tryz.f215:=.m _
theorem ok215:FOk Tryz.prog 215 fe215.e.fe:=fe215.ok Tryz.func215
def fe218:Gc Tryz.prog Tryz.f218:=.m _
theorem ok218:FOk Tryz.prog 218 fe218.e.fe:=fe218.ok Tryz.func218
def fe219:Gc Tryz.prog Tryz.f219:=.m _
theorem ok219:FOk Tryz.prog 219 fe219.e.fe:=fe219.ok Tryz.func219
def fe220:Gc Tryz.prog Tryz.f220:=.m _
theorem ok220:FOk Tryz.prog 220 fe220.e.fe:=fe220.ok Tryz.func220
def fe233:Gc Tryz.prog Tryz.f233:=.m _
theorem ok233:FOk Tryz.prog 233 fe233.e.fe:=fe233.ok Tryz.func233
def fe236:Gc Tryz.prog Tryz.f236:=.m _
theorem ok236:FOk Tryz.prog 236 fe236.e.fe:=fe236.ok Tryz.func236
def fe237:Gc Tryz.prog Tryz.f237:=.m _
theorem ok237:FOk Tryz.prog 237 fe237.e.fe:=fe237.ok Tryz.func237
def fe240:Gc Tryz.prog Tryz.f240:=.m _
theorem ok240:FOk Tryz.prog 240 fe240.e.fe:=fe240.ok Tryz.func240
def fe241:Gc Tryz.prog Tryz.f241:=.m _
theorem ok241:FOk Tryz.prog 241 fe241.e.fe:=fe241.ok Tryz.func241
def fe242:Gc Tryz.prog Tryz.f242:=.m _
theorem ok242:FOk Tryz.prog 242 fe242.e.fe:=fe242.ok Tryz.func242
def fe243:Gc Tryz.prog Tryz.f243:=.m _
theorem ok243:FOk Tryz.prog 243 fe243.e.fe:=fe243.ok Tryz.func243
def fe244:Gc Tryz.prog Tryz.f244:=.m _
theorem ok244:FOk Tryz.prog 244 fe244.e.fe:=fe244.ok Tryz.func244
def fe245:Gc Tryz.prog Tryz.f245:=.m _
theorem ok245:FOk Tryz.prog 245 fe245.e.fe:=fe245.ok Tryz.func245
def fe246:Gc Tryz.prog Tryz.f246:=.m _
theorem ok246:FOk Tryz.prog 246 fe246.e.fe:=fe246.ok Tryz.func246
def fe247:Gc Tryz.prog Tryz.f247:=.m _
theorem ok247:FOk Tryz.prog 247 fe247.e.fe:=fe247.ok Tryz.func247
def fe248:Gc Tryz.prog Tryz.f248:=.m _
theorem ok248:FOk Tryz.prog 248 fe248.e.fe:=fe248.ok Tryz.func248
def fe249:Gc Tryz.prog Tryz.f249:=.m _
theorem ok249:FOk Tryz.prog 249 fe249.e.fe:=fe249.ok Tryz.func249
def fe250:Gc Tryz.prog Tryz.f250:=.m _
theorem ok250:FOk Tryz.prog 250 fe250.e.fe:=fe250.ok Tryz.func250
def fe259:Gc Tryz.prog Tryz.f259:=.m _
theorem ok259:FOk Tryz.prog 259 fe259.e.fe:=fe259.ok Tryz.func259
def fe265:Gc Tryz.prog Tryz.f265:=.m _
theorem ok265:FOk Tryz.prog 265 fe265.e.fe:=fe265.ok Tryz.func265
def fe266:Gc Tryz.prog Tryz.f266:=.m _
theorem ok266:FOk Tryz.prog 266 fe266.e.fe:=fe266.ok Tryz.func266
def fe267:Gc Tryz.prog Tryz.f267:=.m _
theorem ok267:FOk Tryz.prog 267 fe267.e.fe:=fe267.ok Tryz.func267
def fe269:Gc Tryz.prog Tryz.f269:=.m _
theorem ok269:FOk Tryz.prog 269 fe269.e.fe:=fe269.ok Tryz.func269
def fe270:Gc Tryz.prog Tryz.f270:=.m _
theorem ok270:FOk Tryz.prog 270 fe270.e.fe:=fe270.ok Tryz.func270
def fe271:Gc Tryz.prog Tryz.f271:=.m _
theorem ok271:FOk Tryz.prog 271 fe271.e.fe:=fe271.ok Tryz.func271
def fe272:Gc Tryz.prog Tryz.f272:=.m _
theorem ok272:FOk Tryz.prog 272 fe272.e.fe:=fe272.ok Tryz.func272
def fe273:Gc Tryz.prog Tryz.f273:=.m _
theorem ok273:FOk Tryz.prog 273 fe273.e.fe:=fe273.ok Tryz.func273
def fe277:Gc Tryz.prog Tryz.f277:=.m _
theorem ok277:FOk Tryz.prog 277 fe277.e.fe:=fe277.ok Tryz.func277
def fe278:Gc Tryz.prog Tryz.f278:=.m _
theorem ok278:FOk Tryz.prog 278 fe278.e.fe:=fe278.ok Tryz.func278
def fe279:Gc Tryz.prog Tryz.f279:=.m _
theorem ok279:FOk Tryz.prog 279 fe279.e.fe:=fe279.ok Tryz.func279
def fe280:Gc Tryz.prog Tryz.f280:=.m _
theorem ok280:FOk Tryz.prog 280 fe280.e.fe:=fe280.ok Tryz.func280
def fe281:Gc Tryz.prog Tryz.f281:=.m _
theorem ok281:FOk Tryz.prog 281 fe281.e.fe:=fe281.ok Tryz.func281
def fe282:Gc Tryz.prog Tryz.f282:=.m _
theorem ok282:FOk Tryz.prog 282 fe282.e.fe:=fe282.ok Tryz.func282
def fe288:Gc Tryz.prog Tryz.f288:=.m _
theorem ok288:FOk Tryz.prog 288 fe288.e.fe:=fe288.ok Tryz.func288
def fe291:Gc Tryz.prog Tryz.f291:=.m _
theorem ok291:FOk Tryz.prog 291 fe291.e.fe:=fe291.ok Tryz.func291
def fe297:Gc Tryz.prog Tryz.f297:=.m _
theorem ok297:FOk Tryz.prog 297 fe297.e.fe:=fe297.ok Tryz.func297
def fe298:Gc Tryz.prog Tryz.f298:=.m _
theorem ok298:FOk Tryz.prog 298 fe298.e.fe:=fe298.ok Tryz.func298
def fe299:Gc Tryz.prog Tryz.f299:=.m _
theorem ok299:FOk Tryz.prog 299 fe299.e.fe:=fe299.ok Tryz.func299
def fe300:Gc Tryz.prog Tryz.f300:=.m _
theorem ok300:FOk Tryz.prog 300 fe300.e.fe:=fe300.ok Tryz.func300
def fe305:Gc Tryz.prog Tryz.f305:=.m _
theorem ok305:FOk Tryz.prog 305 fe305.e.fe:=fe305.ok Tryz.func305
def fe306:Gc Tryz.prog Tryz.f306:=.m _
theorem ok306:FOk Tryz.prog 306 fe306.e.fe:=fe306.ok Tryz.func306
def fe307:Gc Tryz.prog Tryz.f307:=.m _
theorem ok307:FOk Tryz.prog 307 fe307.e.fe:=fe307.ok Tryz.func307
def fe308:Gc Tryz.prog Tryz.f308:=.m _
theorem ok308:FOk Tryz.prog 308 fe308.e.fe:=fe308.ok Tryz.func308
def fe313:Gc Tryz.prog Tryz.f313:=.m _
theorem ok313:FOk Tryz.prog 313 fe313.e.fe:=fe313.ok Tryz.func313
def fe314:Gc Tryz.prog Tryz.f314:=.m _
theorem ok314:FOk Tryz.prog 314 fe314.e.fe:=fe314.ok Tryz.func314
def fe318:Gc Tryz.prog Tryz.f318:=.m _
theorem ok318:FOk Tryz.prog 318 fe318.e.fe:=fe318.ok Tryz.func318
def fe319:Gc Tryz.prog Tryz.f319:=.m _
theorem ok319:FOk Tryz.prog 319 fe319.e.fe:=fe319.ok Tryz.func319
open Go.CE
def tb1:List (Nat×F2):=[(219,fe219.e),(273,fe273.e),(297,fe297.e),(313,fe313.e)]
theorem tb1_ok:TblOk Tryz.prog (mkT (tblE tb1)):=mkT_ok (all_c ok219 (all_c ok273 (all_c ok297 (all_c ok313 (fun p hp=>absurd hp List.not_mem_nil)))))
def tb2:List (Nat×F2):=[(83,fe83.e),(84,fe84.e),(88,fe88.e),(90,fe90.e),(153,fe153.e),(163,fe163.e),(164,fe164.e),(169,fe169.e),(170,fe170.e),(192,fe192.e),(236,fe236.e),(237,fe237.e),(240,fe240.e),(242,fe242.e),(243,fe243.e),(267,fe267.e),(273,fe273.e),(277,fe277.e),(278,fe278.e),(280,fe280.e),(281,fe281.e),(298,fe298.e),(300,fe300.e),(306,fe306.e),(307,fe307.e),(308,fe308.e),(314,fe314.e),(318,fe318.e),(319,fe319.e)]
theorem tb2_ok:TblOk Tryz.prog (mkT (tblE tb2)):=mkT_ok (all_c ok83 (all_c ok84 (all_c ok88 (all_c ok90 (all_c ok153 (all_c ok163 (all_c ok164 (all_c ok169 (all_c ok170 (all_c ok192 (all_c ok236 (all_c ok237 (all_c ok240 (all_c ok242 (all_c ok243 (all_c ok267 (all_c ok273 (all_c ok277 (all_c ok278 (all_c ok280 (all_c ok281 (all_c ok298 (all_c ok300 (all_c ok306 (all_c ok307 (all_c ok308 (all_c ok314 (all_c ok318 (all_c ok319 (fun p hp=>absurd hp List.not_mem_nil))))))))))))))))))))))))))))))
def tb3:List (Nat×F2):=[(210,fe210.e),(211,fe211.e),(213,fe213.e),(214,fe214.e),(215,fe215.e),(218,fe218.e),(220,fe220.e),(233,fe233.e),(265,fe265.e),(266,fe266.e),(269,fe269.e),(271,fe271.e),(272,fe272.e),(273,fe273.e),(299,fe299.e)]
theorem tb3_ok:TblOk Tryz.prog (mkT (tblE tb3)):=mkT_ok (all_c ok210 (all_c ok211 (all_c ok213 (all_c ok214 (all_c ok215 (all_c ok218 (all_c ok220 (all_c ok233 (all_c ok265 (all_c ok266 (all_c ok269 (all_c ok271 (all_c ok272 (all_c ok273 (all_c ok299 (fun p hp=>absurd hp List.not_mem_nil))))))))))))))))
def tb4:List (Nat×F2):=[(57,fe57.e),(124,fe124.e),(125,fe125.e),(127,fe127.e),(128,fe128.e),(132,fe132.e),(210,fe210.e),(211,fe211.e),(215,fe215.e),(233,fe233.e),(265,fe265.e),(266,fe266.e),(269,fe269.e),(270,fe270.e),(271,fe271.e),(272,fe272.e),(299,fe299.e)]
theorem tb4_ok:TblOk Tryz.prog (mkT (tblE tb4)):=mkT_ok (all_c ok57 (all_c ok124 (all_c ok125 (all_c ok127 (all_c ok128 (all_c ok132 (all_c ok210 (all_c ok211 (all_c ok215 (all_c ok233 (all_c ok265 (all_c ok266 (all_c ok269 (all_c ok270 (all_c ok271 (all_c ok272 (all_c ok299 (fun p hp=>absurd hp List.not_mem_nil))))))))))))))))))
def tb5:List (Nat×F2):=[(34,fe34.e),(37,fe37.e),(83,fe83.e),(84,fe84.e),(85,fe85.e),(86,fe86.e),(88,fe88.e),(90,fe90.e),(104,fe104.e),(163,fe163.e),(164,fe164.e),(165,fe165.e),(166,fe166.e),(169,fe169.e),(170,fe170.e),(192,fe192.e),(236,fe236.e),(237,fe237.e),(240,fe240.e),(241,fe241.e),(242,fe242.e),(243,fe243.e),(277,fe277.e),(278,fe278.e),(279,fe279.e),(280,fe280.e),(281,fe281.e),(300,fe300.e),(305,fe305.e),(306,fe306.e),(307,fe307.e),(308,fe308.e),(314,fe314.e),(318,fe318.e),(319,fe319.e)]
theorem tb5_ok:TblOk Tryz.prog (mkT (tblE tb5)):=mkT_ok (all_c ok34 (all_c ok37 (all_c ok83 (all_c ok84 (all_c ok85 (all_c ok86 (all_c ok88 (all_c ok90 (all_c ok104 (all_c ok163 (all_c ok164 (all_c ok165 (all_c ok166 (all_c ok169 (all_c ok170 (all_c ok192 (all_c ok236 (all_c ok237 (all_c ok240 (all_c ok241 (all_c ok242 (all_c ok243 (all_c ok277 (all_c ok278 (all_c ok279 (all_c ok280 (all_c ok281 (all_c ok300 (all_c ok305 (all_c ok306 (all_c ok307 (all_c ok308 (all_c ok314 (all_c ok318 (all_c ok319 (fun p hp=>absurd hp List.not_mem_nil))))))))))))))))))))))))))))))))))))
def tb99:List (Nat×F2):=[(38,fe38.e),(39,fe39.e),(42,fe42.e),(45,fe45),(48,fe48.e),(86,fe86.e),(88,fe88.e),(89,fe89.e),(90,fe90.e),(92,fe92.e),(101,fe101.e),(102,fe102.e),(103,fe103.e),(105,fe105.e),(106,fe106.e),(107,fe107.e),(108,fe108.e),(111,fe111.e),(118,fe118.e),(163,fe163.e),(164,fe164.e),(169,fe169.e),(170,fe170.e),(171,fe171.e),(176,fe176.e),(177,fe177.e),(178,fe178.e),(179,fe179.e),(180,fe180.e),(181,fe181.e),(182,fe182.e),(184,fe184.e),(185,fe185.e),(186,fe186.e),(187,fe187.e),(188,fe188.e),(189,fe189.e),(190,fe190.e),(192,fe192.e),(236,fe236.e),(240,fe240.e),(242,fe242.e),(243,fe243.e),(244,fe244.e),(245,fe245.e),(246,fe246.e),(247,fe247.e),(248,fe248.e),(249,fe249.e),(250,fe250.e),(259,fe259.e),(280,fe280.e),(281,fe281.e),(282,fe282.e),(288,fe288.e),(291,fe291.e),(306,fe306.e)]
theorem tb99_ok:TblOk Tryz.prog (mkT (tblE tb99)):=mkT_ok (all_c ok38 (all_c ok39 (all_c ok42 (all_c ok45 (all_c ok48 (all_c ok86 (all_c ok88 (all_c ok89 (all_c ok90 (all_c ok92 (all_c ok101 (all_c ok102 (all_c ok103 (all_c ok105 (all_c ok106 (all_c ok107 (all_c ok108 (all_c ok111 (all_c ok118 (all_c ok163 (all_c ok164 (all_c ok169 (all_c ok170 (all_c ok171 (all_c ok176 (all_c ok177 (all_c ok178 (all_c ok179 (all_c ok180 (all_c ok181 (all_c ok182 (all_c ok184 (all_c ok185 (all_c ok186 (all_c ok187 (all_c ok188 (all_c ok189 (all_c ok190 (all_c ok192 (all_c ok236 (all_c ok240 (all_c ok242 (all_c ok243 (all_c ok244 (all_c ok245 (all_c ok246 (all_c ok247 (all_c ok248 (all_c ok249 (all_c ok250 (all_c ok259 (all_c ok280 (all_c ok281 (all_c ok282 (all_c ok288 (all_c ok291 (all_c ok306 (fun p hp=>absurd hp List.not_mem_nil))))))))))))))))))))))))))))))))))))))))))))))))))))))))))
theorem h0_ok:CallSnd Tryz.prog noHand:=noHand_snd
theorem mixed:Tryz.prog.follows .mixedOrders=true:=by kernel_rfl
end Go.Proofs.YtlceligcgelbdaaGreat
