/- The code of functions that a closed call runs, found in the program. -/
import Derived.Test.YtlceligcgelbdaaGreatChecked
import Derived.KernelRfl
import Derived.WalkKit
import Derived.Orders
import Derived.Test.YtlceligcgelbdaaGreatMA5
set_option linter.unusedVariables false
set_option maxRecDepth 100000
set_option maxHeartbeats 4000000
namespace Go.Proofs.YtlceligcgelbdaaGreat
open Go.CE
def bPl:Gc Tryz.prog Tryz.f34:=.m _
theorem cBK:lQ Tryz.prog 34 bPl.e.fe:=bPl.ok Tryz.func34
def bQd:Gc Tryz.prog Tryz.f37:=.m _
theorem bYB:lQ Tryz.prog 37 bQd.e.fe:=bQd.ok Tryz.func37
def bNo:Gc Tryz.prog Tryz.f38:=.m _
theorem bZq:lQ Tryz.prog 38 bNo.e.fe:=bNo.ok Tryz.func38
def bPv:Gc Tryz.prog Tryz.f39:=.m _
theorem bZO:lQ Tryz.prog 39 bPv.e.fe:=bPv.ok Tryz.func39
def bNy:Gc Tryz.prog Tryz.f42:=.m _
theorem cAi:lQ Tryz.prog 42 bNy.e.fe:=bNy.ok Tryz.func42
def x45 : X2 := (.seq (.region [⟨some (.b .h), none, .gen (.box 101 (.t 0))⟩, ⟨some (.b (.a .h)), none, .mv (.o (.k (.slice none 0 0)))⟩, ⟨some (.a (.b .h)), none, .mv (.i .i64 0)⟩, ⟨some (.b (.b .h)), none, .mv (.i .i64 0)⟩])
 (.seq (.seq (.region [⟨some (.a (.b (.a (.a .h)))), none, .mv (.t (.a .h))⟩, ⟨some (.b (.b (.a (.a .h)))), none, .bin .lss (.t (.a (.b (.a (.a .h))))) (.i .i64 0)⟩, ⟨some (.a (.a (.b (.a .h)))), none, .mv (.t (.b (.b (.a (.a .h)))))⟩, ⟨some (.b (.a (.b (.a .h)))), some ((.a (.a (.b (.a .h)))), false), .mv (.t (.a .h))⟩, ⟨some (.a (.b (.b (.a .h)))), some ((.a (.a (.b (.a .h)))), false), .fad 24 (.t (.b .h))⟩, ⟨some (.b (.b (.b (.a .h)))), some ((.a (.a (.b (.a .h)))), false), .load false 1 (.t (.a (.b (.b (.a .h)))))⟩, ⟨some (.a (.a (.a (.b .h)))), some ((.a (.a (.b (.a .h)))), false), .len (.t (.b (.b (.b (.a .h)))))⟩, ⟨some (.b (.a (.a (.b .h)))), some ((.a (.a (.b (.a .h)))), false), .bin .geq (.t (.b (.a (.b (.a .h))))) (.t (.a (.a (.a (.b .h)))))⟩, ⟨some (.a (.b (.a (.b .h)))), none, .pick (.t (.a (.a (.b (.a .h))))) (.o (.k (.bool true))) (.t (.b (.a (.a (.b .h)))))⟩])
 (.cond (.t (.a (.b (.a (.b .h))))) (.seq (.region [⟨some (.b (.a .h)), none, .mv (.o (.k (.slice none 0 0)))⟩, ⟨some (.a (.b .h)), none, .mv (.i .i64 0)⟩, ⟨some (.b (.b .h)), none, .mv (.i .i64 2)⟩])
 .ret)
 .skip))
 (.seq (.draw [⟨⟨some 26, none, .load true 25 (.t 2)⟩, []⟩, ⟨⟨some 27, none, .call 101 [(.t 26)]⟩, [0]⟩, ⟨⟨some 28, none, .fad 22 (.t 2)⟩, []⟩, ⟨⟨some 29, none, .load false 1 (.t 28)⟩, [2]⟩, ⟨⟨some 30, none, .build [(.slice none 0 0), (.slice none 0 0)] [(0, 1, (.t 27)), (1, 1, (.t 29))]⟩, [1, 3]⟩, ⟨⟨some 7, none, .alloc 228 [(.slice none 0 0), (.slice none 0 0)]⟩, []⟩, ⟨⟨none, none, .store 2 (.t 7) (.t 30)⟩, [5, 4, 1, 0, 1, 2, 3, 4, 5]⟩] [0, 1, 0, 4, 15, 0, 63])
 (.seq (.region [⟨some (.a (.a (.a (.a (.a .h))))), none, .fad 24 (.t (.b .h))⟩, ⟨some (.b (.a (.a (.a (.a .h))))), none, .load false 1 (.t (.a (.a (.a (.a (.a .h))))))⟩, ⟨some (.a (.b (.a (.a (.a .h))))), none, .mv (.t (.a .h))⟩, ⟨some (.b (.b (.a (.a (.a .h))))), none, .iad 6 (.t (.b (.a (.a (.a (.a .h)))))) (.t (.a (.b (.a (.a (.a .h))))))⟩, ⟨some (.a (.a (.b (.a (.a .h))))), none, .fad 3 (.t (.b (.b (.a (.a (.a .h))))))⟩, ⟨some (.b (.a (.b (.a (.a .h))))), none, .load false 1 (.t (.a (.a (.b (.a (.a .h))))))⟩, ⟨some (.b (.a (.a .h))), none, .mv (.t (.b (.a (.b (.a (.a .h))))))⟩])
 (.seq (.region [⟨some (.a (.b (.b (.a (.a .h))))), none, .gen (.mkm)⟩, ⟨some (.a (.b (.a .h))), none, .mv (.t (.a (.b (.b (.a (.a .h))))))⟩])
 (.seq (.seq (.region [⟨some (.b (.b (.b (.a (.a .h))))), none, .mv (.t (.b (.a (.a .h))))⟩, ⟨some (.a (.a (.a (.b (.a .h))))), none, .len (.t (.b (.b (.b (.a (.a .h))))))⟩, ⟨some (.b (.a (.a (.b (.a .h))))), none, .mv (.i .i64 0)⟩])
 (.block 0 (.loop (.seq (.region [⟨some (.a (.b (.a (.b (.a .h))))), none, .bin .lss (.t (.b (.a (.a (.b (.a .h)))))) (.t (.a (.a (.a (.b (.a .h))))))⟩])
 (.seq (.cond (.t (.a (.b (.a (.b (.a .h)))))) .skip
 (.exit 0))
 (.seq (.block 1 (.seq (.region [⟨some (.b (.b (.a (.b (.a .h))))), none, .mv (.t (.b (.a (.a (.b (.a .h))))))⟩, ⟨some (.a (.a (.b (.b (.a .h))))), none, .iad 10 (.t (.b (.b (.b (.a (.a .h)))))) (.t (.b (.a (.a (.b (.a .h))))))⟩, ⟨some (.b (.a (.b (.b (.a .h))))), none, .load true 10 (.t (.a (.a (.b (.b (.a .h))))))⟩, ⟨some (.a (.a (.b .h))), none, .gen (.alloc 136 [(.bool false), (.string ⟨#[]⟩), (.int .u8 0), (.string ⟨#[]⟩), (.string ⟨#[]⟩), (.string ⟨#[]⟩), (.bool false), (.slice none 0 0), (.bool false), (.slice none 0 0)])⟩, ⟨some (.b (.b (.a .h))), none, .mv (.t (.b (.b (.a (.b (.a .h))))))⟩, ⟨none, none, .store 10 (.t (.a (.a (.b .h)))) (.t (.b (.a (.b (.b (.a .h))))))⟩])
 (.draw [⟨⟨some 45,none,.mv (.t 9)⟩,[]⟩,⟨⟨some 46,none,.fad 1 (.t 11)⟩,[]⟩,⟨⟨some 47,none,.load false 1 (.t 46)⟩,[1]⟩,⟨⟨some 48,none,.mv (.t 9)⟩,[]⟩,⟨⟨some 49,none,.fad 1 (.t 11)⟩,[]⟩,⟨⟨some 50,none,.load false 1 (.t 49)⟩,[4]⟩,⟨⟨some 51,none,.look true [(.slice none 0 0)] false (.t 48) (.t 50) false⟩,[3,5]⟩,⟨⟨some 52,none,.mv (.t 10)⟩,[]⟩,⟨⟨some 53,none,.bslice 3 1 1 [(.int .i64 0)] [(0,(.t 52))]⟩,[7]⟩,⟨⟨some 54,none,.app 3 1 8 [(.int .i64 0)] (.t 51) (.t 53)⟩,[6,8]⟩,⟨⟨none,none,.mupd true (.t 45) (.t 47) (.t 54)⟩,[0,2,9,9,0,1,2,3,4,5,6,7,8,9]⟩] [0,0,2,0,0,16,56,0,128,504,1023])))
 (.region [⟨some (.a (.a (.a (.b (.b .h))))),none,.bin .add (.t (.b (.a (.a (.b (.a .h)))))) (.i .i64 1)⟩,⟨some (.b (.a (.a (.b (.a .h))))),none,.mv (.t (.a (.a (.a (.b (.b .h))))))⟩])))))))
 (.seq (.seq (.region [⟨some (.b (.a (.a (.b (.b .h))))), none, .mv (.t (.b (.a (.a .h))))⟩, ⟨some (.a (.b (.a (.b (.b .h))))), none, .len (.t (.b (.a (.a (.b (.b .h))))))⟩, ⟨some (.b (.b (.a (.b (.b .h))))), none, .mv (.i .i64 0)⟩])
 (.block 2 (.loop (.seq (.region [⟨some (.a (.a (.b (.b (.b .h))))), none, .bin .lss (.t (.b (.b (.a (.b (.b .h)))))) (.t (.a (.b (.a (.b (.b .h))))))⟩])
 (.seq (.cond (.t (.a (.a (.b (.b (.b .h)))))) .skip
 (.exit 2))
 (.seq (.block 3 (.seq (.region [⟨some (.b (.a (.b (.b (.b .h))))), none, .mv (.t (.b (.b (.a (.b (.b .h))))))⟩, ⟨some (.a (.b (.b (.b (.b .h))))), none, .iad 10 (.t (.b (.a (.a (.b (.b .h)))))) (.t (.b (.b (.a (.b (.b .h))))))⟩, ⟨some (.b (.b (.b (.b (.b .h))))), none, .load true 10 (.t (.a (.b (.b (.b (.b .h))))))⟩, ⟨some (.a (.b (.b .h))), none, .gen (.alloc 136 [(.bool false), (.string ⟨#[]⟩), (.int .u8 0), (.string ⟨#[]⟩), (.string ⟨#[]⟩), (.string ⟨#[]⟩), (.bool false), (.slice none 0 0), (.bool false), (.slice none 0 0)])⟩, ⟨some (.b (.a (.b .h))), none, .mv (.t (.b (.a (.b (.b (.b .h))))))⟩, ⟨none, none, .store 10 (.t (.a (.b (.b .h)))) (.t (.b (.b (.b (.b (.b .h))))))⟩])
 (.seq (.region [⟨some (.a (.a (.a (.a (.a (.a .h)))))), none, .mv (.t (.a (.b (.a .h))))⟩, ⟨some (.b (.a (.a (.a (.a (.a .h)))))), none, .fad 1 (.t (.a (.b (.b .h))))⟩, ⟨some (.a (.b (.a (.a (.a (.a .h)))))), none, .load false 1 (.t (.b (.a (.a (.a (.a (.a .h)))))))⟩, ⟨some (.b (.b (.a (.a (.a (.a .h)))))), none, .gen (.look true [(.slice none 0 0)] false (.t 63) (.t 65) false)⟩, ⟨some (.b (.b (.b .h))), none, .mv (.t (.b (.b (.a (.a (.a (.a .h)))))))⟩])
 (.seq (.seq (.region [⟨some (.a (.a (.b (.a (.a (.a .h)))))), none, .load true 2 (.t (.a (.a (.a .h))))⟩, ⟨some (.b (.a (.b (.a (.a (.a .h)))))), none, .load true 10 (.t (.a (.b (.b .h))))⟩, ⟨some (.a (.b (.b (.a (.a (.a .h)))))), none, .call 102 [(.t (.a (.a (.b (.a (.a (.a .h))))))), (.t (.b (.a (.b (.a (.a (.a .h)))))))]⟩, ⟨some (.b (.b (.b (.a (.a (.a .h)))))), none, .gen (.un .not (.t 69))⟩, ⟨some (.a (.a (.a (.b (.a (.a .h)))))), none, .mv (.t (.b (.b (.b (.a (.a (.a .h)))))))⟩, ⟨some (.b (.a (.a (.b (.a (.a .h)))))), some ((.a (.a (.a (.b (.a (.a .h)))))), false), .mv (.t (.b (.b (.b .h))))⟩, ⟨some (.a (.b (.a (.b (.a (.a .h)))))), some ((.a (.a (.a (.b (.a (.a .h)))))), false), .len (.t (.b (.a (.a (.b (.a (.a .h)))))))⟩, ⟨some (.b (.b (.a (.b (.a (.a .h)))))), some ((.a (.a (.a (.b (.a (.a .h)))))), false), .bin .neq (.t (.a (.b (.a (.b (.a (.a .h))))))) (.i .i64 2)⟩, ⟨some (.a (.a (.b (.b (.a (.a .h)))))), none, .pick (.t (.a (.a (.a (.b (.a (.a .h))))))) (.o (.k (.bool true))) (.t (.b (.b (.a (.b (.a (.a .h)))))))⟩])
 (.cond (.t (.a (.a (.b (.b (.a (.a .h))))))) (.seq (.region [⟨some (.b (.a (.b (.b (.a (.a .h)))))), none, .mv (.t (.b (.a (.b .h))))⟩, ⟨some (.b (.a .h)), none, .mv (.o (.k (.slice none 0 0)))⟩, ⟨some (.a (.b .h)), none, .mv (.t (.b (.a (.b (.b (.a (.a .h)))))))⟩, ⟨some (.b (.b .h)), none, .mv (.i .i64 200)⟩])
 .ret)
 .skip))
 (.seq (.draw [⟨⟨some 77, none, .mv (.t 8)⟩, []⟩, ⟨⟨some 78, none, .mv (.t 14)⟩, []⟩, ⟨⟨some 79, none, .iad 1 (.t 78) (.k (.int .i64 0))⟩, [1]⟩, ⟨⟨some 80, none, .load false 1 (.t 79)⟩, [2]⟩, ⟨⟨some 81, none, .iad 10 (.t 77) (.t 80)⟩, [0, 3]⟩, ⟨⟨some 82, none, .load true 10 (.t 81)⟩, [4]⟩, ⟨⟨some 83, none, .mv (.t 8)⟩, []⟩, ⟨⟨some 84, none, .mv (.t 14)⟩, []⟩, ⟨⟨some 85, none, .iad 1 (.t 84) (.k (.int .i64 1))⟩, [7]⟩, ⟨⟨some 86, none, .load false 1 (.t 85)⟩, [8]⟩, ⟨⟨some 87, none, .iad 10 (.t 83) (.t 86)⟩, [6, 9]⟩, ⟨⟨some 88, none, .load true 10 (.t 87)⟩, [10]⟩, ⟨⟨some 15, none, .alloc 136 [(.bool false), (.string ⟨#[]⟩), (.int .u8 0), (.string ⟨#[]⟩), (.string ⟨#[]⟩), (.string ⟨#[]⟩), (.bool false), (.slice none 0 0), (.bool false), (.slice none 0 0)]⟩, []⟩, ⟨⟨some 16, none, .alloc 136 [(.bool false), (.string ⟨#[]⟩), (.int .u8 0), (.string ⟨#[]⟩), (.string ⟨#[]⟩), (.string ⟨#[]⟩), (.bool false), (.slice none 0 0), (.bool false), (.slice none 0 0)]⟩, []⟩, ⟨⟨none, none, .store 10 (.t 15) (.t 82)⟩, [12, 5, 0, 1, 2, 3, 4, 5, 12, 13]⟩, ⟨⟨none, none, .store 10 (.t 16) (.t 88)⟩, [13, 11, 14, 0, 1, 2, 3, 4, 5, 6, 7, 8, 9, 10, 11, 12, 13, 14]⟩] [0, 0, 2, 6, 15, 31, 0, 0, 128, 384, 960, 1984, 0, 0, 12351, 32767])
 (.seq (.seq (.draw [⟨⟨some 89, none, .load true 10 (.t 15)⟩, []⟩, ⟨⟨some 90, none, .call 103 [(.t 89)]⟩, [0]⟩, ⟨⟨some 91, none, .load true 10 (.t 16)⟩, []⟩, ⟨⟨some 92, none, .call 103 [(.t 91)]⟩, [2, 1]⟩, ⟨⟨some 93, none, .binA true [.s, .i, .s, .s] (.t 90) (.t 92)⟩, [1, 3]⟩, ⟨⟨some 94, none, .mv (.t 93)⟩, [4, 3]⟩, ⟨⟨some 95, some (94, false), .fad 0 (.t 15)⟩, [5]⟩, ⟨⟨some 96, some (94, false), .load false 1 (.t 95)⟩, [6, 5]⟩, ⟨⟨some 97, some (94, false), .fad 0 (.t 16)⟩, [5]⟩, ⟨⟨some 98, some (94, false), .load false 1 (.t 97)⟩, [8, 5]⟩, ⟨⟨some 99, some (94, false), .binB .eql (.t 96) (.t 98)⟩, [7, 9, 5]⟩, ⟨⟨some 100, none, .pick (.t 94) (.k (.bool true)) (.t 99)⟩, [5, 10]⟩, ⟨⟨some 101, none, .mv (.t 100)⟩, [11, 5]⟩, ⟨⟨some 102, some (101, false), .fad 6 (.t 15)⟩, [12]⟩, ⟨⟨some 103, some (101, false), .load true 4 (.t 102)⟩, [13, 12]⟩, ⟨⟨some 104, some (101, false), .fad 6 (.t 16)⟩, [12]⟩, ⟨⟨some 105, some (101, false), .load true 4 (.t 104)⟩, [15, 12]⟩, ⟨⟨some 106, some (101, false), .call 104 [(.t 103), (.t 105)]⟩, [14, 16, 12, 12]⟩, ⟨⟨some 107, some (101, false), .un .not (.t 106)⟩, [17, 12]⟩, ⟨⟨some 108, none, .pick (.t 101) (.k (.bool true)) (.t 107)⟩, [12, 18]⟩] [0, 1, 0, 7, 15, 31, 63, 127, 63, 319, 1023, 2047, 4095, 8191, 16383, 8191, 40959, 131071, 262143, 524287])
 (.cond (.t (.b (.a (.b (.b (.a (.b .h))))))) (.seq (.region [⟨some (.a (.b (.b (.b (.a (.b .h)))))), none, .mv (.t (.b (.a (.b .h))))⟩, ⟨some (.b (.a .h)), none, .mv (.o (.k (.slice none 0 0)))⟩, ⟨some (.a (.b .h)), none, .mv (.t (.a (.b (.b (.b (.a (.b .h)))))))⟩, ⟨some (.b (.b .h)), none, .mv (.i .i64 200)⟩])
 .ret)
 .skip))
 (.seq (.region [⟨some (.b (.b (.b (.b (.a (.b .h)))))), none, .fad 0 (.t (.a (.b (.b .h))))⟩, ⟨some (.a (.a (.a (.a (.b (.b .h)))))), none, .load false 1 (.t (.b (.b (.b (.b (.a (.b .h)))))))⟩])
 (.cond (.t (.a (.a (.a (.a (.b (.b .h))))))) (.draw [⟨⟨some 112, none, .mv (.t 4)⟩, []⟩, ⟨⟨some 113, none, .load true 2 (.t 7)⟩, []⟩, ⟨⟨some 114, none, .load true 10 (.t 13)⟩, []⟩, ⟨⟨some 115, none, .mv (.t 8)⟩, []⟩, ⟨⟨some 116, none, .mv (.t 14)⟩, []⟩, ⟨⟨some 117, none, .iad 1 (.t 116) (.k (.int .i64 0))⟩, [4]⟩, ⟨⟨some 118, none, .load false 1 (.t 117)⟩, [5]⟩, ⟨⟨some 119, none, .mv (.t 14)⟩, []⟩, ⟨⟨some 120, none, .iad 1 (.t 119) (.k (.int .i64 1))⟩, [7]⟩, ⟨⟨some 121, none, .load false 1 (.t 120)⟩, [8]⟩, ⟨⟨some 122, none, .bin .add (.t 118) (.t 121)⟩, [6, 9]⟩, ⟨⟨some 123, none, .mv (.t 12)⟩, []⟩, ⟨⟨some 124, none, .bin .sub (.t 122) (.t 123)⟩, [10, 11]⟩, ⟨⟨some 125, none, .iad 10 (.t 115) (.t 124)⟩, [3, 12]⟩, ⟨⟨some 126, none, .load true 10 (.t 125)⟩, [13]⟩, ⟨⟨some 127, none, .call 105 [(.t 113), (.t 114), (.t 126)]⟩, [1, 2, 14]⟩, ⟨⟨some 128, none, .bslice 116 10 1 [(.string ⟨#[]⟩), (.int .u8 0), (.int .i64 0), (.int .i64 0), (.int .i64 0), (.int .i64 0), (.bool false), (.slice none 0 0), (.bool false), (.slice none 0 0)] [(0, (.t 127))]⟩, [15]⟩, ⟨⟨some 129, none, .app 116 10 120 [(.string ⟨#[]⟩), (.int .u8 0), (.int .i64 0), (.int .i64 0), (.int .i64 0), (.int .i64 0), (.bool false), (.slice none 0 0), (.bool false), (.slice none 0 0)] (.t 112) (.t 128)⟩, [0, 16, 15]⟩, ⟨⟨some 4, none, .mv (.t 129)⟩, [17, 17, 0, 1, 2, 3, 4, 5, 6, 7, 8, 9, 10, 11, 12, 13, 14, 15, 16, 17]⟩] [0, 0, 0, 0, 0, 16, 48, 0, 128, 384, 1008, 0, 4080, 8184, 16376, 32766, 65534, 131071, 262143])
 .skip))))))))
 (.region [⟨some (.b (.b (.a (.a (.a (.a (.a .h))))))),none,.bin .add (.t (.b (.b (.a (.b (.b .h)))))) (.i .i64 1)⟩,⟨some (.b (.b (.a (.b (.b .h))))),none,.mv (.t (.b (.b (.a (.a (.a (.a (.a .h))))))))⟩])))))))
 (.seq (.region [⟨some (.a (.a (.b (.a (.a (.a (.a .h))))))), none, .mv (.t (.b (.a .h)))⟩, ⟨some (.b (.a (.b (.a (.a (.a (.a .h))))))), none, .call 106 [(.t (.a (.a (.b (.a (.a (.a (.a .h)))))))), (.o (.f 107))]⟩])
 (.seq (.region [⟨some (.a (.b (.b (.a (.a (.a (.a .h))))))), none, .mv (.t (.b (.a .h)))⟩, ⟨some (.b (.a .h)), none, .mv (.t (.a (.b (.b (.a (.a (.a (.a .h))))))))⟩, ⟨some (.a (.b .h)), none, .mv (.i .i64 0)⟩, ⟨some (.b (.b .h)), none, .mv (.i .i64 0)⟩])
 .ret)))))))))
def bPi:F2:=⟨134,x45,[.t 4,.t 5,.t 6]⟩
theorem bRm:lQ Tryz.prog 45 bPi.fe:=lQ.mk2 Tryz.func45 rfl rfl rfl (by kernel_rfl) (by kernel_rfl) (by kernel_rfl)
def bNA:Gc Tryz.prog Tryz.f48:=.m _
theorem bXn:lQ Tryz.prog 48 bNA.e.fe:=bNA.ok Tryz.func48
def bPE:Gc Tryz.prog Tryz.f57:=.m _
theorem cB4:lQ Tryz.prog 57 bPE.e.fe:=bPE.ok Tryz.func57
def bLa:Gc Tryz.prog Tryz.f83:=.m _
theorem bRP:lQ Tryz.prog 83 bLa.e.fe:=bLa.ok Tryz.func83
def bJf:Gc Tryz.prog Tryz.f84:=.m _
theorem bUd:lQ Tryz.prog 84 bJf.e.fe:=bJf.ok Tryz.func84
def bN8:Gc Tryz.prog Tryz.f85:=.m _
theorem bZ9:lQ Tryz.prog 85 bN8.e.fe:=bN8.ok Tryz.func85
def bJr:Gc Tryz.prog Tryz.f86:=.m _
theorem bRj:lQ Tryz.prog 86 bJr.e.fe:=bJr.ok Tryz.func86
def bFH:Gc Tryz.prog Tryz.f88:=.m _
theorem bOO:lQ Tryz.prog 88 bFH.e.fe:=bFH.ok Tryz.func88
def bNq:Gc Tryz.prog Tryz.f89:=.m _
theorem cCx:lQ Tryz.prog 89 bNq.e.fe:=bNq.ok Tryz.func89
def bFd:Gc Tryz.prog Tryz.f90:=.m _
theorem bP7:lQ Tryz.prog 90 bFd.e.fe:=bFd.ok Tryz.func90
def bM0:Gc Tryz.prog Tryz.f92:=.m _
theorem cC7:lQ Tryz.prog 92 bM0.e.fe:=bM0.ok Tryz.func92
def bFR:Gc Tryz.prog Tryz.f101:=.m _
theorem bSW:lQ Tryz.prog 101 bFR.e.fe:=bFR.ok Tryz.func101
def bFp:Gc Tryz.prog Tryz.f102:=.m _
theorem bRf:lQ Tryz.prog 102 bFp.e.fe:=bFp.ok Tryz.func102
def bIt:Gc Tryz.prog Tryz.f103:=.m _
theorem bTL:lQ Tryz.prog 103 bIt.e.fe:=bIt.ok Tryz.func103
def bEJ:Gc Tryz.prog Tryz.f104:=.m _
theorem bTX:lQ Tryz.prog 104 bEJ.e.fe:=bEJ.ok Tryz.func104
def bFb:Gc Tryz.prog Tryz.f105:=.m _
theorem bR6:lQ Tryz.prog 105 bFb.e.fe:=bFb.ok Tryz.func105
def bDZ:Gc Tryz.prog Tryz.f106:=.m _
theorem bSS:lQ Tryz.prog 106 bDZ.e.fe:=bDZ.ok Tryz.func106
def bER:Gc Tryz.prog Tryz.f107:=.m _
theorem bQK:lQ Tryz.prog 107 bER.e.fe:=bER.ok Tryz.func107
def bHz:Gc Tryz.prog Tryz.f108:=.m _
theorem bTJ:lQ Tryz.prog 108 bHz.e.fe:=bHz.ok Tryz.func108
def bGR:Gc Tryz.prog Tryz.f111:=.m _
theorem bRM:lQ Tryz.prog 111 bGR.e.fe:=bGR.ok Tryz.func111
def bID:Gc Tryz.prog Tryz.f118:=.m _
theorem bSO:lQ Tryz.prog 118 bID.e.fe:=bID.ok Tryz.func118
def bHM:Gc Tryz.prog Tryz.f124:=.m _
theorem bRB:lQ Tryz.prog 124 bHM.e.fe:=bHM.ok Tryz.func124
def bHS:Gc Tryz.prog Tryz.f125:=.m _
theorem bRQ:lQ Tryz.prog 125 bHS.e.fe:=bHS.ok Tryz.func125
def bGr:Gc Tryz.prog Tryz.f127:=.m _
theorem bRs:lQ Tryz.prog 127 bGr.e.fe:=bGr.ok Tryz.func127
def bGs:Gc Tryz.prog Tryz.f128:=.m _
theorem bTe:lQ Tryz.prog 128 bGs.e.fe:=bGs.ok Tryz.func128
def bF1:Gc Tryz.prog Tryz.f132:=.m _
theorem bRv:lQ Tryz.prog 132 bF1.e.fe:=bF1.ok Tryz.func132
def bFf:Gc Tryz.prog Tryz.f153:=.m _
theorem bRX:lQ Tryz.prog 153 bFf.e.fe:=bFf.ok Tryz.func153
def aVa:Gc Tryz.prog Tryz.f163:=.m _
theorem bE7:lQ Tryz.prog 163 aVa.e.fe:=aVa.ok Tryz.func163
def aVi:Gc Tryz.prog Tryz.f164:=.m _
theorem bHN:lQ Tryz.prog 164 aVi.e.fe:=aVi.ok Tryz.func164
def bH8:Gc Tryz.prog Tryz.f165:=.m _
theorem bTd:lQ Tryz.prog 165 bH8.e.fe:=bH8.ok Tryz.func165
def bHG:Gc Tryz.prog Tryz.f166:=.m _
theorem bT7:lQ Tryz.prog 166 bHG.e.fe:=bHG.ok Tryz.func166
def aWG:Gc Tryz.prog Tryz.f169:=.m _
theorem bIc:lQ Tryz.prog 169 aWG.e.fe:=aWG.ok Tryz.func169
def aVB:Gc Tryz.prog Tryz.f170:=.m _
theorem bE3:lQ Tryz.prog 170 aVB.e.fe:=aVB.ok Tryz.func170
def bIn:Gc Tryz.prog Tryz.f171:=.m _
theorem bS9:lQ Tryz.prog 171 bIn.e.fe:=bIn.ok Tryz.func171
def bEu:Gc Tryz.prog Tryz.f176:=.m _
theorem bTV:lQ Tryz.prog 176 bEu.e.fe:=bEu.ok Tryz.func176
def bE4:Gc Tryz.prog Tryz.f177:=.m _
theorem bUa:lQ Tryz.prog 177 bE4.e.fe:=bE4.ok Tryz.func177
def bIg:Gc Tryz.prog Tryz.f178:=.m _
theorem bSt:lQ Tryz.prog 178 bIg.e.fe:=bIg.ok Tryz.func178
def bFC:Gc Tryz.prog Tryz.f179:=.m _
theorem bTG:lQ Tryz.prog 179 bFC.e.fe:=bFC.ok Tryz.func179
def bD4:Gc Tryz.prog Tryz.f180:=.m _
theorem bQQ:lQ Tryz.prog 180 bD4.e.fe:=bD4.ok Tryz.func180
def bFB:Gc Tryz.prog Tryz.f181:=.m _
theorem bQX:lQ Tryz.prog 181 bFB.e.fe:=bFB.ok Tryz.func181
def bG7:Gc Tryz.prog Tryz.f182:=.m _
theorem bTB:lQ Tryz.prog 182 bG7.e.fe:=bG7.ok Tryz.func182
def bHe:Gc Tryz.prog Tryz.f184:=.m _
theorem bTt:lQ Tryz.prog 184 bHe.e.fe:=bHe.ok Tryz.func184
def bE9:Gc Tryz.prog Tryz.f185:=.m _
theorem bTN:lQ Tryz.prog 185 bE9.e.fe:=bE9.ok Tryz.func185
def bGM:Gc Tryz.prog Tryz.f186:=.m _
theorem bRH:lQ Tryz.prog 186 bGM.e.fe:=bGM.ok Tryz.func186
def bHc:Gc Tryz.prog Tryz.f187:=.m _
theorem bSG:lQ Tryz.prog 187 bHc.e.fe:=bHc.ok Tryz.func187
def bFW:Gc Tryz.prog Tryz.f188:=.m _
theorem bSg:lQ Tryz.prog 188 bFW.e.fe:=bFW.ok Tryz.func188
def bEG:Gc Tryz.prog Tryz.f189:=.m _
theorem bRG:lQ Tryz.prog 189 bEG.e.fe:=bEG.ok Tryz.func189
def bG4:Gc Tryz.prog Tryz.f190:=.m _
theorem bRN:lQ Tryz.prog 190 bG4.e.fe:=bG4.ok Tryz.func190
open Go.CE
def aV0:Gc Tryz.prog Tryz.f192:=.m _
theorem bIA:lQ Tryz.prog 192 aV0.e.fe:=aV0.ok Tryz.func192
def aZe:Gc Tryz.prog Tryz.f210:=.m _
theorem bMf:lQ Tryz.prog 210 aZe.e.fe:=aZe.ok Tryz.func210
def aYF:Gc Tryz.prog Tryz.f211:=.m _
theorem bMA:lQ Tryz.prog 211 aYF.e.fe:=aYF.ok Tryz.func211
def bHm:Gc Tryz.prog Tryz.f213:=.m _
theorem bT0:lQ Tryz.prog 213 bHm.e.fe:=bHm.ok Tryz.func213
def bEY:Gc Tryz.prog Tryz.f214:=.m _
theorem bRk:lQ Tryz.prog 214 bEY.e.fe:=bEY.ok Tryz.func214
def aZO:Gc Tryz.prog Tryz.f215:=.m _
theorem bMG:lQ Tryz.prog 215 aZO.e.fe:=aZO.ok Tryz.func215
def bFZ:Gc Tryz.prog Tryz.f218:=.m _
theorem bQW:lQ Tryz.prog 218 bFZ.e.fe:=bFZ.ok Tryz.func218
def bEx:Gc Tryz.prog Tryz.f219:=.m _
theorem bTI:lQ Tryz.prog 219 bEx.e.fe:=bEx.ok Tryz.func219
def bFi:Gc Tryz.prog Tryz.f220:=.m _
theorem bTW:lQ Tryz.prog 220 bFi.e.fe:=bFi.ok Tryz.func220
def bAs:Gc Tryz.prog Tryz.f233:=.m _
theorem bL9:lQ Tryz.prog 233 bAs.e.fe:=bAs.ok Tryz.func233
def aV2:Gc Tryz.prog Tryz.f236:=.m _
theorem bIw:lQ Tryz.prog 236 aV2.e.fe:=aV2.ok Tryz.func236
def aYD:Gc Tryz.prog Tryz.f237:=.m _
theorem bMS:lQ Tryz.prog 237 aYD.e.fe:=aYD.ok Tryz.func237
def aVc:Gc Tryz.prog Tryz.f240:=.m _
theorem bFl:lQ Tryz.prog 240 aVc.e.fe:=aVc.ok Tryz.func240
def bGI:Gc Tryz.prog Tryz.f241:=.m _
theorem bS1:lQ Tryz.prog 241 bGI.e.fe:=bGI.ok Tryz.func241
def aVX:Gc Tryz.prog Tryz.f242:=.m _
theorem bHI:lQ Tryz.prog 242 aVX.e.fe:=aVX.ok Tryz.func242
def aVe:Gc Tryz.prog Tryz.f243:=.m _
theorem bGe:lQ Tryz.prog 243 aVe.e.fe:=aVe.ok Tryz.func243
def bEr:Gc Tryz.prog Tryz.f244:=.m _
theorem bQ0:lQ Tryz.prog 244 bEr.e.fe:=bEr.ok Tryz.func244
def bHH:Gc Tryz.prog Tryz.f245:=.m _
theorem bT3:lQ Tryz.prog 245 bHH.e.fe:=bHH.ok Tryz.func245
def bEC:Gc Tryz.prog Tryz.f246:=.m _
theorem bSK:lQ Tryz.prog 246 bEC.e.fe:=bEC.ok Tryz.func246
def bGd:Gc Tryz.prog Tryz.f247:=.m _
theorem bRr:lQ Tryz.prog 247 bGd.e.fe:=bGd.ok Tryz.func247
def bHx:Gc Tryz.prog Tryz.f248:=.m _
theorem bRp:lQ Tryz.prog 248 bHx.e.fe:=bHx.ok Tryz.func248
def bGE:Gc Tryz.prog Tryz.f249:=.m _
theorem bTh:lQ Tryz.prog 249 bGE.e.fe:=bGE.ok Tryz.func249
def bGG:Gc Tryz.prog Tryz.f250:=.m _
theorem bSr:lQ Tryz.prog 250 bGG.e.fe:=bGG.ok Tryz.func250
def bId:Gc Tryz.prog Tryz.f259:=.m _
theorem bSX:lQ Tryz.prog 259 bId.e.fe:=bId.ok Tryz.func259
def bAu:Gc Tryz.prog Tryz.f265:=.m _
theorem bMd:lQ Tryz.prog 265 bAu.e.fe:=bAu.ok Tryz.func265
def aYw:Gc Tryz.prog Tryz.f266:=.m _
theorem bL8:lQ Tryz.prog 266 aYw.e.fe:=aYw.ok Tryz.func266
def bHB:Gc Tryz.prog Tryz.f267:=.m _
theorem bTM:lQ Tryz.prog 267 bHB.e.fe:=bHB.ok Tryz.func267
def aY4:Gc Tryz.prog Tryz.f269:=.m _
theorem bMM:lQ Tryz.prog 269 aY4.e.fe:=aY4.ok Tryz.func269
def bF2:Gc Tryz.prog Tryz.f270:=.m _
theorem bSn:lQ Tryz.prog 270 bF2.e.fe:=bF2.ok Tryz.func270
def aZE:Gc Tryz.prog Tryz.f271:=.m _
theorem bMH:lQ Tryz.prog 271 aZE.e.fe:=aZE.ok Tryz.func271
def aZP:Gc Tryz.prog Tryz.f272:=.m _
theorem bMe:lQ Tryz.prog 272 aZP.e.fe:=aZP.ok Tryz.func272
def aV3:Gc Tryz.prog Tryz.f273:=.m _
theorem bFg:lQ Tryz.prog 273 aV3.e.fe:=aV3.ok Tryz.func273
def aYY:Gc Tryz.prog Tryz.f277:=.m _
theorem bMO:lQ Tryz.prog 277 aYY.e.fe:=aYY.ok Tryz.func277
def aX1:Gc Tryz.prog Tryz.f278:=.m _
theorem bMa:lQ Tryz.prog 278 aX1.e.fe:=aX1.ok Tryz.func278
def bH4:Gc Tryz.prog Tryz.f279:=.m _
theorem bRq:lQ Tryz.prog 279 bH4.e.fe:=bH4.ok Tryz.func279
def aVk:Gc Tryz.prog Tryz.f280:=.m _
theorem bFh:lQ Tryz.prog 280 aVk.e.fe:=aVk.ok Tryz.func280
def aV5:Gc Tryz.prog Tryz.f281:=.m _
theorem bGb:lQ Tryz.prog 281 aV5.e.fe:=aV5.ok Tryz.func281
def bG5:Gc Tryz.prog Tryz.f282:=.m _
theorem bTb:lQ Tryz.prog 282 bG5.e.fe:=bG5.ok Tryz.func282
def bHY:Gc Tryz.prog Tryz.f288:=.m _
theorem bRZ:lQ Tryz.prog 288 bHY.e.fe:=bHY.ok Tryz.func288
def bHW:Gc Tryz.prog Tryz.f291:=.m _
theorem bQO:lQ Tryz.prog 291 bHW.e.fe:=bHW.ok Tryz.func291
def bFQ:Gc Tryz.prog Tryz.f297:=.m _
theorem bSj:lQ Tryz.prog 297 bFQ.e.fe:=bFQ.ok Tryz.func297
def bEv:Gc Tryz.prog Tryz.f298:=.m _
theorem bQL:lQ Tryz.prog 298 bEv.e.fe:=bEv.ok Tryz.func298
def aYg:Gc Tryz.prog Tryz.f299:=.m _
theorem bMV:lQ Tryz.prog 299 aYg.e.fe:=aYg.ok Tryz.func299
def bAN:Gc Tryz.prog Tryz.f300:=.m _
theorem bMX:lQ Tryz.prog 300 bAN.e.fe:=bAN.ok Tryz.func300
def bFx:Gc Tryz.prog Tryz.f305:=.m _
theorem bSU:lQ Tryz.prog 305 bFx.e.fe:=bFx.ok Tryz.func305
def aVA:Gc Tryz.prog Tryz.f306:=.m _
theorem bFc:lQ Tryz.prog 306 aVA.e.fe:=aVA.ok Tryz.func306
def aZ2:Gc Tryz.prog Tryz.f307:=.m _
theorem bMz:lQ Tryz.prog 307 aZ2.e.fe:=aZ2.ok Tryz.func307
def aZ7:Gc Tryz.prog Tryz.f308:=.m _
theorem bMx:lQ Tryz.prog 308 aZ7.e.fe:=aZ7.ok Tryz.func308
def bHw:Gc Tryz.prog Tryz.f313:=.m _
theorem bTO:lQ Tryz.prog 313 bHw.e.fe:=bHw.ok Tryz.func313
def aYh:Gc Tryz.prog Tryz.f314:=.m _
theorem bMU:lQ Tryz.prog 314 aYh.e.fe:=aYh.ok Tryz.func314
def aZ8:Gc Tryz.prog Tryz.f318:=.m _
theorem bMk:lQ Tryz.prog 318 aZ8.e.fe:=aZ8.ok Tryz.func318
def aX0:Gc Tryz.prog Tryz.f319:=.m _
theorem bMQ:lQ Tryz.prog 319 aX0.e.fe:=aX0.ok Tryz.func319
open Go.CE
def tb1:List (Nat×F2):=[(219,bEx.e),(273,aV3.e),(297,bFQ.e),(313,bHw.e)]
theorem iF:aDP Tryz.prog (pM (aEf tb1)):=aEs (eM bTI (eM bFg (eM bSj (eM bTO (fun p hp=>absurd hp List.not_mem_nil)))))
def tb2:List (Nat×F2):=[(83,bLa.e),(84,bJf.e),(88,bFH.e),(90,bFd.e),(153,bFf.e),(163,aVa.e),(164,aVi.e),(169,aWG.e),(170,aVB.e),(192,aV0.e),(236,aV2.e),(237,aYD.e),(240,aVc.e),(242,aVX.e),(243,aVe.e),(267,bHB.e),(273,aV3.e),(277,aYY.e),(278,aX1.e),(280,aVk.e),(281,aV5.e),(298,bEv.e),(300,bAN.e),(306,aVA.e),(307,aZ2.e),(308,aZ7.e),(314,aYh.e),(318,aZ8.e),(319,aX0.e)]
theorem gX:aDP Tryz.prog (pM (aEf tb2)):=aEs (eM bRP (eM bUd (eM bOO (eM bP7 (eM bRX (eM bE7 (eM bHN (eM bIc (eM bE3 (eM bIA (eM bIw (eM bMS (eM bFl (eM bHI (eM bGe (eM bTM (eM bFg (eM bMO (eM bMa (eM bFh (eM bGb (eM bQL (eM bMX (eM bFc (eM bMz (eM bMx (eM bMU (eM bMk (eM bMQ (fun p hp=>absurd hp List.not_mem_nil))))))))))))))))))))))))))))))
def tb3:List (Nat×F2):=[(210,aZe.e),(211,aYF.e),(213,bHm.e),(214,bEY.e),(215,aZO.e),(218,bFZ.e),(220,bFi.e),(233,bAs.e),(265,bAu.e),(266,aYw.e),(269,aY4.e),(271,aZE.e),(272,aZP.e),(273,aV3.e),(299,aYg.e)]
theorem iP:aDP Tryz.prog (pM (aEf tb3)):=aEs (eM bMf (eM bMA (eM bT0 (eM bRk (eM bMG (eM bQW (eM bTW (eM bL9 (eM bMd (eM bL8 (eM bMM (eM bMH (eM bMe (eM bFg (eM bMV (fun p hp=>absurd hp List.not_mem_nil))))))))))))))))
def tb4:List (Nat×F2):=[(57,bPE.e),(124,bHM.e),(125,bHS.e),(127,bGr.e),(128,bGs.e),(132,bF1.e),(210,aZe.e),(211,aYF.e),(215,aZO.e),(233,bAs.e),(265,bAu.e),(266,aYw.e),(269,aY4.e),(270,bF2.e),(271,aZE.e),(272,aZP.e),(299,aYg.e)]
theorem pA:aDP Tryz.prog (pM (aEf tb4)):=aEs (eM cB4 (eM bRB (eM bRQ (eM bRs (eM bTe (eM bRv (eM bMf (eM bMA (eM bMG (eM bL9 (eM bMd (eM bL8 (eM bMM (eM bSn (eM bMH (eM bMe (eM bMV (fun p hp=>absurd hp List.not_mem_nil))))))))))))))))))
def tb5:List (Nat×F2):=[(34,bPl.e),(37,bQd.e),(83,bLa.e),(84,bJf.e),(85,bN8.e),(86,bJr.e),(88,bFH.e),(90,bFd.e),(104,bEJ.e),(163,aVa.e),(164,aVi.e),(165,bH8.e),(166,bHG.e),(169,aWG.e),(170,aVB.e),(192,aV0.e),(236,aV2.e),(237,aYD.e),(240,aVc.e),(241,bGI.e),(242,aVX.e),(243,aVe.e),(277,aYY.e),(278,aX1.e),(279,bH4.e),(280,aVk.e),(281,aV5.e),(300,bAN.e),(305,bFx.e),(306,aVA.e),(307,aZ2.e),(308,aZ7.e),(314,aYh.e),(318,aZ8.e),(319,aX0.e)]
theorem aU5:aDP Tryz.prog (pM (aEf tb5)):=aEs (eM cBK (eM bYB (eM bRP (eM bUd (eM bZ9 (eM bRj (eM bOO (eM bP7 (eM bTX (eM bE7 (eM bHN (eM bTd (eM bT7 (eM bIc (eM bE3 (eM bIA (eM bIw (eM bMS (eM bFl (eM bS1 (eM bHI (eM bGe (eM bMO (eM bMa (eM bRq (eM bFh (eM bGb (eM bMX (eM bSU (eM bFc (eM bMz (eM bMx (eM bMU (eM bMk (eM bMQ (fun p hp=>absurd hp List.not_mem_nil))))))))))))))))))))))))))))))))))))
def bYP:List (Nat×F2):=[(38,bNo.e),(39,bPv.e),(42,bNy.e),(45,bPi),(48,bNA.e),(86,bJr.e),(88,bFH.e),(89,bNq.e),(90,bFd.e),(92,bM0.e),(101,bFR.e),(102,bFp.e),(103,bIt.e),(105,bFb.e),(106,bDZ.e),(107,bER.e),(108,bHz.e),(111,bGR.e),(118,bID.e),(163,aVa.e),(164,aVi.e),(169,aWG.e),(170,aVB.e),(171,bIn.e),(176,bEu.e),(177,bE4.e),(178,bIg.e),(179,bFC.e),(180,bD4.e),(181,bFB.e),(182,bG7.e),(184,bHe.e),(185,bE9.e),(186,bGM.e),(187,bHc.e),(188,bFW.e),(189,bEG.e),(190,bG4.e),(192,aV0.e),(236,aV2.e),(240,aVc.e),(242,aVX.e),(243,aVe.e),(244,bEr.e),(245,bHH.e),(246,bEC.e),(247,bGd.e),(248,bHx.e),(249,bGE.e),(250,bGG.e),(259,bId.e),(280,aVk.e),(281,aV5.e),(282,bG5.e),(288,bHY.e),(291,bHW.e),(306,aVA.e)]
theorem aU1:aDP Tryz.prog (pM (aEf bYP)):=aEs (eM bZq (eM bZO (eM cAi (eM bRm (eM bXn (eM bRj (eM bOO (eM cCx (eM bP7 (eM cC7 (eM bSW (eM bRf (eM bTL (eM bR6 (eM bSS (eM bQK (eM bTJ (eM bRM (eM bSO (eM bE7 (eM bHN (eM bIc (eM bE3 (eM bS9 (eM bTV (eM bUa (eM bSt (eM bTG (eM bQQ (eM bQX (eM bTB (eM bTt (eM bTN (eM bRH (eM bSG (eM bSg (eM bRG (eM bRN (eM bIA (eM bIw (eM bFl (eM bHI (eM bGe (eM bQ0 (eM bT3 (eM bSK (eM bRr (eM bRp (eM bTh (eM bSr (eM bSX (eM bFh (eM bGb (eM bTb (eM bRZ (eM bQO (eM bFc (fun p hp=>absurd hp List.not_mem_nil))))))))))))))))))))))))))))))))))))))))))))))))))))))))))
theorem cP:sJ Tryz.prog aWT:=aOY
theorem mixed:Tryz.prog.follows .mixedOrders=true:=by kernel_rfl
end Go.Proofs.YtlceligcgelbdaaGreat
