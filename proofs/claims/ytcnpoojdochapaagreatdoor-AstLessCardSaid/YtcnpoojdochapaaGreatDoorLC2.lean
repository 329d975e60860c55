/- The code of the functions that are walked through (2), and that it is the program's. -/
import Derived.WalkKit
import Derived.Orders
import Derived.Test.YtcnpoojdochapaaGreatDoorLC1
set_option linter.unusedVariables false
set_option maxRecDepth 100000
namespace Go.Proofs.YtcnpoojdochapaaGreatDoor
open Go.CE Go.RowKit
def y105:XC:=(Zq (Rg [Iq 2 (.box 24 T0),Iq 3 (.box 24 T1),Iq 4 (.alloc 26 [Zf,Zs,Zf,Zs])])
 (Zq (Rg [Iq 12 (Lt 2 T2),Iq 13 (Lt 2 T3),Iq 14 (.call 167 [T12,T13]),Iq 5 (.alloc 24 [Zf,Zs]),Is (.store 2 T5 T14)])
 (Zq (Zq (Rg [Iq 15 (Lt 2 T3),Iq 16 (.call 103 [T15]),Iq 17 (.bin .lss T16 (Ki 0))])
 (.cond T17 (Rg [Iq 18 (Lt 2 T5),Iq 19 (.call 81 [T18]),Is (.store 2 T5 T19)])
 .skip))
 (Zq (Rg [Iq 21 (Lt 2 T2),Iq 22 (Lt 2 T5),Iq 23 (.call 101 [T21,T22]),Im 20 T23,Iq 24 (.ext T20 0),Iq 25 (.ext T20 1),Iq 26 (.ext T20 2),Iq 6 (.alloc 24 [Zf,Zs]),Iq 7 (.alloc 24 [Zf,Zs]),Is (.store 2 T6 T24),Is (.store 2 T7 T25),Im 8 T26])
 (Zq (Rg [Iq 28 (Lt 2 T3),Iq 29 (Lt 2 T5),Iq 30 (.call 101 [T28,T29]),Im 27 T30,Iq 31 (.ext T27 0),Iq 32 (.ext T27 1),Iq 33 (.ext T27 2),Iq 9 (.alloc 24 [Zf,Zs]),Iq 10 (.alloc 24 [Zf,Zs]),Is (.store 2 T9 T31),Is (.store 2 T10 T32),Im 11 T33])
 (Zq (Rg [Iq 34 (Lt 2 T6),Iq 35 (Lt 2 T9),Iq 36 (.build [Zf,Zs,Zf,Zs] [(0,2,T34),(2,2,T35)]),Is (.store 4 T4 T36)])
 .ret))))))
def ge105 : FE := ⟨37, y105, [.c 4 true 4]⟩
theorem oks105 : FOk Tryz.prog 105 ge105 := FOk.mk1 Tryz.func105
def y106:XC:=(Zq (Rg [Iq 2 (.box 24 T0),Iq 3 (.box 24 T1),Iq 4 (.alloc 24 [Zf,Zs])])
 (Zq (.draw [⟨Iq 7 (Lt 2 T2),[]⟩,⟨Iq 8 (.call 154 [T7]),[0]⟩,⟨Iq 9 (Lt 2 T3),[]⟩,⟨Iq 10 (.call 154 [T9]),[2,1]⟩,⟨Iq 5 (.alloc 228 [Zf,Zs]),[]⟩,⟨Iq 6 (.alloc 228 [Zf,Zs]),[]⟩,⟨Is (.store 2 T5 T8),[4,1,3,0,1,4,5]⟩,⟨Is (.store 2 T6 T10),[5,3,6,0,1,2,3,4,5,6]⟩] [0,1,0,7,0,0,63,127])
 (Zq (.draw [⟨Iq 11 (.fad 0 T5),[]⟩,⟨Iq 12 (.fad 0 T11),[0]⟩,⟨Iq 13 (Lo T12),[1]⟩,⟨Iq 14 (.fad 0 T6),[]⟩,⟨Iq 15 (.fad 0 T14),[3]⟩,⟨Iq 16 (Lo T15),[4]⟩,⟨Iq 17 (.binB .neq T13 T16),[2,5]⟩,⟨Iq 18 (.fad 0 T5),[]⟩,⟨Iq 19 (.fad 1 T18),[7]⟩,⟨Iq 20 (Lo T19),[8]⟩,⟨Iq 21 (.fad 0 T6),[]⟩,⟨Iq 22 (.fad 1 T21),[10]⟩,⟨Iq 23 (Lo T22),[11]⟩,⟨Iq 24 (.call 173 [T20,T23]),[9,12]⟩,⟨Iq 25 (.call 171 [T17,T24]),[6,13,13]⟩,⟨Is (.store 2 T4 T25),[14,14,0,1,2,3,4,5,6,7,8,9,10,11,12,13,14]⟩] [0,1,3,0,8,24,63,0,128,384,0,1024,3072,8064,16383,32767])
 .ret)))
def ge106 : FE := ⟨26, y106, [.c 4 true 2]⟩
theorem oks106 : FOk Tryz.prog 106 ge106 := FOk.mk1 Tryz.func106
def y107:XC:=(Zq (Rg [Iq 2 (.box 24 T0),Iq 3 (.box 24 T1),Iq 4 (.mv (Ki 0))])
 (Zq (Rg [Iq 5 (Lt 2 T2),Iq 6 (Lt 2 T3),Iq 7 (.call 174 [T5,T6]),Iq 8 (.call 103 [T7]),Im 4 T8])
 .ret))
def ge107 : FE := ⟨9, y107, [.t 4]⟩
theorem oks107 : FOk Tryz.prog 107 ge107 := FOk.mk1 Tryz.func107
def y108:XC:=(Zq (Rg [Iq 3 (.box 26 T0),Iq 6 (.alloc 26 [Zf,Zs,Zf,Zs])])
 (Zq (Rg [Iq 10 (Lt 4 T3),Iq 11 (.call 80 [T10]),Iq 12 (.call 38 [(Ki 0)]),Iq 13 (.call 79 [T11,T12]),Iq 7 (.alloc 26 [Zf,Zs,Zf,Zs]),Is (.store 4 T7 T13)])
 (Zq (Zq (Rg [Im 14 T1,Iq 15 (.len false T14),Iq 16 (.mv (Ki 0))])
 (.block 0 (.loop (Zq (Rg [Iq 17 (.bin .lss T16 T15)])
 (Zq (.cond T17 .skip
 (.exit 0))
 (Zq (.block 1 (Zq (Rg [Iq 18 (.iad 4 T14 T16),Iq 19 (Lt 4 T18),Iq 9 (.alloc 26 [Zf,Zs,Zf,Zs]),Is (.store 4 T9 T19)])
 (Zq (.draw [⟨Im 20 T2,[]⟩,⟨Iq 21 (Lt 4 T7),[]⟩,⟨Iq 22 (.build [Zf,Zs,Zf,Zs] [(0,4,T21)]),[1]⟩,⟨Iq 23 (.callv T20 [T22]),[0,2]⟩,⟨Iq 24 (Lt 4 T9),[]⟩,⟨Iq 25 (.callv T23 [T24]),[3,4,3]⟩] [0,0,2,7,0,31])
 (.cond T25 (Rg [Iq 26 (Lt 4 T9),Iq 27 (.call 80 [T26]),Iq 28 (.call 38 [(Ki 0)]),Iq 29 (.call 79 [T27,T28]),Is (.store 4 T7 T29)])
 .skip))))
 (Rg [Iq 30 (.bin .add T16 (Ki 1)),Im 16 T30])))))))
 (Zq (Rg [Iq 31 (Lt 4 T7),Is (.store 4 T6 T31)])
 .ret))))
def ge108 : FE := ⟨32, y108, [.c 6 true 4]⟩
theorem oks108 : FOk Tryz.prog 108 ge108 := FOk.mk1 Tryz.func108
def y109:XC:=(Zq (Rg [Iq 1 (.box 165 T0),Iq 2 (.mv (.k .nilFunc))])
 (Zq (Rg [Iq 3 (Lt 4 T1),Iq 4 (.mkf 110 [T3] []),Im 2 T4])
 .ret))
def ge109 : FE := ⟨5, y109, [.t 2]⟩
theorem oks109 : FOk Tryz.prog 109 ge109 := FOk.mk1 Tryz.func109
def y110:XC:=(Zq (Rg [Iq 2 (.box 165 T0),Iq 3 (.box 26 T1),Iq 4 (.mv Kf)])
 (Zq (Rg [Iq 5 (Lt 4 T3),Iq 6 (.fad 0 T2),Iq 7 (Lt 4 T6),Iq 8 (.call 40 [T5,T7]),Iq 9 (.bin .gtr T8 (Ki 0)),Im 4 T9])
 .ret))
def ge110 : FE := ⟨10, y110, [.t 4]⟩
theorem oks110 : FOk Tryz.prog 110 ge110 := FOk.mk1 Tryz.func110
def y111:XC:=(Zq (Rg [Iq 2 (.box 28 T0),Iq 3 (.box 28 T1),Iq 4 (.alloc 28 [Zf,Zs]),Iq 5 (.alloc 28 [Zf,Zs]),Iq 6 (.mv (Ki 0))])
 (Zq (Rg [Iq 11 (Lt 2 T2),Iq 12 (.call 149 [T11]),Is (.store 2 T2 T12)])
 (Zq (Rg [Iq 13 (Lt 2 T3),Iq 14 (.call 149 [T13]),Is (.store 2 T3 T14)])
 (Zq (Zq (Rg [Iq 15 (.fad 1 T3),Iq 16 (Lo T15),Iq 17 (.len false T16),Iq 18 (.bin .eql T17 (Ki 0))])
 (.cond T18 (Zq (Rg [Iq 19 (.build [Zf,Zs] []),Iq 20 (.build [Zf,Zs] []),Is (.store 2 T4 T19),Is (.store 2 T5 T20),Iq 6 (.mv (Ki 20))])
 .ret)
 .skip))
 (Zq (.draw [⟨Iq 22 (.fad 1 T2),[]⟩,⟨Iq 23 (Lo T22),[0]⟩,⟨Iq 24 (.call 152 [T23]),[1]⟩,⟨Iq 25 (.fad 1 T3),[]⟩,⟨Iq 26 (Lo T25),[3]⟩,⟨Iq 27 (.call 152 [T26]),[4,2]⟩,⟨Iq 28 (.call 175 [T24,T27]),[2,5,5]⟩,⟨Im 21 T28,[6]⟩,⟨Iq 29 (.ext T21 0),[7]⟩,⟨Iq 30 (.ext T21 1),[7]⟩,⟨Im 7 T29,[8,6,0,1,2,3,4,5,6,7,8]⟩,⟨Im 8 T30,[9,10,0,1,2,3,4,5,6,7,8,9,10]⟩] [0,1,3,0,8,31,63,127,255,255,511,2047])
 (Zq (.draw [⟨Iq 31 (.fad 0 T2),[]⟩,⟨Iq 32 (Lo T31),[0]⟩,⟨Iq 33 (.fad 0 T3),[]⟩,⟨Iq 34 (Lo T33),[2]⟩,⟨Iq 35 (.binB .neq T32 T34),[1,3]⟩,⟨Im 36 T7,[]⟩,⟨Iq 37 (.call 150 [T36]),[5]⟩,⟨Iq 38 (.call 148 [T35,T37]),[4,6,6]⟩,⟨Iq 39 (.fad 0 T2),[]⟩,⟨Iq 40 (Lo T39),[8]⟩,⟨Im 41 T8,[]⟩,⟨Iq 42 (.call 150 [T41]),[10,7]⟩,⟨Iq 43 (.call 148 [T40,T42]),[9,11,11]⟩,⟨Iq 9 (.alloc 28 [Zf,Zs]),[]⟩,⟨Iq 10 (.alloc 28 [Zf,Zs]),[]⟩,⟨Is (.store 2 T9 T38),[13,7,12,0,1,2,3,4,5,6,7,13,14]⟩,⟨Is (.store 2 T10 T43),[14,12,15,0,1,2,3,4,5,6,7,8,9,10,11,12,13,14,15]⟩] [0,1,0,4,15,0,32,127,0,256,0,1279,4095,0,0,32767,65535])
 (Zq (Zq (.draw [⟨Iq 44 (Lt 2 T10),[]⟩,⟨Iq 45 (.call 113 [T44]),[0]⟩,⟨Iq 46 (.bin .neq T45 (Ki 0)),[1]⟩,⟨Im 47 T46,[2,1]⟩,⟨Iw 48 47 (Lt 2 T10),[3]⟩,⟨Iw 49 47 (.call 113 [T48]),[4,3,3]⟩,⟨Iw 50 47 (Lt 2 T3),[3]⟩,⟨Iw 51 47 (.call 113 [T50]),[6,5,3]⟩,⟨Iw 52 47 (.bin .neq T49 T51),[5,7,3]⟩,⟨Iq 53 (.pick T47 T52 Kf),[3,8]⟩] [0,1,3,7,15,31,15,127,255,511])
 (.cond T53 (Zq (.draw [⟨Iq 54 (Lt 2 T9),[]⟩,⟨Iq 55 (.call 76 [(Ki 1)]),[]⟩,⟨Iq 56 (.call 176 [T54,T55]),[0,1,1]⟩,⟨Is (.store 2 T9 T56),[2,2,0,1,2]⟩] [0,0,3,7])
 (Rg [Iq 57 (Lt 2 T10),Iq 58 (Lt 2 T3),Iq 59 (.call 177 [T57,T58]),Is (.store 2 T10 T59)]))
 .skip))
 (Zq (.draw [⟨Iq 60 (Lt 2 T9),[]⟩,⟨Iq 61 (Lt 2 T10),[]⟩,⟨Is (.store 2 T4 T60),[0,0]⟩,⟨Is (.store 2 T5 T61),[1,2,0,1,2]⟩,⟨Iq 6 (.mv (Ki 0)),[3,0,1,2,3]⟩] [0,0,1,7,15])
 .ret))))))))
def ge111 : FE := ⟨62, y111, [.c 4 true 2, .c 5 true 2, .t 6]⟩
theorem oks111 : FOk Tryz.prog 111 ge111 := FOk.mk1 Tryz.func111
def y113:XC:=(Zq (Rg [Iq 1 (.box 28 T0),Iq 2 (.mv (Ki 0))])
 (Zq (Rg [Iq 3 (Lt 2 T1),Iq 4 (.build [Zf,Zs] []),Iq 5 (.call 180 [T3,T4]),Im 2 T5])
 .ret))
def ge113 : FE := ⟨6, y113, [.t 2]⟩
theorem oks113 : FOk Tryz.prog 113 ge113 := FOk.mk1 Tryz.func113
def y115:XC:=(Zq (Rg [Iq 1 (.box 28 T0),Iq 2 (.alloc 28 [Zf,Zs])])
 (Zq (.draw [⟨Iq 3 (Lt 2 T1),[]⟩,⟨Iq 4 (.call 149 [T3]),[0]⟩,⟨Iq 5 (.fld false 1 0 T4),[1]⟩,⟨Iq 6 (.un .not T5),[2]⟩,⟨Iq 7 (Lt 2 T1),[]⟩,⟨Iq 8 (.call 149 [T7]),[4,1]⟩,⟨Iq 9 (.fld false 1 1 T8),[5]⟩,⟨Iq 10 (.call 148 [T6,T9]),[3,6,5]⟩,⟨Is (.store 2 T2 T10),[7,7,0,1,2,3,4,5,6,7]⟩] [0,1,3,7,0,19,51,127,255])
 .ret))
def ge115 : FE := ⟨11, y115, [.c 2 true 2]⟩
theorem oks115 : FOk Tryz.prog 115 ge115 := FOk.mk1 Tryz.func115
def y116:XC:=(Zq (Rg [Iq 4 (.mv Kf)])
 (Zq (Rg [Im 5 T0,Iq 6 (.bin .geq T5 (Ki 0)),Im 7 T6,Iw 8 7 (.mv T0),Iw 9 7 (.mv T1),Iw 10 7 (.bin .leq T8 T9),Iq 11 (.pick T7 T10 Kf),Im 4 T11])
 .ret))
def ge116 : FE := ⟨12, y116, [.t 4]⟩
theorem oks116 : FOk Tryz.prog 116 ge116 := FOk.mk1 Tryz.func116
def y117:XC:=wrongX 6 172 127 [Ze,Ze,Zf,Zs,Zf,Zs]
def ge117 : FE := ⟨42, y117, [.t 10]⟩
theorem oks117 : FOk Tryz.prog 117 ge117 := FOk.mk1 Tryz.func117
def y118:XC:=(Zq (Rg [Iq 1 (.box 172 T0),Iq 2 (.mv Kf)])
 (Zq (Rg [Iq 3 (.fad 0 T1),Iq 4 (Lo T3),Iq 5 (.call 9 [T4]),Im 6 T5,Iw 7 6 (.fad 1 T1),Iw 8 6 (Lo T7),Iw 9 6 (.call 9 [T8]),Iq 10 (.pick T6 T9 Kf),Im 11 T10,Iw 12 11 (.fad 2 T1),Iw 13 11 (Lt 4 T12),Iw 14 11 (.call 13 [T13]),Iq 15 (.pick T11 T14 Kf),Im 2 T15])
 .ret))
def ge118 : FE := ⟨16, y118, [.t 2]⟩
theorem oks118 : FOk Tryz.prog 118 ge118 := FOk.mk1 Tryz.func118
def y119:XC:=wrongX 6 174 127 [Ze,Ze,Zf,Zs,Zf,Zs]
def ge119 : FE := ⟨42, y119, [.t 10]⟩
theorem oks119 : FOk Tryz.prog 119 ge119 := FOk.mk1 Tryz.func119
def y120:XC:=(Zq (Rg [Iq 1 (.box 174 T0),Iq 2 (.mv Kf)])
 (Zq (Rg [Iq 3 (.fad 0 T1),Iq 4 (Lo T3),Iq 5 (.call 9 [T4]),Im 6 T5,Iw 7 6 (.fad 1 T1),Iw 8 6 (Lo T7),Iw 9 6 (.call 9 [T8]),Iq 10 (.pick T6 T9 Kf),Im 11 T10,Iw 12 11 (.fad 2 T1),Iw 13 11 (Lt 4 T12),Iw 14 11 (.call 11 [T13]),Iq 15 (.pick T11 T14 Kf),Im 2 T15])
 .ret))
def ge120 : FE := ⟨16, y120, [.t 2]⟩
theorem oks120 : FOk Tryz.prog 120 ge120 := FOk.mk1 Tryz.func120
def y121:XC:=wrongX 10 176 127 [Zf,Ze,(.int .u8 0),Ze,Ze,Ze,Zf,Zs,Zf,Zs]
def ge121 : FE := ⟨42, y121, [.t 10]⟩
theorem oks121 : FOk Tryz.prog 121 ge121 := FOk.mk1 Tryz.func121
def y122:XC:=(Zq (Rg [Iq 1 (.box 176 T0),Iq 2 (.mv Kf)])
 (Zq (Rg [Iq 3 (.fad 1 T1),Iq 4 (Lo T3),Iq 5 (.call 9 [T4]),Im 6 T5,Iw 7 6 (.fad 2 T1),Iw 8 6 (Lo T7),Iw 9 6 (.bin .geq T8 (.k (.int .u8 1))),Iq 10 (.pick T6 T9 Kf),Im 11 T10,Iw 12 11 (.fad 2 T1),Iw 13 11 (Lo T12),Iw 14 11 (.bin .leq T13 (.k (.int .u8 4))),Iq 15 (.pick T11 T14 Kf),Im 16 T15,Iw 17 16 (.fad 3 T1),Iw 18 16 (Lo T17),Iw 19 16 (.call 9 [T18]),Iq 20 (.pick T16 T19 Kf),Im 21 T20,Iw 22 21 (.fad 4 T1),Iw 23 21 (Lo T22),Iw 24 21 (.call 9 [T23]),Iq 25 (.pick T21 T24 Kf),Im 26 T25,Iw 27 26 (.fad 5 T1),Iw 28 26 (Lo T27),Iw 29 26 (.call 9 [T28]),Iq 30 (.pick T26 T29 Kf),Im 31 T30,Iw 32 31 (.fad 6 T1),Iw 33 31 (Lt 4 T32),Iw 34 31 (.call 11 [T33]),Iq 35 (.pick T31 T34 Kf),Im 2 T35])
 .ret))
def ge122 : FE := ⟨36, y122, [.t 2]⟩
theorem oks122 : FOk Tryz.prog 122 ge122 := FOk.mk1 Tryz.func122
def y123:XC:=wrongX 9 178 127 [Ze,Zf,Zs,Zf,Zs,Zf,Zs,Zf,Zs]
def ge123 : FE := ⟨42, y123, [.t 10]⟩
theorem oks123 : FOk Tryz.prog 123 ge123 := FOk.mk1 Tryz.func123
def y124:XC:=(Zq (Rg [Iq 1 (.box 178 T0),Iq 2 (.mv Kf)])
 (Zq (Rg [Iq 3 (.fad 0 T1),Iq 4 (Lo T3),Iq 5 (.call 9 [T4]),Im 6 T5,Iw 7 6 (.fad 1 T1),Iw 8 6 (Lt 4 T7),Iw 9 6 (.call 11 [T8]),Iq 10 (.pick T6 T9 Kf),Im 11 T10,Iw 12 11 (.fad 5 T1),Iw 13 11 (Lt 4 T12),Iw 14 11 (.call 13 [T13]),Iq 15 (.pick T11 T14 Kf),Im 2 T15])
 .ret))
def ge124 : FE := ⟨16, y124, [.t 2]⟩
theorem oks124 : FOk Tryz.prog 124 ge124 := FOk.mk1 Tryz.func124
def y125:XC:=wrongX 5 143 127 [Ze,Zf,Zs,Zf,Zs]
def ge125 : FE := ⟨42, y125, [.t 10]⟩
theorem oks125 : FOk Tryz.prog 125 ge125 := FOk.mk1 Tryz.func125
def y126:XC:=(Zq (Rg [Iq 1 (.box 143 T0),Iq 2 (.mv Kf)])
 (Zq (Rg [Iq 3 (.fad 0 T1),Iq 4 (Lo T3),Iq 5 (.call 9 [T4]),Im 6 T5,Iw 7 6 (.fad 1 T1),Iw 8 6 (Lt 4 T7),Iw 9 6 (.call 13 [T8]),Iq 10 (.pick T6 T9 Kf),Im 2 T10])
 .ret))
def ge126 : FE := ⟨11, y126, [.t 2]⟩
theorem oks126 : FOk Tryz.prog 126 ge126 := FOk.mk1 Tryz.func126
def y147:XC:=(Zq (Rg [Iq 2 (.box 28 T0),Iq 3 (.box 28 T1),Iq 4 (.alloc 28 [Zf,Zs])])
 (Zq (.draw [⟨Iq 9 (Lt 2 T2),[]⟩,⟨Iq 10 (.call 149 [T9]),[0]⟩,⟨Iq 11 (.fld false 1 1 T10),[1]⟩,⟨Iq 12 (.call 152 [T11]),[2,1]⟩,⟨Iq 13 (Lt 2 T3),[]⟩,⟨Iq 14 (.call 149 [T13]),[4,3]⟩,⟨Iq 15 (.fld false 1 1 T14),[5]⟩,⟨Iq 16 (.call 152 [T15]),[6,5]⟩,⟨Im 5 T12,[3,7,0,1,2,3]⟩,⟨Im 6 T16,[7,8,0,1,2,3,4,5,6,7,8]⟩] [0,1,3,7,0,31,63,127,255,511])
 (Zq (.block 0 (.loop (Zq (Zq (Rg [Im 17 T6,Iq 18 (.len false T17),Iq 19 (.bin .gtr T18 (Ki 0))])
 (.cond T19 .skip
 (.exit 0)))
 (.block 1 (Zq (Rg [Im 21 T5,Im 22 T6,Iq 23 (.call 175 [T21,T22]),Im 20 T23,Iq 24 (.ext T20 0),Iq 25 (.ext T20 1),Im 7 T24,Im 8 T25])
 (Zq (Rg [Im 26 T6,Im 5 T26])
 (Rg [Im 27 T8,Im 6 T27])))))))
 (Zq (Rg [Im 28 T5,Iq 29 (.call 150 [T28]),Iq 30 (.call 148 [Kf,T29]),Is (.store 2 T4 T30)])
 .ret))))
def ge147 : FE := ⟨31, y147, [.c 4 true 2]⟩
theorem oks147 : FOk Tryz.prog 147 ge147 := FOk.mk1 Tryz.func147
def y148:XC:=(Zq (Rg [Iq 4 (.alloc 28 [Zf,Zs])])
 (Zq (Rg [Im 6 T1,Iq 7 (.call 207 [T6]),Im 5 T7])
 (Zq (Rg [Im 8 T0,Im 9 T8,Iw 10 9 (.mv T5),Iw 11 9 (.len false T10),Iw 12 9 (.bin .gtr T11 (Ki 0)),Iq 13 (.pick T9 T12 Kf),Im 14 T5,Iq 15 (.build [Zf,Zs] [(0,1,T13),(1,1,T14)]),Is (.store 2 T4 T15)])
 .ret)))
def ge148 : FE := ⟨16, y148, [.c 4 true 2]⟩
theorem oks148 : FOk Tryz.prog 148 ge148 := FOk.mk1 Tryz.func148
def y149:XC:=(Zq (Rg [Iq 1 (.box 28 T0),Iq 2 (.alloc 28 [Zf,Zs])])
 (Zq (Zq (Rg [Iq 3 (Lt 2 T1),Iq 4 (.call 178 [T3]),Iq 5 (.un .not T4)])
 (.cond T5 (Zq (Rg [Iq 6 (.build [Zf,Zs] []),Is (.store 2 T2 T6)])
 .ret)
 .skip))
 (Zq (Rg [Iq 7 (Lt 2 T1),Is (.store 2 T2 T7)])
 .ret)))
def ge149 : FE := ⟨8, y149, [.c 2 true 2]⟩
theorem oks149 : FOk Tryz.prog 149 ge149 := FOk.mk1 Tryz.func149
def y150:XC:=(Zq (Rg [Iq 2 (.mv (.k Zs))])
 (Zq (Rg [Im 5 T0,Iq 6 (.len false T5),Iq 7 (.bin .add T6 (Ki 1)),Iq 8 (.bin .quo T7 (Ki 2)),Iq 9 (.mksl 221 1 4 [(.int .u32 0)] T8 T8),Im 3 T9])
 (Zq (Zq (Rg [Iq 4 (.mv (Ki 0))])
 (.block 0 (.loop (Zq (Zq (Rg [Im 10 T4,Im 11 T0,Iq 12 (.len false T11),Iq 13 (.bin .lss T10 T12)])
 (.cond T13 .skip
 (.exit 0)))
 (Zq (.block 1 (Zq (Rg [Im 16 T4,Iq 17 (.bin .rem T16 (Ki 2)),Iq 18 (.bin .eql T17 (Ki 0))])
 (.cond T18 (Rg [Im 19 T3,Im 20 T4,Iq 21 (.bin .quo T20 (Ki 2)),Im 22 T0,Im 23 T4,Iq 24 (.iad 1 T22 T23),Iq 25 (Lo T24),Iq 26 (.cvi .u32 T25),Iq 27 (.iad 1 T19 T21),Is (.store 1 T27 T26)])
 (.draw [⟨Im 28 T3,[]⟩,⟨Im 29 T4,[]⟩,⟨Iq 30 (.bin .quo T29 (Ki 2)),[1]⟩,⟨Im 31 T3,[]⟩,⟨Im 32 T4,[]⟩,⟨Iq 33 (.bin .quo T32 (Ki 2)),[4]⟩,⟨Iq 34 (.iad 1 T31 T33),[3,5]⟩,⟨Iq 35 (Lo T34),[6]⟩,⟨Im 36 T0,[]⟩,⟨Im 37 T4,[]⟩,⟨Iq 38 (.iad 1 T36 T37),[8,9]⟩,⟨Iq 39 (Lo T38),[10]⟩,⟨Iq 40 (.cvi .u32 T39),[11]⟩,⟨Iq 41 (.bin .mul (.k (.int .u32 65536)) T40),[12]⟩,⟨Iq 42 (.bin .add T35 T41),[7,13]⟩,⟨Iq 43 (.iad 1 T28 T30),[0,2,0,1,2,3,4,5,6,7,8,9,10,11,12,13,14]⟩,⟨Is (.store 1 T43 T42),[15,14,0,1,2,3,4,5,6,7,8,9,10,11,12,13,14]⟩] [0,0,2,0,0,16,56,120,0,0,768,1792,3840,7936,16376,32767,65535]))))
 (Rg [Im 14 T4,Iq 15 (.bin .add T14 (Ki 1)),Im 4 T15]))))))
 (Zq (Rg [Im 44 T3,Im 2 T44])
 .ret))))
def ge150 : FE := ⟨45, y150, [.t 2]⟩
theorem oks150 : FOk Tryz.prog 150 ge150 := FOk.mk1 Tryz.func150
def y151:XC:=(Zq (Rg [Iq 4 (.mv (.k Zs))])
 (Zq (Rg [Im 10 T0,Iq 11 (.len false T10),Im 12 T1,Iq 13 (.len false T12),Iq 14 (.bin .add T11 T13),Iq 15 (.bin .add T14 (Ki 1)),Iq 16 (.mksl 3 1 8 [Zi] T15 T15),Im 5 T16])
 (Zq (Zq (Rg [Iq 6 (.mv (Ki 0))])
 (.block 0 (.loop (Zq (Zq (Rg [Im 17 T6,Im 18 T0,Iq 19 (.len false T18),Iq 20 (.bin .lss T17 T19)])
 (.cond T20 .skip
 (.exit 0)))
 (Zq (.block 1 (Zq (Rg [Iq 7 (.mv (Ki 0))])
 (Zq (Rg [Iq 8 (.mv (Ki 0))])
 (.block 2 (.loop (Zq (Zq (Rg [Im 23 T8,Im 24 T1,Iq 25 (.len false T24),Iq 26 (.bin .lss T23 T25),Im 27 T26,Iv 28 27 (.mv T7),Iv 29 27 (.bin .gtr T28 (Ki 0)),Iq 30 (.pick T27 Kt T29)])
 (.cond T30 .skip
 (.exit 2)))
 (Zq (.block 3 (Zq (Rg [Im 33 T5,Im 34 T6,Im 35 T8,Iq 36 (.bin .add T34 T35),Iq 37 (.iad 1 T33 T36),Iq 38 (Lo T37),Im 39 T7,Iq 40 (.bin .add T38 T39),Im 9 T40])
 (Zq (Zq (Rg [Im 41 T8,Im 42 T1,Iq 43 (.len false T42),Iq 44 (.bin .lss T41 T43)])
 (.cond T44 (.draw [⟨Im 45 T9,[]⟩,⟨Im 46 T0,[]⟩,⟨Im 47 T6,[]⟩,⟨Iq 48 (.iad 1 T46 T47),[1,2]⟩,⟨Iq 49 (Lo T48),[3]⟩,⟨Im 50 T1,[]⟩,⟨Im 51 T8,[]⟩,⟨Iq 52 (.iad 1 T50 T51),[5,6]⟩,⟨Iq 53 (Lo T52),[7]⟩,⟨Iq 54 (.bin .mul T49 T53),[4,8]⟩,⟨Iq 55 (.bin .add T45 T54),[0,9]⟩,⟨Im 9 T55,[10,0,1,2,3,4,5,6,7,8,9,10]⟩] [0,0,0,6,14,0,0,96,224,510,1023,2047])
 .skip))
 (Zq (Rg [Im 56 T5,Im 57 T6,Im 58 T8,Iq 59 (.bin .add T57 T58),Im 60 T9,Iq 61 (.bin .rem T60 (Ki 65536)),Iq 62 (.iad 1 T56 T59),Is (.store 1 T62 T61)])
 (Rg [Im 63 T9,Iq 64 (.bin .quo T63 (Ki 65536)),Im 7 T64])))))
 (Rg [Im 31 T8,Iq 32 (.bin .add T31 (Ki 1)),Im 8 T32]))))))))
 (Rg [Im 21 T6,Iq 22 (.bin .add T21 (Ki 1)),Im 6 T22]))))))
 (Zq (Rg [Im 65 T5,Iq 66 (.call 208 [T65]),Im 4 T66])
 .ret))))
def ge151 : FE := ⟨67, y151, [.t 4]⟩
theorem oks151 : FOk Tryz.prog 151 ge151 := FOk.mk1 Tryz.func151
def y152:XC:=(Zq (Rg [Iq 2 (.mv (.k Zs))])
 (Zq (Rg [Iq 3 (.mv (.k Zs))])
 (Zq (Zq (Rg [Iq 4 (.mv (Ki 0))])
 (.block 0 (.loop (Zq (Zq (Rg [Im 5 T4,Im 6 T0,Iq 7 (.len false T6),Iq 8 (.bin .lss T5 T7)])
 (.cond T8 .skip
 (.exit 0)))
 (Zq (.block 1 (.draw [⟨Im 11 T3,[]⟩,⟨Im 12 T0,[]⟩,⟨Im 13 T4,[]⟩,⟨Iq 14 (.iad 1 T12 T13),[1,2]⟩,⟨Iq 15 (Lo T14),[3]⟩,⟨Iq 16 (.bin .rem T15 (.k (.int .u32 65536))),[4]⟩,⟨Iq 17 (.cvi .i64 T16),[5]⟩,⟨Im 18 T0,[]⟩,⟨Im 19 T4,[]⟩,⟨Iq 20 (.iad 1 T18 T19),[7,8]⟩,⟨Iq 21 (Lo T20),[9]⟩,⟨Iq 22 (.bin .quo T21 (.k (.int .u32 65536))),[10]⟩,⟨Iq 23 (.cvi .i64 T22),[11]⟩,⟨Iq 24 (.bslice 3 1 2 [Zi] [(0,T17),(1,T23)]),[6,12]⟩,⟨Iq 25 (.app 3 1 8 [Zi] T11 T24),[0,13]⟩,⟨Im 3 T25,[14,14,0,1,2,3,4,5,6,7,8,9,10,11,12,13,14]⟩] [0,0,0,6,14,30,62,0,0,384,896,1920,3968,8190,16383,32767]))
 (Rg [Im 9 T4,Iq 10 (.bin .add T9 (Ki 1)),Im 4 T10]))))))
 (Zq (Rg [Im 26 T3,Iq 27 (.call 208 [T26]),Im 2 T27])
 .ret))))
def ge152 : FE := ⟨28, y152, [.t 2]⟩
theorem oks152 : FOk Tryz.prog 152 ge152 := FOk.mk1 Tryz.func152
def y153:XC:=(Zq (Rg [Iq 2 (.box 24 T0),Iq 3 (.box 24 T1),Iq 4 (.alloc 24 [Zf,Zs])])
 (Zq (.draw [⟨Iq 5 (Lt 2 T2),[]⟩,⟨Iq 6 (.call 154 [T5]),[0]⟩,⟨Iq 7 (Lt 2 T3),[]⟩,⟨Iq 8 (.call 154 [T7]),[2,1]⟩,⟨Iq 9 (.call 209 [T6,T8]),[1,3,3]⟩,⟨Is (.store 2 T4 T9),[4,4,0,1,2,3,4]⟩] [0,1,0,7,15,31])
 .ret))
def ge153 : FE := ⟨10, y153, [.c 4 true 2]⟩
theorem oks153 : FOk Tryz.prog 153 ge153 := FOk.mk1 Tryz.func153
def y154:XC:=(Zq (Rg [Iq 1 (.box 24 T0),Iq 2 (.alloc 228 [Zf,Zs])])
 (Zq (Zq (Rg [Iq 3 (Lt 2 T1),Iq 4 (.call 166 [T3]),Iq 5 (.un .not T4)])
 (.cond T5 (Zq (Rg [Iq 6 (.build [Zf,Zs] []),Is (.store 2 T2 T6)])
 .ret)
 .skip))
 (Zq (Rg [Iq 7 (Lt 2 T1),Iq 8 (.build [Zf,Zs] [(0,2,T7)]),Is (.store 2 T2 T8)])
 .ret)))
def ge154 : FE := ⟨9, y154, [.c 2 true 2]⟩
theorem oks154 : FOk Tryz.prog 154 ge154 := FOk.mk1 Tryz.func154
def y155:XC:=(Zq (Rg [Iq 1 (.box 228 T0),Iq 2 (.alloc 228 [Zf,Zs])])
 (Zq (Rg [Iq 3 (.fad 0 T1),Iq 4 (.fad 0 T3),Iq 5 (Lo T4),Iq 6 (.un .not T5),Iq 7 (.fad 0 T1),Iq 8 (.fad 1 T7),Iq 9 (Lo T8),Iq 10 (.call 171 [T6,T9]),Iq 11 (.build [Zf,Zs] [(0,2,T10)]),Is (.store 2 T2 T11)])
 .ret))
def ge155 : FE := ⟨12, y155, [.c 2 true 2]⟩
theorem oks155 : FOk Tryz.prog 155 ge155 := FOk.mk1 Tryz.func155
def y156:XC:=cloneX 221 1 4 [(.int .u32 0)]
def ge156 : FE := ⟨8, y156, [.t 2]⟩
theorem oks156 : FOk Tryz.prog 156 ge156 := FOk.mk1 Tryz.func156
def y157:XC:=(Zq (Rg [Iq 14 (.mv (.k Zs))])
 (Zq (Rg [Im 15 T0,Im 16 T1,Im 17 T2,Im 18 T3,Im 19 T4,Im 20 T6,Iq 21 (.call 84 [T20]),Iq 22 (.build [Zf,Ze,(.int .u8 0),Ze,Ze,Ze,Zf,Zs,Zf,Zs] [(0,1,Kt),(1,1,T15),(2,1,T16),(3,1,T17),(4,1,T18),(5,1,T19),(6,4,T21)]),Im 23 T0,Im 24 T1,Im 25 T2,Im 26 T3,Im 27 T5,Im 28 T6,Iq 29 (.call 84 [T28]),Iq 30 (.build [Zf,Ze,(.int .u8 0),Ze,Ze,Ze,Zf,Zs,Zf,Zs] [(1,1,T23),(2,1,T24),(3,1,T25),(4,1,T26),(5,1,T27),(6,4,T29)]),Iq 31 (.bslice 176 10 2 [Zf,Ze,(.int .u8 0),Ze,Ze,Ze,Zf,Zs,Zf,Zs] [(0,T22),(1,T30)]),Im 14 T31])
 .ret))
def ge157 : FE := ⟨32, y157, [.t 14]⟩
theorem oks157 : FOk Tryz.prog 157 ge157 := FOk.mk1 Tryz.func157
def y159:XC:=(Zq (Rg [Iq 4 (.mv Kf)])
 (Zq (Rg [Im 5 T0,Im 6 T1,Iq 7 (.nilck T5),Iq 8 (.iaa 256 1 T7 T6),Iq 9 (Lo T8),Im 4 T9])
 .ret))
def ge159 : FE := ⟨10, y159, [.t 4]⟩
theorem oks159 : FOk Tryz.prog 159 ge159 := FOk.mk1 Tryz.func159
def y162:XC:=(Zq (Rg [Iq 6 (.mv (Ki 0))])
 (Zq (Zq (Rg [Im 9 T0,Iq 10 (.rngS T9)])
 (.block 0 (.loop (Zq (Rg [Iq 11 (.nxtS T10),Iq 12 (.ext T11 0)])
 (Zq (.cond T12 .skip
 (.exit 0))
 (.block 1 (Zq (Rg [Iq 13 (.ext T11 1),Iq 14 (.ext T11 2),Im 7 T13,Im 8 T14])
 (Zq (Rg [Im 15 T1,Im 16 T8,Iq 17 (.callv T15 [T16]),Im 18 T2,Iq 19 (.binB .eql T17 T18)])
 (.cond T19 (Zq (Rg [Im 20 T7,Im 6 T20])
 .ret)
 .skip)))))))))
 (Zq (Rg [Iq 6 (.mv (.k (.int .i64 (-1))))])
 .ret)))
def ge162 : FE := ⟨21, y162, [.t 6]⟩
theorem oks162 : FOk Tryz.prog 162 ge162 := FOk.mk1 Tryz.func162
def y166:XC:=(Zq (Rg [Iq 1 (.box 24 T0),Iq 2 (.mv Kf)])
 (Zq (Rg [Iq 4 (.fad 1 T1),Iq 5 (Lo T4),Iq 6 (.len false T5),Im 3 T6])
 (Zq (Rg [Im 7 T3,Iq 8 (.bin .eql T7 (Ki 0)),Im 9 T8,Iw 10 9 (.fad 0 T1),Iw 11 9 (Lo T10),Iw 12 9 (.un .not T11),Iq 13 (.pick T9 T12 Kf),Im 14 T13,Iv 15 14 (.mv T3),Iv 16 14 (.bin .gtr T15 (Ki 0)),Iv 17 14 (.mv T16),Iw 18 17 (.fad 1 T1),Iw 19 17 (Lo T18),Iw 20 17 (.mv T3),Iw 21 17 (.bin .sub T20 (Ki 1)),Iw 22 17 (.iad 1 T19 T21),Iw 23 17 (Lo T22),Iw 24 17 (.bin .neq T23 (.k (.int .u32 0))),Iv 25 14 (.pick T17 T24 Kf),Iq 26 (.pick T14 Kt T25),Im 2 T26])
 .ret)))
def ge166 : FE := ⟨27, y166, [.t 2]⟩
theorem oks166 : FOk Tryz.prog 166 ge166 := FOk.mk1 Tryz.func166
def y167:XC:=(Zq (Rg [Iq 2 (.box 24 T0),Iq 3 (.box 24 T1),Iq 4 (.alloc 24 [Zf,Zs])])
 (Zq (.draw [⟨Iq 5 (Lt 2 T2),[]⟩,⟨Iq 6 (.call 154 [T5]),[0]⟩,⟨Iq 7 (.fld true 2 0 T6),[1]⟩,⟨Iq 8 (.fld false 1 1 T7),[2]⟩,⟨Iq 9 (Lt 2 T3),[]⟩,⟨Iq 10 (.call 154 [T9]),[4,1]⟩,⟨Iq 11 (.fld true 2 0 T10),[5]⟩,⟨Iq 12 (.fld false 1 1 T11),[6]⟩,⟨Iq 13 (.bslice 22 1 2 [Zs] [(0,T8),(1,T12)]),[3,7]⟩,⟨Iq 14 (.call 212 [T13]),[8,5]⟩,⟨Iq 15 (.call 171 [Kf,T14]),[9,9]⟩,⟨Is (.store 2 T4 T15),[10,10,0,1,2,3,4,5,6,7,8,9,10]⟩] [0,1,3,7,0,19,51,115,255,511,1023,2047])
 .ret))
def ge167 : FE := ⟨16, y167, [.c 4 true 2]⟩
theorem oks167 : FOk Tryz.prog 167 ge167 := FOk.mk1 Tryz.func167
def y168:XC:=(Zq (Rg [Iq 4 (.mv (.k Zs)),Iq 5 (.mv (.k Zs)),Iq 6 (.mv (Ki 0))])
 (Zq (Rg [Im 14 T0,Iq 15 (.call 172 [T14]),Im 16 T1,Iq 17 (.call 172 [T16]),Im 0 T15,Im 1 T17])
 (Zq (Rg [Im 18 T1,Iq 19 (.len false T18),Im 7 T19])
 (Zq (.block 0 (Zq (Rg [Im 21 T7,Iq 22 (.bin .eql T21 (Ki 0)),Im 20 T22])
 (.cond T20 (Zq (Rg [Iq 4 (.mv (.k Zs)),Iq 5 (.mv (.k Zs)),Iq 6 (.mv (Ki 20))])
 .ret)
 (Zq (Rg [Im 24 T0,Im 25 T1,Iq 26 (.call 213 [T24,T25]),Iq 27 (.bin .lss T26 (Ki 0)),Im 23 T27])
 (.cond T23 (Zq (Rg [Im 28 T0,Iq 4 (.mv (.k Zs)),Im 5 T28,Iq 6 (.mv (Ki 0))])
 .ret)
 (Zq (Rg [Im 30 T7,Iq 31 (.bin .eql T30 (Ki 1)),Im 29 T31])
 (.cond T29 (Zq (Rg [Im 33 T0,Im 34 T1,Iq 35 (.iad 1 T34 (Ki 0)),Iq 36 (Lo T35),Iq 37 (.call 214 [T33,T36]),Im 32 T37,Iq 38 (.ext T32 0),Iq 39 (.ext T32 1),Iq 40 (.ext T32 2),Im 8 T38,Im 9 T39,Im 10 T40])
 (Zq (Rg [Im 41 T8,Im 42 T9,Iq 43 (.bslice 221 1 1 [(.int .u32 0)] [(0,T42)]),Iq 44 (.call 172 [T43]),Im 4 T41,Im 5 T44,Iq 6 (.mv (Ki 0))])
 .ret))
 .skip)))))))
 (Zq (Rg [Im 45 T1,Im 46 T7,Iq 47 (.bin .sub T46 (Ki 1)),Iq 48 (.iad 1 T45 T47),Iq 49 (Lo T48),Iq 50 (.call 215 [T49]),Im 11 T50])
 (Zq (Rg [Im 52 T1,Im 53 T11,Iq 54 (.call 216 [T52,T53]),Im 51 T54,Iq 55 (.ext T51 0),Iq 56 (.ext T51 1),Im 1 T55])
 (Zq (Rg [Im 58 T0,Im 59 T11,Iq 60 (.call 216 [T58,T59]),Im 57 T60,Iq 61 (.ext T57 0),Iq 62 (.ext T57 1),Im 0 T61])
 (Zq (Rg [Im 63 T0,Iq 64 (.bslice 221 1 1 [(.int .u32 0)] [(0,(.k (.int .u32 0)))]),Iq 65 (.app 221 1 4 [(.int .u32 0)] T63 T64),Im 0 T65])
 (Zq (Rg [Im 66 T0,Iq 67 (.len false T66),Im 68 T7,Iq 69 (.bin .sub T67 T68),Iq 70 (.mksl 221 1 4 [(.int .u32 0)] T69 T69),Im 4 T70])
 (Zq (Zq (Rg [Im 71 T4,Iq 72 (.len false T71),Iq 73 (.bin .sub T72 (Ki 1)),Im 12 T73])
 (.block 1 (.loop (Zq (Zq (Rg [Im 74 T12,Iq 75 (.bin .geq T74 (Ki 0))])
 (.cond T75 .skip
 (.exit 1)))
 (Zq (.block 2 (Zq (.draw [⟨Im 78 T0,[]⟩,⟨Im 79 T12,[]⟩,⟨Im 80 T7,[]⟩,⟨Iq 81 (.bin .add T79 T80),[1,2]⟩,⟨Iq 82 (.iad 1 T78 T81),[0,3]⟩,⟨Iq 83 (Lo T82),[4]⟩,⟨Im 84 T0,[]⟩,⟨Im 85 T12,[]⟩,⟨Im 86 T7,[]⟩,⟨Iq 87 (.bin .add T85 T86),[7,8]⟩,⟨Iq 88 (.bin .sub T87 (Ki 1)),[9]⟩,⟨Iq 89 (.iad 1 T84 T88),[6,10]⟩,⟨Iq 90 (Lo T89),[11]⟩,⟨Im 91 T0,[]⟩,⟨Im 92 T12,[]⟩,⟨Im 93 T7,[]⟩,⟨Iq 94 (.bin .add T92 T93),[14,15]⟩,⟨Iq 95 (.bin .sub T94 (Ki 2)),[16]⟩,⟨Iq 96 (.iad 1 T91 T95),[13,17]⟩,⟨Iq 97 (Lo T96),[18]⟩,⟨Im 98 T1,[]⟩,⟨Im 99 T7,[]⟩,⟨Iq 100 (.bin .sub T99 (Ki 1)),[21]⟩,⟨Iq 101 (.iad 1 T98 T100),[20,22]⟩,⟨Iq 102 (Lo T101),[23]⟩,⟨Im 103 T1,[]⟩,⟨Im 104 T7,[]⟩,⟨Iq 105 (.bin .sub T104 (Ki 2)),[26]⟩,⟨Iq 106 (.iad 1 T103 T105),[25,27]⟩,⟨Iq 107 (Lo T106),[28]⟩,⟨Iq 108 (.call 217 [T83,T90,T97,T102,T107]),[5,12,19,24,29]⟩,⟨Im 13 T108,[30,30,0,1,2,3,4,5,6,7,8,9,10,11,12,13,14,15,16,17,18,19,20,21,22,23,24,25,26,27,28,29,30]⟩] [0,0,0,6,15,31,0,0,0,384,896,1984,4032,0,0,0,49152,114688,253952,516096,0,0,2097152,7340032,15728640,0,0,67108864,234881024,503316480,1073741823,2147483647])
 (Rg [Im 109 T4,Im 110 T12,Im 111 T0,Im 112 T12,Im 113 T12,Im 114 T7,Iq 115 (.bin .add T113 T114),Iq 116 (.bin .add T115 (Ki 1)),Iq 117 (.slc 1 T111 (some T112) (some T116)),Im 118 T1,Im 119 T13,Iq 120 (.call 218 [T117,T118,T119]),Iq 121 (.iad 1 T109 T110),Is (.store 1 T121 T120)])))
 (Rg [Im 76 T12,Iq 77 (.bin .sub T76 (Ki 1)),Im 12 T77]))))))
 (Zq (Rg [Im 123 T0,Im 124 T11,Iq 125 (.un .neg T124),Iq 126 (.call 216 [T123,T125]),Im 122 T126,Iq 127 (.ext T122 0),Iq 128 (.ext T122 1),Im 5 T127])
 (Zq (Rg [Im 129 T4,Iq 130 (.call 172 [T129]),Im 131 T5,Im 4 T130,Im 5 T131,Iq 6 (.mv (Ki 0))])
 .ret))))))))))))
def ge168 : FE := ⟨132, y168, [.t 4, .t 5, .t 6]⟩
theorem oks168 : FOk Tryz.prog 168 ge168 := FOk.mk1 Tryz.func168
def y169:XC:=(Zq (Rg [Iq 4 (.mv (.k Zs))])
 (Zq (Zq (Rg [Im 9 T0,Iq 10 (.len false T9),Im 11 T1,Iq 12 (.len false T11),Iq 13 (.bin .lss T10 T12)])
 (.cond T13 (Rg [Im 14 T1,Im 15 T0,Im 0 T14,Im 1 T15])
 .skip))
 (Zq (Rg [Im 16 T0,Iq 17 (.len false T16),Iq 18 (.bin .add T17 (Ki 1)),Iq 19 (.mksl 221 1 4 [(.int .u32 0)] T18 T18),Im 5 T19])
 (Zq (Rg [Iq 6 (.mv (.k (.int .u32 0)))])
 (Zq (Zq (Rg [Im 20 T0,Iq 21 (.len false T20),Iq 22 (.mv (Ki 0))])
 (.block 0 (.loop (Zq (Rg [Iq 23 (.bin .lss T22 T21)])
 (Zq (.cond T23 .skip
 (.exit 0))
 (Zq (.block 1 (Zq (Rg [Im 24 T22,Im 7 T24])
 (Zq (Rg [Iq 8 (.mv (.k (.int .u32 0)))])
 (Zq (Zq (Rg [Im 25 T7,Im 26 T1,Iq 27 (.len false T26),Iq 28 (.bin .lss T25 T27)])
 (.cond T28 (Rg [Im 29 T1,Im 30 T7,Iq 31 (.iad 1 T29 T30),Iq 32 (Lo T31),Im 8 T32])
 .skip))
 (Rg [Im 34 T5,Im 35 T7,Im 36 T0,Im 37 T7,Iq 38 (.iad 1 T36 T37),Iq 39 (Lo T38),Im 40 T8,Im 41 T6,Iq 42 (.call 219 [T39,T40,T41]),Im 33 T42,Iq 43 (.ext T33 0),Iq 44 (.ext T33 1),Iq 45 (.iad 1 T34 T35),Is (.store 1 T45 T43),Im 6 T44])))))
 (Rg [Iq 46 (.bin .add T22 (Ki 1)),Im 22 T46])))))))
 (Zq (Rg [Im 47 T5,Im 48 T0,Iq 49 (.len false T48),Im 50 T6,Iq 51 (.iad 1 T47 T49),Is (.store 1 T51 T50)])
 (Zq (Rg [Im 52 T5,Iq 53 (.call 220 [T52]),Im 4 T53])
 .ret)))))))
def ge169 : FE := ⟨54, y169, [.t 4]⟩
theorem oks169 : FOk Tryz.prog 169 ge169 := FOk.mk1 Tryz.func169
def y170:XC:=(Zq (Rg [Iq 4 (.mv (.k Zs)),Iq 5 (.mv (Ki 0))])
 (Zq (Rg [Im 10 T0,Iq 11 (.call 220 [T10]),Im 12 T1,Iq 13 (.call 220 [T12]),Im 0 T11,Im 1 T13])
 (Zq (Zq (Rg [Im 14 T0,Im 15 T1,Iq 16 (.call 213 [T14,T15]),Iq 17 (.bin .lss T16 (Ki 0))])
 (.cond T17 (Zq (Rg [Iq 4 (.mv (.k Zs)),Iq 5 (.mv (Ki 2))])
 .ret)
 .skip))
 (Zq (Rg [Im 18 T0,Iq 19 (.call 156 [T18]),Im 6 T19])
 (Zq (Rg [Iq 7 (.mv (.k (.int .u32 0)))])
 (Zq (Zq (Rg [Im 20 T6,Iq 21 (.len false T20),Iq 22 (.mv (Ki 0))])
 (.block 0 (.loop (Zq (Rg [Iq 23 (.bin .lss T22 T21)])
 (Zq (.cond T23 .skip
 (.exit 0))
 (Zq (.block 1 (Zq (Rg [Im 24 T22,Im 8 T24])
 (Zq (Rg [Iq 9 (.mv (.k (.int .u32 0)))])
 (Zq (Zq (Rg [Im 25 T8,Im 26 T1,Iq 27 (.len false T26),Iq 28 (.bin .lss T25 T27)])
 (.cond T28 (Rg [Im 29 T1,Im 30 T8,Iq 31 (.iad 1 T29 T30),Iq 32 (Lo T31),Im 9 T32])
 .skip))
 (Rg [Im 34 T6,Im 35 T8,Im 36 T6,Im 37 T8,Iq 38 (.iad 1 T36 T37),Iq 39 (Lo T38),Im 40 T9,Im 41 T7,Iq 42 (.call 221 [T39,T40,T41]),Im 33 T42,Iq 43 (.ext T33 0),Iq 44 (.ext T33 1),Iq 45 (.iad 1 T34 T35),Is (.store 1 T45 T43),Im 7 T44])))))
 (Rg [Iq 46 (.bin .add T22 (Ki 1)),Im 22 T46])))))))
 (Zq (Rg [Im 47 T6,Iq 48 (.call 220 [T47]),Im 4 T48,Iq 5 (.mv (Ki 0))])
 .ret)))))))
def ge170 : FE := ⟨49, y170, [.t 4, .t 5]⟩
theorem oks170 : FOk Tryz.prog 170 ge170 := FOk.mk1 Tryz.func170
def y171:XC:=(Zq (Rg [Iq 4 (.alloc 24 [Zf,Zs])])
 (Zq (Rg [Im 5 T0,Im 6 T5,Iw 7 6 (.mv T1),Iw 8 6 (.len false T7),Iw 9 6 (.bin .gtr T8 (Ki 0)),Iq 10 (.pick T6 T9 Kf),Im 11 T1,Iq 12 (.build [Zf,Zs] [(0,1,T10),(1,1,T11)]),Is (.store 2 T4 T12)])
 .ret))
def ge171 : FE := ⟨13, y171, [.c 4 true 2]⟩
theorem oks171 : FOk Tryz.prog 171 ge171 := FOk.mk1 Tryz.func171
def y172:XC:=(Zq (Rg [Iq 2 (.mv (.k Zs))])
 (Zq (Rg [Im 3 T0,Iq 4 (.call 220 [T3]),Iq 5 (.call 156 [T4]),Im 2 T5])
 .ret))
def ge172 : FE := ⟨6, y172, [.t 2]⟩
theorem oks172 : FOk Tryz.prog 172 ge172 := FOk.mk1 Tryz.func172
def y173:XC:=(Zq (Rg [Iq 4 (.mv (.k Zs))])
 (Zq (Rg [Im 12 T0,Iq 13 (.len false T12),Im 14 T1,Iq 15 (.len false T14),Iq 16 (.bin .add T13 T15),Iq 17 (.mksl 221 1 4 [(.int .u32 0)] T16 T16),Im 5 T17])
 (Zq (Zq (Rg [Im 18 T0,Iq 19 (.len false T18),Iq 20 (.mv (Ki 0))])
 (.block 0 (.loop (Zq (Rg [Iq 21 (.bin .lss T20 T19)])
 (Zq (.cond T21 .skip
 (.exit 0))
 (Zq (.block 1 (Zq (Rg [Im 22 T20,Iq 23 (.iad 1 T18 T20),Iq 24 (Lo T23),Im 6 T22,Im 7 T24])
 (Zq (Rg [Iq 8 (.mv (.k (.int .u64 0)))])
 (Zq (Zq (Rg [Im 25 T1,Iq 26 (.len false T25),Iq 27 (.mv (Ki 0))])
 (.block 2 (.loop (Zq (Rg [Iq 28 (.bin .lss T27 T26)])
 (Zq (.cond T28 .skip
 (.exit 2))
 (Zq (.block 3 (Zq (Rg [Im 29 T27,Iq 30 (.iad 1 T25 T27),Iq 31 (Lo T30),Im 9 T29,Im 10 T31])
 (Zq (Rg [Im 32 T7,Iq 33 (.cvi .u64 T32),Im 34 T10,Iq 35 (.cvi .u64 T34),Iq 36 (.bin .mul T33 T35),Im 37 T5,Im 38 T6,Im 39 T9,Iq 40 (.bin .add T38 T39),Iq 41 (.iad 1 T37 T40),Iq 42 (Lo T41),Iq 43 (.cvi .u64 T42),Iq 44 (.bin .add T36 T43),Im 45 T8,Iq 46 (.bin .add T44 T45),Im 11 T46])
 (Rg [Im 47 T5,Im 48 T6,Im 49 T9,Iq 50 (.bin .add T48 T49),Im 51 T11,Iq 52 (.cvi .u32 T51),Im 53 T11,Iq 54 (.bin .shr T53 (.k (.int .u64 32))),Iq 55 (.iad 1 T47 T50),Is (.store 1 T55 T52),Im 8 T54]))))
 (Rg [Iq 56 (.bin .add T27 (Ki 1)),Im 27 T56])))))))
 (Rg [Im 57 T5,Im 58 T6,Im 59 T1,Iq 60 (.len false T59),Iq 61 (.bin .add T58 T60),Im 62 T8,Iq 63 (.cvi .u32 T62),Iq 64 (.iad 1 T57 T61),Is (.store 1 T64 T63)])))))
 (Rg [Iq 65 (.bin .add T20 (Ki 1)),Im 20 T65])))))))
 (Zq (Rg [Im 66 T5,Iq 67 (.call 172 [T66]),Im 4 T67])
 .ret))))
def ge173 : FE := ⟨68, y173, [.t 4]⟩
theorem oks173 : FOk Tryz.prog 173 ge173 := FOk.mk1 Tryz.func173
def y174:XC:=(Zq (Rg [Iq 2 (.box 24 T0),Iq 3 (.box 24 T1),Iq 4 (.alloc 24 [Zf,Zs])])
 (Zq (.draw [⟨Iq 5 (Lt 2 T2),[]⟩,⟨Iq 6 (.call 154 [T5]),[0]⟩,⟨Iq 7 (Lt 2 T3),[]⟩,⟨Iq 8 (.call 154 [T7]),[2,1]⟩,⟨Iq 9 (.call 155 [T8]),[3,3]⟩,⟨Iq 10 (.call 209 [T6,T9]),[1,4,4]⟩,⟨Is (.store 2 T4 T10),[5,5,0,1,2,3,4,5]⟩] [0,1,0,7,15,31,63])
 .ret))
def ge174 : FE := ⟨11, y174, [.c 4 true 2]⟩
theorem oks174 : FOk Tryz.prog 174 ge174 := FOk.mk1 Tryz.func174
def y175:XC:=(Zq (Rg [Iq 4 (.mv (.k Zs)),Iq 5 (.mv (.k Zs))])
 (Zq (Rg [Im 10 T0,Iq 11 (.len false T10),Iq 12 (.mksl 3 1 8 [Zi] T11 T11),Im 6 T12])
 (Zq (Rg [Iq 7 (.mv (.k Zs))])
 (Zq (Zq (Rg [Im 13 T0,Iq 14 (.len false T13),Iq 15 (.bin .sub T14 (Ki 1)),Im 8 T15])
 (.block 0 (.loop (Zq (Zq (Rg [Im 16 T8,Iq 17 (.bin .geq T16 (Ki 0))])
 (.cond T17 .skip
 (.exit 0)))
 (Zq (.block 1 (Zq (Rg [Im 20 T0,Im 21 T8,Iq 22 (.iad 1 T20 T21),Iq 23 (Lo T22),Iq 24 (.bslice 3 1 1 [Zi] [(0,T23)]),Im 9 T24])
 (Zq (Rg [Im 25 T9,Im 26 T7,Iq 27 (.app 3 1 8 [Zi] T25 T26),Iq 28 (.call 208 [T27]),Im 7 T28])
 (Zq (Rg [Im 29 T6,Im 30 T8,Im 31 T7,Im 32 T1,Iq 33 (.call 222 [T31,T32]),Iq 34 (.iad 1 T29 T30),Is (.store 1 T34 T33)])
 (Rg [Im 35 T7,Im 36 T1,Im 37 T6,Im 38 T8,Iq 39 (.iad 1 T37 T38),Iq 40 (Lo T39),Iq 41 (.call 223 [T35,T36,T40]),Im 7 T41])))))
 (Rg [Im 18 T8,Iq 19 (.bin .sub T18 (Ki 1)),Im 8 T19]))))))
 (Zq (Rg [Im 42 T6,Iq 43 (.call 208 [T42]),Im 44 T7,Im 4 T43,Im 5 T44])
 .ret)))))
def ge175 : FE := ⟨45, y175, [.t 4, .t 5]⟩
theorem oks175 : FOk Tryz.prog 175 ge175 := FOk.mk1 Tryz.func175
def y176:XC:=(Zq (Rg [Iq 2 (.box 28 T0),Iq 3 (.box 28 T1),Iq 4 (.alloc 28 [Zf,Zs])])
 (Zq (.draw [⟨Iq 5 (Lt 2 T2),[]⟩,⟨Iq 6 (Lt 2 T3),[]⟩,⟨Iq 7 (.call 115 [T6]),[1]⟩,⟨Iq 8 (.call 177 [T5,T7]),[0,2,2]⟩,⟨Is (.store 2 T4 T8),[3,3,0,1,2,3]⟩] [0,0,2,7,15])
 .ret))
def ge176 : FE := ⟨9, y176, [.c 4 true 2]⟩
theorem oks176 : FOk Tryz.prog 176 ge176 := FOk.mk1 Tryz.func176
def y177:XC:=(Zq (Rg [Iq 2 (.box 28 T0),Iq 3 (.box 28 T1),Iq 4 (.alloc 28 [Zf,Zs])])
 (Zq (Rg [Iq 7 (Lt 2 T2),Iq 8 (.call 149 [T7]),Is (.store 2 T2 T8)])
 (Zq (Rg [Iq 9 (Lt 2 T3),Iq 10 (.call 149 [T9]),Is (.store 2 T3 T10)])
 (Zq (Zq (Rg [Iq 11 (.fad 0 T2),Iq 12 (Lo T11),Iq 13 (.fad 0 T3),Iq 14 (Lo T13),Iq 15 (.binB .eql T12 T14)])
 (.cond T15 (Zq (.draw [⟨Iq 16 (.fad 0 T2),[]⟩,⟨Iq 17 (Lo T16),[0]⟩,⟨Iq 18 (.fad 1 T2),[]⟩,⟨Iq 19 (Lo T18),[2]⟩,⟨Iq 20 (.fad 1 T3),[]⟩,⟨Iq 21 (Lo T20),[4]⟩,⟨Iq 22 (.call 224 [T19,T21]),[3,5]⟩,⟨Iq 23 (.call 148 [T17,T22]),[1,6,6]⟩,⟨Is (.store 2 T4 T23),[7,7,0,1,2,3,4,5,6,7]⟩] [0,1,0,4,0,16,60,127,255])
 .ret)
 .skip))
 (Zq (Rg [Iq 25 (.fad 1 T2),Iq 26 (Lo T25),Iq 27 (.fad 1 T3),Iq 28 (Lo T27),Iq 29 (.call 225 [T26,T28]),Im 24 T29,Iq 30 (.ext T24 0),Iq 31 (.ext T24 1),Im 5 T30,Im 6 T31])
 (Zq (Zq (Rg [Im 32 T6,Iq 33 (.bin .eql T32 (Ki 0))])
 (.cond T33 (Zq (Rg [Iq 34 (.fad 0 T2),Iq 35 (Lo T34),Im 36 T5,Iq 37 (.call 148 [T35,T36]),Is (.store 2 T4 T37)])
 .ret)
 .skip))
 (Zq (Rg [Iq 39 (.fad 1 T3),Iq 40 (Lo T39),Iq 41 (.fad 1 T2),Iq 42 (Lo T41),Iq 43 (.call 225 [T40,T42]),Im 38 T43,Iq 44 (.ext T38 0),Iq 45 (.ext T38 1),Im 5 T44])
 (Zq (Rg [Iq 46 (.fad 0 T3),Iq 47 (Lo T46),Im 48 T5,Iq 49 (.call 148 [T47,T48]),Is (.store 2 T4 T49)])
 .ret))))))))
def ge177 : FE := ⟨50, y177, [.c 4 true 2]⟩
theorem oks177 : FOk Tryz.prog 177 ge177 := FOk.mk1 Tryz.func177
def y178:XC:=(Zq (Rg [Iq 1 (.box 28 T0),Iq 2 (.mv Kf)])
 (Zq (Zq (Rg [Iq 3 (.fad 1 T1),Iq 4 (Lo T3),Iq 5 (.len false T4),Iq 6 (.bin .eql T5 (Ki 0))])
 (.cond T6 (Zq (Rg [Iq 7 (.fad 0 T1),Iq 8 (Lo T7),Iq 9 (.un .not T8),Im 2 T9])
 .ret)
 .skip))
 (Zq (Rg [Iq 10 (.fad 1 T1),Iq 11 (Lo T10),Iq 12 (.fad 1 T1),Iq 13 (Lo T12),Iq 14 (.len false T13),Iq 15 (.bin .sub T14 (Ki 1)),Iq 16 (.iad 1 T11 T15),Iq 17 (Lo T16),Iq 18 (.bin .neq T17 (.k (.int .u32 0))),Im 2 T18])
 .ret)))
def ge178 : FE := ⟨19, y178, [.t 2]⟩
theorem oks178 : FOk Tryz.prog 178 ge178 := FOk.mk1 Tryz.func178
def y180:XC:=(Zq (Rg [Iq 2 (.box 28 T0),Iq 3 (.box 28 T1),Iq 4 (.mv (Ki 0))])
 (Zq (Rg [Iq 5 (Lt 2 T2),Iq 6 (.call 149 [T5]),Is (.store 2 T2 T6)])
 (Zq (Rg [Iq 7 (Lt 2 T3),Iq 8 (.call 149 [T7]),Is (.store 2 T3 T8)])
 (Zq (.block 0 (Zq (Rg [Iq 10 (.fad 0 T2),Iq 11 (Lo T10),Im 12 T11,Iw 13 12 (.fad 0 T3),Iw 14 12 (Lo T13),Iw 15 12 (.un .not T14),Iq 16 (.pick T12 T15 Kf),Im 9 T16])
 (.cond T9 (Zq (Rg [Iq 4 (.mv (.k (.int .i64 (-1))))])
 .ret)
 (Zq (Rg [Iq 18 (.fad 0 T3),Iq 19 (Lo T18),Im 20 T19,Iw 21 20 (.fad 0 T2),Iw 22 20 (Lo T21),Iw 23 20 (.un .not T22),Iq 24 (.pick T20 T23 Kf),Im 17 T24])
 (.cond T17 (Zq (Rg [Iq 4 (.mv (Ki 1))])
 .ret)
 (Zq (Rg [Iq 26 (.fad 0 T2),Iq 27 (Lo T26),Im 25 T27])
 (.cond T25 (Zq (Rg [Iq 28 (.fad 1 T3),Iq 29 (Lo T28),Iq 30 (.fad 1 T2),Iq 31 (Lo T30),Iq 32 (.call 226 [T29,T31]),Im 4 T32])
 .ret)
 .skip)))))))
 (Zq (Rg [Iq 33 (.fad 1 T2),Iq 34 (Lo T33),Iq 35 (.fad 1 T3),Iq 36 (Lo T35),Iq 37 (.call 226 [T34,T36]),Im 4 T37])
 .ret)))))
def ge180 : FE := ⟨38, y180, [.t 4]⟩
theorem oks180 : FOk Tryz.prog 180 ge180 := FOk.mk1 Tryz.func180
def y207:XC:=(Zq (Rg [Iq 2 (.mv (.k Zs))])
 (Zq (Rg [Im 3 T0,Iq 4 (.call 233 [T3]),Iq 5 (.call 232 [T4]),Im 2 T5])
 .ret))
def ge207 : FE := ⟨6, y207, [.t 2]⟩
theorem oks207 : FOk Tryz.prog 207 ge207 := FOk.mk1 Tryz.func207
def y208:XC:=(Zq (Rg [Iq 2 (.mv (.k Zs))])
 (Zq (.block 0 (.loop (Zq (Zq (Rg [Im 3 T0,Iq 4 (.len false T3),Iq 5 (.bin .gtr T4 (Ki 0)),Im 6 T5,Iw 7 6 (.mv T0),Iw 8 6 (.mv T0),Iw 9 6 (.len false T8),Iw 10 6 (.bin .sub T9 (Ki 1)),Iw 11 6 (.iad 1 T7 T10),Iw 12 6 (Lo T11),Iw 13 6 (.bin .eql T12 (Ki 0)),Iq 14 (.pick T6 T13 Kf)])
 (.cond T14 .skip
 (.exit 0)))
 (.block 1 (Rg [Im 15 T0,Im 16 T0,Iq 17 (.len false T16),Iq 18 (.bin .sub T17 (Ki 1)),Iq 19 (.slc 1 T15 none (some T18)),Im 0 T19])))))
 (Zq (Rg [Im 20 T0,Im 2 T20])
 .ret)))
def ge208 : FE := ⟨21, y208, [.t 2]⟩
theorem oks208 : FOk Tryz.prog 208 ge208 := FOk.mk1 Tryz.func208
def y209:XC:=(Zq (Rg [Iq 2 (.box 228 T0),Iq 3 (.box 228 T1),Iq 4 (.alloc 24 [Zf,Zs])])
 (Zq (Zq (Rg [Iq 7 (.fad 0 T2),Iq 8 (.fad 0 T7),Iq 9 (Lo T8),Iq 10 (.fad 0 T3),Iq 11 (.fad 0 T10),Iq 12 (Lo T11),Iq 13 (.binB .eql T9 T12)])
 (.cond T13 (Zq (.draw [⟨Iq 14 (.fad 0 T2),[]⟩,⟨Iq 15 (.fad 0 T14),[0]⟩,⟨Iq 16 (Lo T15),[1]⟩,⟨Iq 17 (.fad 0 T2),[]⟩,⟨Iq 18 (.fad 1 T17),[3]⟩,⟨Iq 19 (Lo T18),[4]⟩,⟨Iq 20 (.fad 0 T3),[]⟩,⟨Iq 21 (.fad 1 T20),[6]⟩,⟨Iq 22 (Lo T21),[7]⟩,⟨Iq 23 (.call 169 [T19,T22]),[5,8]⟩,⟨Iq 24 (.call 171 [T16,T23]),[2,9,9]⟩,⟨Is (.store 2 T4 T24),[10,10,0,1,2,3,4,5,6,7,8,9,10]⟩] [0,1,3,0,8,24,0,64,192,504,1023,2047])
 .ret)
 .skip))
 (Zq (Zq (Rg [Iq 25 (.fad 0 T2),Iq 26 (.fad 1 T25),Iq 27 (Lo T26),Iq 28 (.fad 0 T3),Iq 29 (.fad 1 T28),Iq 30 (Lo T29),Iq 31 (.call 213 [T27,T30]),Iq 32 (.bin .lss T31 (Ki 0))])
 (.cond T32 (Rg [Iq 33 (Lt 2 T3),Iq 34 (Lt 2 T2),Is (.store 2 T2 T33),Is (.store 2 T3 T34)])
 .skip))
 (Zq (Rg [Iq 36 (.fad 0 T2),Iq 37 (.fad 1 T36),Iq 38 (Lo T37),Iq 39 (.fad 0 T3),Iq 40 (.fad 1 T39),Iq 41 (Lo T40),Iq 42 (.call 170 [T38,T41]),Im 35 T42,Iq 43 (.ext T35 0),Iq 44 (.ext T35 1),Im 5 T43,Im 6 T44])
 (Zq (Rg [Iq 45 (.fad 0 T2),Iq 46 (.fad 0 T45),Iq 47 (Lo T46),Im 48 T5,Iq 49 (.call 171 [T47,T48]),Is (.store 2 T4 T49)])
 .ret)))))
def ge209 : FE := ⟨50, y209, [.c 4 true 2]⟩
theorem oks209 : FOk Tryz.prog 209 ge209 := FOk.mk1 Tryz.func209
def y212:XC:=(Zq (Rg [Iq 2 (.mv (.k Zs))])
 (Zq (Rg [Iq 3 (.mv (.k Zs))])
 (Zq (Zq (Rg [Im 9 T0,Iq 10 (.len false T9),Iq 11 (.mv (Ki 0))])
 (.block 0 (.loop (Zq (Rg [Iq 12 (.bin .lss T11 T10)])
 (Zq (.cond T12 .skip
 (.exit 0))
 (Zq (.block 1 (Zq (Rg [Iq 13 (.iad 1 T9 T11),Iq 14 (Lo T13),Im 5 T14])
 (Zq (Rg [Im 15 T5,Iq 16 (.call 172 [T15]),Im 5 T16])
 (.block 2 (.loop (Zq (Zq (Rg [Im 17 T5,Iq 18 (.len false T17),Iq 19 (.bin .gtr T18 (Ki 0))])
 (.cond T19 .skip
 (.exit 2)))
 (.block 3 (Zq (Rg [Im 21 T3,Im 22 T5,Iq 23 (.call 168 [T21,T22]),Im 20 T23,Iq 24 (.ext T20 0),Iq 25 (.ext T20 1),Iq 26 (.ext T20 2),Im 6 T24,Im 7 T25,Im 8 T26])
 (Rg [Im 27 T5,Im 28 T7,Im 3 T27,Im 5 T28])))))))))
 (Rg [Iq 29 (.bin .add T11 (Ki 1)),Im 11 T29])))))))
 (Zq (Rg [Im 30 T3,Iq 31 (.call 156 [T30]),Im 2 T31])
 .ret))))
def ge212 : FE := ⟨32, y212, [.t 2]⟩
theorem oks212 : FOk Tryz.prog 212 ge212 := FOk.mk1 Tryz.func212
def y213:XC:=(Zq (Rg [Iq 4 (.mv (Ki 0))])
 (Zq (Rg [Im 6 T0,Iq 7 (.call 220 [T6]),Im 8 T1,Iq 9 (.call 220 [T8]),Im 0 T7,Im 1 T9])
 (Zq (Zq (Rg [Im 10 T0,Iq 11 (.len false T10),Im 12 T1,Iq 13 (.len false T12),Iq 14 (.bin .neq T11 T13)])
 (.cond T14 (Zq (Rg [Im 15 T0,Iq 16 (.len false T15),Im 17 T1,Iq 18 (.len false T17),Iq 19 (.call 234 [T16,T18]),Im 4 T19])
 .ret)
 .skip))
 (Zq (Zq (Rg [Im 20 T0,Iq 21 (.len false T20),Iq 22 (.bin .sub T21 (Ki 1)),Im 5 T22])
 (.block 0 (.loop (Zq (Zq (Rg [Im 23 T5,Iq 24 (.bin .geq T23 (Ki 0))])
 (.cond T24 .skip
 (.exit 0)))
 (Zq (.block 1 (Zq (.draw [⟨Im 27 T0,[]⟩,⟨Im 28 T5,[]⟩,⟨Iq 29 (.iad 1 T27 T28),[0,1]⟩,⟨Iq 30 (Lo T29),[2]⟩,⟨Im 31 T1,[]⟩,⟨Im 32 T5,[]⟩,⟨Iq 33 (.iad 1 T31 T32),[4,5]⟩,⟨Iq 34 (Lo T33),[6]⟩,⟨Iq 35 (.bin .neq T30 T34),[3,7]⟩] [0,0,3,7,0,0,48,112,255])
 (.cond T35 (Zq (.draw [⟨Im 36 T0,[]⟩,⟨Im 37 T5,[]⟩,⟨Iq 38 (.iad 1 T36 T37),[0,1]⟩,⟨Iq 39 (Lo T38),[2]⟩,⟨Im 40 T1,[]⟩,⟨Im 41 T5,[]⟩,⟨Iq 42 (.iad 1 T40 T41),[4,5]⟩,⟨Iq 43 (Lo T42),[6]⟩,⟨Iq 44 (.call 235 [T39,T43]),[3,7]⟩,⟨Im 4 T44,[8,8,0,1,2,3,4,5,6,7,8]⟩] [0,0,3,7,0,0,48,112,255,511])
 .ret)
 .skip)))
 (Rg [Im 25 T5,Iq 26 (.bin .sub T25 (Ki 1)),Im 5 T26]))))))
 (Zq (Rg [Iq 4 (.mv (Ki 0))])
 .ret)))))
def ge213 : FE := ⟨45, y213, [.t 4]⟩
theorem oks213 : FOk Tryz.prog 213 ge213 := FOk.mk1 Tryz.func213
def y214:XC:=(Zq (Rg [Iq 4 (.mv (.k Zs)),Iq 5 (.mv (.k (.int .u32 0))),Iq 6 (.mv (Ki 0))])
 (Zq (Zq (Rg [Im 8 T1,Iq 9 (.bin .eql T8 (.k (.int .u32 0)))])
 (.cond T9 (Zq (Rg [Iq 4 (.mv (.k Zs)),Iq 5 (.mv (.k (.int .u32 0))),Iq 6 (.mv (Ki 20))])
 .ret)
 .skip))
 (Zq (Rg [Im 10 T0,Iq 11 (.call 156 [T10]),Im 4 T11])
 (Zq (Zq (Rg [Im 12 T4,Iq 13 (.len false T12),Iq 14 (.bin .sub T13 (Ki 1)),Im 7 T14])
 (.block 0 (.loop (Zq (Zq (Rg [Im 15 T7,Iq 16 (.bin .geq T15 (Ki 0))])
 (.cond T16 .skip
 (.exit 0)))
 (Zq (.block 1 (Rg [Im 20 T4,Im 21 T7,Im 22 T5,Im 23 T4,Im 24 T7,Iq 25 (.iad 1 T23 T24),Iq 26 (Lo T25),Im 27 T1,Iq 28 (.call 236 [T22,T26,T27]),Im 19 T28,Iq 29 (.ext T19 0),Iq 30 (.ext T19 1),Iq 31 (.iad 1 T20 T21),Is (.store 1 T31 T29),Im 5 T30]))
 (Rg [Im 17 T7,Iq 18 (.bin .sub T17 (Ki 1)),Im 7 T18]))))))
 (Zq (Rg [Im 32 T4,Iq 33 (.call 220 [T32]),Im 34 T5,Im 4 T33,Im 5 T34,Iq 6 (.mv (Ki 0))])
 .ret)))))
def ge214 : FE := ⟨35, y214, [.t 4, .t 5, .t 6]⟩
theorem oks214 : FOk Tryz.prog 214 ge214 := FOk.mk1 Tryz.func214
def y215:XC:=(Zq (Rg [Iq 2 (.mv (Ki 0))])
 (Zq (Rg [Im 3 T0,Iq 4 (.call 237 [T3]),Iq 5 (.bin .sub (Ki 32) T4),Im 2 T5])
 .ret))
def ge215 : FE := ⟨6, y215, [.t 2]⟩
theorem oks215 : FOk Tryz.prog 215 ge215 := FOk.mk1 Tryz.func215
def y216:XC:=(Zq (Rg [Iq 4 (.mv (.k Zs)),Iq 5 (.mv (Ki 0))])
 (Zq (Rg [Im 6 T0,Iq 7 (.call 220 [T6]),Im 0 T7])
 (Zq (.block 0 (Zq (Rg [Im 9 T0,Iq 10 (.len false T9),Iq 11 (.bin .eql T10 (Ki 0)),Im 8 T11])
 (.cond T8 (Zq (Rg [Iq 4 (.mv (.k Zs)),Iq 5 (.mv (Ki 0))])
 .ret)
 (Zq (Rg [Im 13 T1,Iq 14 (.bin .gtr T13 (Ki 65536)),Im 12 T14])
 (.cond T12 (Zq (Rg [Iq 4 (.mv (.k Zs)),Iq 5 (.mv (Ki 3))])
 .ret)
 (Zq (Rg [Im 16 T1,Iq 17 (.bin .geq T16 (Ki 0)),Im 15 T17])
 (.cond T15 (Zq (.draw [⟨Im 18 T1,[]⟩,⟨Iq 19 (.bin .quo T18 (Ki 32)),[0]⟩,⟨Iq 20 (.mksl 221 1 4 [(.int .u32 0)] T19 T19),[1,1]⟩,⟨Im 21 T0,[]⟩,⟨Im 22 T1,[]⟩,⟨Iq 23 (.bin .rem T22 (Ki 32)),[4]⟩,⟨Iq 24 (.call 239 [T21,T23]),[3,5]⟩,⟨Iq 25 (.bslice 22 1 2 [Zs] [(0,T20),(1,T24)]),[2,6]⟩,⟨Iq 26 (.call 238 [T25]),[7,6]⟩,⟨Im 4 T26,[8,8,0,1,2,3,4,5,6,7,8]⟩,⟨Iq 5 (.mv (Ki 0)),[9,0,1,2,3,4,5,6,7,8,9]⟩] [0,1,3,0,0,16,56,127,255,511,1023])
 .ret)
 (Zq (Rg [Im 28 T1,Im 29 T0,Iq 30 (.len false T29),Iq 31 (.bin .mul (.k (.int .i64 (-32))) T30),Iq 32 (.bin .leq T28 T31),Im 27 T32])
 (.cond T27 (Zq (Rg [Iq 4 (.mv (.k Zs)),Iq 5 (.mv (Ki 0))])
 .ret)
 .skip)))))))))
 (Zq (Rg [Im 33 T1,Iq 34 (.un .neg T33),Im 1 T34])
 (Zq (Rg [Im 35 T0,Im 36 T1,Iq 37 (.bin .quo T36 (Ki 32)),Iq 38 (.slc 1 T35 (some T37) none),Im 39 T1,Iq 40 (.bin .rem T39 (Ki 32)),Iq 41 (.call 240 [T38,T40]),Iq 42 (.call 220 [T41]),Iq 43 (.call 156 [T42]),Im 4 T43,Iq 5 (.mv (Ki 0))])
 .ret)))))
def ge216 : FE := ⟨44, y216, [.t 4, .t 5]⟩
theorem oks216 : FOk Tryz.prog 216 ge216 := FOk.mk1 Tryz.func216
def y217:XC:=(Zq (Rg [Iq 10 (.mv (.k (.int .u64 0)))])
 (Zq (Rg [Im 14 T0,Iq 15 (.cvi .u64 T14),Iq 16 (.bin .shl T15 (.k (.int .u64 32))),Im 17 T1,Iq 18 (.cvi .u64 T17),Iq 19 (.bin .or T16 T18),Im 11 T19])
 (Zq (.draw [⟨Im 20 T11,[]⟩,⟨Im 21 T3,[]⟩,⟨Iq 22 (.cvi .u64 T21),[1]⟩,⟨Iq 23 (.bin .quo T20 T22),[0,2]⟩,⟨Im 24 T11,[]⟩,⟨Im 25 T3,[]⟩,⟨Iq 26 (.cvi .u64 T25),[5]⟩,⟨Iq 27 (.bin .rem T24 T26),[4,6]⟩,⟨Im 12 T23,[3,0,1,2,3]⟩,⟨Im 13 T27,[7,8,0,1,2,3,4,5,6,7,8]⟩] [0,0,2,7,0,0,32,112,15,511])
 (Zq .skip
 (Zq (.block 0 (.loop (Zq (Zq (Rg [Im 28 T12,Iq 29 (.bin .gtr T28 (.k (.int .u64 4294967295))),Im 30 T29,Iv 31 30 (.mv T12),Iv 32 30 (.mv T4),Iv 33 30 (.cvi .u64 T32),Iv 34 30 (.bin .mul T31 T33),Iv 35 30 (.mv T13),Iv 36 30 (.bin .shl T35 (.k (.int .u64 32))),Iv 37 30 (.mv T2),Iv 38 30 (.cvi .u64 T37),Iv 39 30 (.bin .or T36 T38),Iv 40 30 (.bin .gtr T34 T39),Iq 41 (.pick T30 Kt T40)])
 (.cond T41 .skip
 (.exit 0)))
 (.block 1 (Zq (Rg [Im 42 T12,Iq 43 (.bin .sub T42 (.k (.int .u64 1))),Im 12 T43])
 (Zq (Rg [Im 44 T13,Im 45 T3,Iq 46 (.cvi .u64 T45),Iq 47 (.bin .add T44 T46),Im 13 T47])
 (Zq (Rg [Im 48 T13,Iq 49 (.bin .gtr T48 (.k (.int .u64 4294967295)))])
 (.cond T49 (.exit 0)
 .skip))))))))
 (Zq (Rg [Im 50 T12,Im 10 T50])
 .ret))))))
def ge217 : FE := ⟨51, y217, [.t 10]⟩
theorem oks217 : FOk Tryz.prog 217 ge217 := FOk.mk1 Tryz.func217
def y218:XC:=(Zq (Rg [Iq 6 (.mv (.k (.int .u32 0)))])
 (Zq (Rg [Iq 7 (.mv (.k (.int .u64 0))),Iq 8 (.mv (.k (.int .u64 0)))])
 (Zq (Zq (Rg [Im 16 T0,Iq 17 (.len false T16),Iq 18 (.mv (Ki 0))])
 (.block 0 (.loop (Zq (Rg [Iq 19 (.bin .lss T18 T17)])
 (Zq (.cond T19 .skip
 (.exit 0))
 (Zq (.block 1 (Zq (Rg [Im 20 T18,Im 9 T20])
 (Zq (Rg [Iq 10 (.mv (.k (.int .u64 0)))])
 (Zq (Zq (Rg [Im 21 T9,Im 22 T1,Iq 23 (.len false T22),Iq 24 (.bin .lss T21 T23)])
 (.cond T24 (Rg [Im 25 T1,Im 26 T9,Iq 27 (.iad 1 T25 T26),Iq 28 (Lo T27),Iq 29 (.cvi .u64 T28),Im 10 T29])
 .skip))
 (Zq (Rg [Im 30 T2,Im 31 T10,Iq 32 (.bin .mul T30 T31),Im 33 T7,Iq 34 (.bin .add T32 T33),Im 11 T34])
 (Zq (Rg [Im 35 T11,Iq 36 (.bin .shr T35 (.k (.int .u64 32))),Im 7 T36])
 (Zq (Rg [Im 37 T0,Im 38 T9,Iq 39 (.iad 1 T37 T38),Iq 40 (Lo T39),Iq 41 (.cvi .u64 T40),Im 42 T11,Iq 43 (.cvi .u32 T42),Iq 44 (.cvi .u64 T43),Iq 45 (.bin .sub T41 T44),Im 46 T8,Iq 47 (.bin .sub T45 T46),Im 12 T47])
 (Rg [Im 48 T0,Im 49 T9,Im 50 T12,Iq 51 (.cvi .u32 T50),Im 52 T12,Iq 53 (.bin .shr T52 (.k (.int .u64 63))),Iq 54 (.iad 1 T48 T49),Is (.store 1 T54 T51),Im 8 T53]))))))))
 (Rg [Iq 55 (.bin .add T18 (Ki 1)),Im 18 T55])))))))
 (Zq (Zq (Rg [Im 56 T8,Iq 57 (.bin .eql T56 (.k (.int .u64 0)))])
 (.cond T57 (Zq (Rg [Im 58 T2,Iq 59 (.cvi .u32 T58),Im 6 T59])
 .ret)
 .skip))
 (Zq (Rg [Iq 13 (.mv (.k (.int .u32 0)))])
 (Zq (Zq (Rg [Im 60 T0,Iq 61 (.len false T60),Iq 62 (.mv (Ki 0))])
 (.block 2 (.loop (Zq (Rg [Iq 63 (.bin .lss T62 T61)])
 (Zq (.cond T63 .skip
 (.exit 2))
 (Zq (.block 3 (Zq (Rg [Im 64 T62,Im 14 T64])
 (Zq (Rg [Iq 15 (.mv (.k (.int .u32 0)))])
 (Zq (Zq (Rg [Im 65 T14,Im 66 T1,Iq 67 (.len false T66),Iq 68 (.bin .lss T65 T67)])
 (.cond T68 (Rg [Im 69 T1,Im 70 T14,Iq 71 (.iad 1 T69 T70),Iq 72 (Lo T71),Im 15 T72])
 .skip))
 (Rg [Im 74 T0,Im 75 T14,Im 76 T0,Im 77 T14,Iq 78 (.iad 1 T76 T77),Iq 79 (Lo T78),Im 80 T15,Im 81 T13,Iq 82 (.call 219 [T79,T80,T81]),Im 73 T82,Iq 83 (.ext T73 0),Iq 84 (.ext T73 1),Iq 85 (.iad 1 T74 T75),Is (.store 1 T85 T83),Im 13 T84])))))
 (Rg [Iq 86 (.bin .add T62 (Ki 1)),Im 62 T86])))))))
 (Zq (Rg [Im 87 T2,Iq 88 (.bin .sub T87 (.k (.int .u64 1))),Iq 89 (.cvi .u32 T88),Im 6 T89])
 .ret)))))))
def ge218 : FE := ⟨90, y218, [.t 6]⟩
theorem oks218 : FOk Tryz.prog 218 ge218 := FOk.mk1 Tryz.func218
def y219:XC:=(Zq (Rg [Iq 6 (.mv (.k (.int .u32 0))),Iq 7 (.mv (.k (.int .u32 0)))])
 (Zq (Rg [Im 9 T0,Iq 10 (.cvi .u64 T9),Im 11 T1,Iq 12 (.cvi .u64 T11),Iq 13 (.bin .add T10 T12),Im 14 T2,Iq 15 (.cvi .u64 T14),Iq 16 (.bin .add T13 T15),Im 8 T16])
 (Zq (Rg [Im 17 T8,Iq 18 (.cvi .u32 T17),Im 6 T18])
 (Zq (Rg [Im 19 T8,Iq 20 (.bin .shr T19 (.k (.int .u64 32))),Iq 21 (.cvi .u32 T20),Im 7 T21])
 .ret))))
def ge219 : FE := ⟨22, y219, [.t 6, .t 7]⟩
theorem oks219 : FOk Tryz.prog 219 ge219 := FOk.mk1 Tryz.func219
def y220:XC:=(Zq (Rg [Iq 2 (.mv (.k Zs))])
 (Zq (.block 0 (.loop (Zq (Zq (Rg [Im 3 T0,Iq 4 (.len false T3),Iq 5 (.bin .gtr T4 (Ki 0)),Im 6 T5,Iw 7 6 (.mv T0),Iw 8 6 (.mv T0),Iw 9 6 (.len false T8),Iw 10 6 (.bin .sub T9 (Ki 1)),Iw 11 6 (.iad 1 T7 T10),Iw 12 6 (Lo T11),Iw 13 6 (.bin .eql T12 (.k (.int .u32 0))),Iq 14 (.pick T6 T13 Kf)])
 (.cond T14 .skip
 (.exit 0)))
 (.block 1 (Rg [Im 15 T0,Im 16 T0,Iq 17 (.len false T16),Iq 18 (.bin .sub T17 (Ki 1)),Iq 19 (.slc 1 T15 none (some T18)),Im 0 T19])))))
 (Zq (Rg [Im 20 T0,Im 2 T20])
 .ret)))
def ge220 : FE := ⟨21, y220, [.t 2]⟩
theorem oks220 : FOk Tryz.prog 220 ge220 := FOk.mk1 Tryz.func220
def y221:XC:=(Zq (Rg [Iq 6 (.mv (.k (.int .u32 0))),Iq 7 (.mv (.k (.int .u32 0)))])
 (Zq (Rg [Im 8 T0,Im 9 T1,Iq 10 (.bin .sub T8 T9),Im 11 T2,Iq 12 (.bin .sub T10 T11),Im 6 T12])
 (Zq (Rg [Im 13 T0,Iq 14 (.un .xor T13),Im 15 T1,Iq 16 (.bin .and T14 T15),Im 17 T0,Im 18 T1,Iq 19 (.bin .xor T17 T18),Iq 20 (.un .xor T19),Im 21 T6,Iq 22 (.bin .and T20 T21),Iq 23 (.bin .or T16 T22),Iq 24 (.bin .shr T23 (.k (.int .u64 31))),Im 7 T24])
 .ret)))
def ge221 : FE := ⟨25, y221, [.t 6, .t 7]⟩
theorem oks221 : FOk Tryz.prog 221 ge221 := FOk.mk1 Tryz.func221
def y222:XC:=(Zq (Rg [Iq 4 (.mv (Ki 0))])
 (Zq (Rg [Iq 5 (.mv (Ki 0)),Iq 6 (.mv (Ki 65536))])
 (Zq (.block 0 (.loop (Zq (Zq (Rg [Im 8 T6,Im 9 T5,Iq 10 (.bin .sub T8 T9),Iq 11 (.bin .gtr T10 (Ki 1))])
 (.cond T11 .skip
 (.exit 0)))
 (.block 1 (Zq (Rg [Im 12 T5,Im 13 T6,Iq 14 (.bin .add T12 T13),Iq 15 (.bin .quo T14 (Ki 2)),Im 7 T15])
 (Zq (Rg [Im 16 T0,Im 17 T1,Im 18 T7,Iq 19 (.bslice 3 1 1 [Zi] [(0,T18)]),Iq 20 (.call 151 [T17,T19]),Iq 21 (.call 241 [T16,T20])])
 (.cond T21 (Rg [Im 22 T7,Im 6 T22])
 (Rg [Im 23 T7,Im 5 T23]))))))))
 (Zq (Rg [Im 24 T5,Im 4 T24])
 .ret))))
def ge222 : FE := ⟨25, y222, [.t 4]⟩
theorem oks222 : FOk Tryz.prog 222 ge222 := FOk.mk1 Tryz.func222
def y223:XC:=(Zq (Rg [Iq 6 (.mv (.k Zs))])
 (Zq (Rg [Iq 7 (.mv (.k Zs))])
 (Zq (Rg [Iq 8 (.mv (Ki 0))])
 (Zq (Zq (Rg [Iq 9 (.mv (Ki 0))])
 (.block 0 (.loop (Zq (Zq (Rg [Im 11 T9,Im 12 T0,Iq 13 (.len false T12),Iq 14 (.bin .lss T11 T13)])
 (.cond T14 .skip
 (.exit 0)))
 (Zq (.block 1 (Zq (Rg [Im 17 T0,Im 18 T9,Iq 19 (.iad 1 T17 T18),Iq 20 (Lo T19),Im 21 T8,Iq 22 (.bin .sub T20 T21),Im 10 T22])
 (Zq (Zq (Rg [Im 23 T9,Im 24 T1,Iq 25 (.len false T24),Iq 26 (.bin .lss T23 T25)])
 (.cond T26 (Rg [Im 27 T10,Im 28 T2,Im 29 T1,Im 30 T9,Iq 31 (.iad 1 T29 T30),Iq 32 (Lo T31),Iq 33 (.bin .mul T28 T32),Iq 34 (.bin .sub T27 T33),Im 10 T34])
 .skip))
 (Zq (Rg [Iq 8 (.mv (Ki 0))])
 (Zq (Zq (Rg [Im 35 T10,Iq 36 (.bin .lss T35 (Ki 0))])
 (.cond T36 (Zq (Rg [Im 37 T10,Iq 38 (.bin .sub (Ki 65535) T37),Iq 39 (.bin .quo T38 (Ki 65536)),Im 8 T39])
 (Rg [Im 40 T10,Im 41 T8,Iq 42 (.bin .mul (Ki 65536) T41),Iq 43 (.bin .add T40 T42),Im 10 T43]))
 .skip))
 (Rg [Im 44 T7,Im 45 T10,Iq 46 (.bslice 3 1 1 [Zi] [(0,T45)]),Iq 47 (.app 3 1 8 [Zi] T44 T46),Im 7 T47]))))))
 (Rg [Im 15 T9,Iq 16 (.bin .add T15 (Ki 1)),Im 9 T16]))))))
 (Zq (Rg [Im 48 T7,Iq 49 (.call 208 [T48]),Im 6 T49])
 .ret)))))
def ge223 : FE := ⟨50, y223, [.t 6]⟩
theorem oks223 : FOk Tryz.prog 223 ge223 := FOk.mk1 Tryz.func223
def y224:XC:=(Zq (Rg [Iq 4 (.mv (.k Zs))])
 (Zq (Rg [Im 11 T0,Iq 12 (.call 233 [T11]),Im 13 T1,Iq 14 (.call 233 [T13]),Im 5 T12,Im 6 T14])
 (Zq (Rg [Iq 7 (.mv (.k Zs))])
 (Zq (Rg [Iq 8 (.mv (Ki 0))])
 (Zq (Zq (Rg [Iq 9 (.mv (Ki 0))])
 (.block 0 (.loop (Zq (Zq (Rg [Im 15 T9,Im 16 T5,Iq 17 (.len false T16),Im 18 T6,Iq 19 (.len false T18),Iq 20 (.mx false T17 T19),Iq 21 (.bin .lss T15 T20),Im 22 T21,Iv 23 22 (.mv T8),Iv 24 22 (.bin .gtr T23 (Ki 0)),Iq 25 (.pick T22 Kt T24)])
 (.cond T25 .skip
 (.exit 0)))
 (Zq (.block 1 (Zq (Rg [Im 28 T5,Im 29 T9,Iq 30 (.call 242 [T28,T29]),Im 31 T6,Im 32 T9,Iq 33 (.call 242 [T31,T32]),Iq 34 (.bin .add T30 T33),Im 35 T8,Iq 36 (.bin .add T34 T35),Im 10 T36])
 (Zq (Rg [Im 37 T7,Im 38 T10,Iq 39 (.bin .rem T38 (Ki 65536)),Iq 40 (.bslice 3 1 1 [Zi] [(0,T39)]),Iq 41 (.app 3 1 8 [Zi] T37 T40),Im 7 T41])
 (Rg [Im 42 T10,Iq 43 (.bin .quo T42 (Ki 65536)),Im 8 T43]))))
 (Rg [Im 26 T9,Iq 27 (.bin .add T26 (Ki 1)),Im 9 T27]))))))
 (Zq (Rg [Im 44 T7,Iq 45 (.call 232 [T44]),Im 4 T45])
 .ret))))))
def ge224 : FE := ⟨46, y224, [.t 4]⟩
theorem oks224 : FOk Tryz.prog 224 ge224 := FOk.mk1 Tryz.func224
def y225:XC:=(Zq (Rg [Iq 4 (.mv (.k Zs)),Iq 5 (.mv (Ki 0))])
 (Zq (Zq (Rg [Im 12 T0,Im 13 T1,Iq 14 (.call 226 [T12,T13]),Iq 15 (.bin .lss T14 (Ki 0))])
 (.cond T15 (Zq (Rg [Iq 4 (.mv (.k Zs)),Iq 5 (.mv (Ki 2))])
 .ret)
 .skip))
 (Zq (Rg [Im 16 T0,Iq 17 (.call 233 [T16]),Im 18 T1,Iq 19 (.call 233 [T18]),Im 6 T17,Im 7 T19])
 (Zq (Rg [Iq 8 (.mv (.k Zs))])
 (Zq (Rg [Iq 9 (.mv (Ki 0))])
 (Zq (Zq (Rg [Iq 10 (.mv (Ki 0))])
 (.block 0 (.loop (Zq (Zq (Rg [Im 20 T10,Im 21 T6,Iq 22 (.len false T21),Iq 23 (.bin .lss T20 T22)])
 (.cond T23 .skip
 (.exit 0)))
 (Zq (.block 1 (Zq (.draw [⟨Im 26 T6,[]⟩,⟨Im 27 T10,[]⟩,⟨Iq 28 (.iad 1 T26 T27),[0,1]⟩,⟨Iq 29 (Lo T28),[2]⟩,⟨Im 30 T7,[]⟩,⟨Im 31 T10,[]⟩,⟨Iq 32 (.call 242 [T30,T31]),[4,5]⟩,⟨Iq 33 (.bin .sub T29 T32),[3,6]⟩,⟨Im 34 T9,[]⟩,⟨Iq 35 (.bin .sub T33 T34),[7,8]⟩,⟨Im 11 T35,[9,6,0,1,2,3,4,5,6,7,8,9]⟩] [0,0,3,7,0,0,48,127,0,511,1023])
 (Zq (Rg [Iq 9 (.mv (Ki 0))])
 (Zq (Zq (Rg [Im 36 T11,Iq 37 (.bin .lss T36 (Ki 0))])
 (.cond T37 (Zq (Rg [Im 38 T11,Iq 39 (.bin .add T38 (Ki 65536)),Im 11 T39])
 (Rg [Iq 9 (.mv (Ki 1))]))
 .skip))
 (Rg [Im 40 T8,Im 41 T11,Iq 42 (.bslice 3 1 1 [Zi] [(0,T41)]),Iq 43 (.app 3 1 8 [Zi] T40 T42),Im 8 T43])))))
 (Rg [Im 24 T10,Iq 25 (.bin .add T24 (Ki 1)),Im 10 T25]))))))
 (Zq (Rg [Im 44 T8,Iq 45 (.call 232 [T44]),Im 4 T45,Iq 5 (.mv (Ki 0))])
 .ret)))))))
def ge225 : FE := ⟨46, y225, [.t 4, .t 5]⟩
theorem oks225 : FOk Tryz.prog 225 ge225 := FOk.mk1 Tryz.func225
def y226:XC:=(Zq (Rg [Iq 4 (.mv (Ki 0))])
 (Zq (Rg [Im 8 T0,Iq 9 (.call 233 [T8]),Im 10 T1,Iq 11 (.call 233 [T10]),Im 5 T9,Im 6 T11])
 (Zq (Zq (Rg [Im 12 T5,Iq 13 (.len false T12),Im 14 T6,Iq 15 (.len false T14),Iq 16 (.mx false T13 T15),Iq 17 (.bin .sub T16 (Ki 1)),Im 7 T17])
 (.block 0 (.loop (Zq (Zq (Rg [Im 18 T7,Iq 19 (.bin .geq T18 (Ki 0))])
 (.cond T19 .skip
 (.exit 0)))
 (Zq (.block 1 (Zq (Zq (Rg [Im 22 T5,Im 23 T7,Iq 24 (.call 242 [T22,T23]),Im 25 T6,Im 26 T7,Iq 27 (.call 242 [T25,T26]),Iq 28 (.bin .lss T24 T27)])
 (.cond T28 (Zq (Rg [Iq 4 (.mv (.k (.int .i64 (-1))))])
 .ret)
 .skip))
 (Zq (Rg [Im 29 T5,Im 30 T7,Iq 31 (.call 242 [T29,T30]),Im 32 T6,Im 33 T7,Iq 34 (.call 242 [T32,T33]),Iq 35 (.bin .gtr T31 T34)])
 (.cond T35 (Zq (Rg [Iq 4 (.mv (Ki 1))])
 .ret)
 .skip))))
 (Rg [Im 20 T7,Iq 21 (.bin .sub T20 (Ki 1)),Im 7 T21]))))))
 (Zq (Rg [Iq 4 (.mv (Ki 0))])
 .ret))))
def ge226 : FE := ⟨36, y226, [.t 4]⟩
theorem oks226 : FOk Tryz.prog 226 ge226 := FOk.mk1 Tryz.func226
def y232:XC:=(Zq (Rg [Iq 2 (.mv (.k Zs))])
 (Zq (Rg [Iq 3 (.mv (.k Zs))])
 (Zq (Rg [Im 6 T0,Iq 7 (.call 243 [T6]),Im 0 T7])
 (Zq (Zq (Rg [Iq 4 (.mv (Ki 0))])
 (.block 0 (.loop (Zq (Zq (Rg [Im 8 T4,Im 9 T0,Iq 10 (.len false T9),Iq 11 (.bin .lss T8 T10)])
 (.cond T11 .skip
 (.exit 0)))
 (Zq (.block 1 (Zq (Rg [Iq 5 (.mv (Ki 0))])
 (Zq (Zq (Rg [Im 14 T4,Iq 15 (.bin .add T14 (Ki 1)),Im 16 T0,Iq 17 (.len false T16),Iq 18 (.bin .lss T15 T17)])
 (.cond T18 (Rg [Im 19 T0,Im 20 T4,Iq 21 (.bin .add T20 (Ki 1)),Iq 22 (.iad 1 T19 T21),Iq 23 (Lo T22),Im 5 T23])
 .skip))
 (Rg [Im 24 T3,Im 25 T0,Im 26 T4,Iq 27 (.iad 1 T25 T26),Iq 28 (Lo T27),Iq 29 (.cvi .u32 T28),Im 30 T5,Iq 31 (.cvi .u32 T30),Iq 32 (.bin .mul (.k (.int .u32 65536)) T31),Iq 33 (.bin .add T29 T32),Iq 34 (.bslice 221 1 1 [(.int .u32 0)] [(0,T33)]),Iq 35 (.app 221 1 4 [(.int .u32 0)] T24 T34),Im 3 T35]))))
 (Rg [Im 12 T4,Iq 13 (.bin .add T12 (Ki 2)),Im 4 T13]))))))
 (Zq (Rg [Im 36 T3,Im 2 T36])
 .ret)))))
def ge232 : FE := ⟨37, y232, [.t 2]⟩
theorem oks232 : FOk Tryz.prog 232 ge232 := FOk.mk1 Tryz.func232
def y233:XC:=(Zq (Rg [Iq 2 (.mv (.k Zs))])
 (Zq (Rg [Iq 3 (.mv (.k Zs))])
 (Zq (Zq (Rg [Iq 4 (.mv (Ki 0))])
 (.block 0 (.loop (Zq (Zq (Rg [Im 5 T4,Im 6 T0,Iq 7 (.len false T6),Iq 8 (.bin .lss T5 T7)])
 (.cond T8 .skip
 (.exit 0)))
 (Zq (.block 1 (.draw [⟨Im 11 T3,[]⟩,⟨Im 12 T0,[]⟩,⟨Im 13 T4,[]⟩,⟨Iq 14 (.iad 1 T12 T13),[1,2]⟩,⟨Iq 15 (Lo T14),[3]⟩,⟨Iq 16 (.bin .rem T15 (.k (.int .u32 65536))),[4]⟩,⟨Iq 17 (.cvi .i64 T16),[5]⟩,⟨Im 18 T0,[]⟩,⟨Im 19 T4,[]⟩,⟨Iq 20 (.iad 1 T18 T19),[7,8]⟩,⟨Iq 21 (Lo T20),[9]⟩,⟨Iq 22 (.bin .quo T21 (.k (.int .u32 65536))),[10]⟩,⟨Iq 23 (.cvi .i64 T22),[11]⟩,⟨Iq 24 (.bslice 3 1 2 [Zi] [(0,T17),(1,T23)]),[6,12]⟩,⟨Iq 25 (.app 3 1 8 [Zi] T11 T24),[0,13]⟩,⟨Im 3 T25,[14,14,0,1,2,3,4,5,6,7,8,9,10,11,12,13,14]⟩] [0,0,0,6,14,30,62,0,0,384,896,1920,3968,8190,16383,32767]))
 (Rg [Im 9 T4,Iq 10 (.bin .add T9 (Ki 1)),Im 4 T10]))))))
 (Zq (Rg [Im 26 T3,Iq 27 (.call 243 [T26]),Im 2 T27])
 .ret))))
def ge233 : FE := ⟨28, y233, [.t 2]⟩
theorem oks233 : FOk Tryz.prog 233 ge233 := FOk.mk1 Tryz.func233
def y234:XC:=(Zq (Rg [Iq 4 (.mv (Ki 0))])
 (Zq (Rg [Im 7 T0,Iq 8 (.call 244 [T7]),Im 5 T8])
 (Zq (Rg [Im 9 T1,Iq 10 (.call 244 [T9]),Im 6 T10])
 (Zq (Zq (Rg [Im 11 T5])
 (.cond T11 (Zq (Zq (Rg [Im 12 T6])
 (.cond T12 (Zq (Rg [Iq 4 (.mv (Ki 0))])
 .ret)
 .skip))
 (Zq (Rg [Iq 4 (.mv (.k (.int .i64 (-1))))])
 .ret))
 .skip))
 (Zq (Zq (Rg [Im 13 T6])
 (.cond T13 (Zq (Rg [Iq 4 (.mv (Ki 1))])
 .ret)
 .skip))
 (Zq (Zq (Rg [Im 14 T0,Im 15 T1,Iq 16 (.bin .lss T14 T15)])
 (.cond T16 (Zq (Rg [Iq 4 (.mv (.k (.int .i64 (-1))))])
 .ret)
 .skip))
 (Zq (Zq (Rg [Im 17 T0,Im 18 T1,Iq 19 (.bin .gtr T17 T18)])
 (.cond T19 (Zq (Rg [Iq 4 (.mv (Ki 1))])
 .ret)
 .skip))
 (Zq (Rg [Iq 4 (.mv (Ki 0))])
 .ret))))))))
def ge234 : FE := ⟨20, y234, [.t 4]⟩
theorem oks234 : FOk Tryz.prog 234 ge234 := FOk.mk1 Tryz.func234
def y235:XC:=(Zq (Rg [Iq 4 (.mv (Ki 0))])
 (Zq (Rg [Im 7 T0,Iq 8 (.call 245 [T7]),Im 5 T8])
 (Zq (Rg [Im 9 T1,Iq 10 (.call 245 [T9]),Im 6 T10])
 (Zq (Zq (Rg [Im 11 T5])
 (.cond T11 (Zq (Zq (Rg [Im 12 T6])
 (.cond T12 (Zq (Rg [Iq 4 (.mv (Ki 0))])
 .ret)
 .skip))
 (Zq (Rg [Iq 4 (.mv (.k (.int .i64 (-1))))])
 .ret))
 .skip))
 (Zq (Zq (Rg [Im 13 T6])
 (.cond T13 (Zq (Rg [Iq 4 (.mv (Ki 1))])
 .ret)
 .skip))
 (Zq (Zq (Rg [Im 14 T0,Im 15 T1,Iq 16 (.bin .lss T14 T15)])
 (.cond T16 (Zq (Rg [Iq 4 (.mv (.k (.int .i64 (-1))))])
 .ret)
 .skip))
 (Zq (Zq (Rg [Im 17 T0,Im 18 T1,Iq 19 (.bin .gtr T17 T18)])
 (.cond T19 (Zq (Rg [Iq 4 (.mv (Ki 1))])
 .ret)
 .skip))
 (Zq (Rg [Iq 4 (.mv (Ki 0))])
 .ret))))))))
def ge235 : FE := ⟨20, y235, [.t 4]⟩
theorem oks235 : FOk Tryz.prog 235 ge235 := FOk.mk1 Tryz.func235
def y236:XC:=(Zq (Rg [Iq 6 (.mv (.k (.int .u32 0))),Iq 7 (.mv (.k (.int .u32 0)))])
 (Zq (Zq (Rg [Im 9 T2,Iq 10 (.bin .neq T9 (.k (.int .u32 0))),Im 11 T10,Iw 12 11 (.mv T2),Iw 13 11 (.mv T0),Iw 14 11 (.bin .leq T12 T13),Iq 15 (.pick T11 T14 Kf)])
 (.cond T15 (Rg [Iq 16 (Lo .bad),Is (.bad)])
 .skip))
 (Zq (Rg [Im 17 T0,Iq 18 (.cvi .u64 T17),Iq 19 (.bin .shl T18 (.k (.int .u64 32))),Im 20 T1,Iq 21 (.cvi .u64 T20),Iq 22 (.bin .or T19 T21),Im 8 T22])
 (Zq (.draw [⟨Im 23 T8,[]⟩,⟨Im 24 T2,[]⟩,⟨Iq 25 (.cvi .u64 T24),[1]⟩,⟨Iq 26 (.bin .quo T23 T25),[0,2]⟩,⟨Iq 27 (.cvi .u32 T26),[3]⟩,⟨Im 28 T8,[]⟩,⟨Im 29 T2,[]⟩,⟨Iq 30 (.cvi .u64 T29),[6]⟩,⟨Iq 31 (.bin .rem T28 T30),[5,7]⟩,⟨Iq 32 (.cvi .u32 T31),[8]⟩,⟨Im 6 T27,[4,0,1,2,3,4]⟩,⟨Im 7 T32,[9,10,0,1,2,3,4,5,6,7,8,9,10]⟩] [0,0,2,7,15,0,0,64,224,480,31,2047])
 .ret))))
def ge236 : FE := ⟨33, y236, [.t 6, .t 7]⟩
theorem oks236 : FOk Tryz.prog 236 ge236 := FOk.mk1 Tryz.func236
def y237:XC:=(Zq (Rg [Iq 2 (.mv (Ki 0))])
 (Zq (Zq (Rg [Im 3 T0,Iq 4 (.bin .geq T3 (.k (.int .u32 65536)))])
 (.cond T4 (Zq (Rg [Im 5 T0,Iq 6 (.bin .shr T5 (.k (.int .u64 16))),Im 0 T6])
 (Rg [Iq 2 (.mv (Ki 16))]))
 .skip))
 (Zq (Zq (Rg [Im 7 T0,Iq 8 (.bin .geq T7 (.k (.int .u32 256)))])
 (.cond T8 (Zq (Rg [Im 9 T0,Iq 10 (.bin .shr T9 (.k (.int .u64 8))),Im 0 T10])
 (Rg [Im 11 T2,Iq 12 (.bin .add T11 (Ki 8)),Im 2 T12]))
 .skip))
 (Zq (Rg [Im 13 T2,Im 14 T0,Iq 15 (.cvi .u8 T14),Iq 16 (.ixs (.k (.string ⟨#[0,1,2,2,3,3,3,3,4,4,4,4,4,4,4,4,5,5,5,5,5,5,5,5,5,5,5,5,5,5,5,5,6,6,6,6,6,6,6,6,6,6,6,6,6,6,6,6,6,6,6,6,6,6,6,6,6,6,6,6,6,6,6,6,7,7,7,7,7,7,7,7,7,7,7,7,7,7,7,7,7,7,7,7,7,7,7,7,7,7,7,7,7,7,7,7,7,7,7,7,7,7,7,7,7,7,7,7,7,7,7,7,7,7,7,7,7,7,7,7,7,7,7,7,7,7,7,7,8,8,8,8,8,8,8,8,8,8,8,8,8,8,8,8,8,8,8,8,8,8,8,8,8,8,8,8,8,8,8,8,8,8,8,8,8,8,8,8,8,8,8,8,8,8,8,8,8,8,8,8,8,8,8,8,8,8,8,8,8,8,8,8,8,8,8,8,8,8,8,8,8,8,8,8,8,8,8,8,8,8,8,8,8,8,8,8,8,8,8,8,8,8,8,8,8,8,8,8,8,8,8,8,8,8,8,8,8,8,8,8,8,8,8,8,8,8,8,8,8,8,8,8,8,8,8,8]⟩)) T15),Iq 17 (.cvi .i64 T16),Iq 18 (.bin .add T13 T17),Im 2 T18])
 .ret))))
def ge237 : FE := ⟨19, y237, [.t 2]⟩
theorem oks237 : FOk Tryz.prog 237 ge237 := FOk.mk1 Tryz.func237
def y238:XC:=(Zq (Rg [Iq 2 (.mv (.k Zs))])
 (Zq (Rg [Iq 3 (.mv (Ki 0))])
 (Zq (Zq (Rg [Im 9 T0,Iq 10 (.len false T9),Iq 11 (.mv (Ki 0))])
 (.block 0 (.loop (Zq (Rg [Iq 12 (.bin .lss T11 T10)])
 (Zq (.cond T12 .skip
 (.exit 0))
 (Zq (.block 1 (Zq (Rg [Iq 13 (.iad 1 T9 T11),Iq 14 (Lo T13),Im 5 T14])
 (Zq (Rg [Im 15 T3,Im 16 T5,Iq 17 (.len false T16),Iq 18 (.bin .add T15 T17),Im 3 T18])
 (Zq (Rg [Im 19 T3,Iq 20 (.bin .lss T19 (Ki 0))])
 (.cond T20 (Rg [Iq 21 (.bad),Is (.bad)])
 .skip)))))
 (Rg [Iq 22 (.bin .add T11 (Ki 1)),Im 11 T22])))))))
 (Zq (Rg [Im 23 T3,Iq 24 (.call 246 [(.k Zs),T23]),Im 6 T24])
 (Zq (Zq (Rg [Im 25 T0,Iq 26 (.len false T25),Iq 27 (.mv (Ki 0))])
 (.block 2 (.loop (Zq (Rg [Iq 28 (.bin .lss T27 T26)])
 (Zq (.cond T28 .skip
 (.exit 2))
 (Zq (.block 3 (Zq (Rg [Iq 29 (.iad 1 T25 T27),Iq 30 (Lo T29),Im 8 T30])
 (Rg [Im 31 T6,Im 32 T8,Iq 33 (.app 221 1 4 [(.int .u32 0)] T31 T32),Im 6 T33])))
 (Rg [Iq 34 (.bin .add T27 (Ki 1)),Im 27 T34])))))))
 (Zq (Rg [Im 35 T6,Im 2 T35])
 .ret))))))
def ge238 : FE := ⟨36, y238, [.t 2]⟩
theorem oks238 : FOk Tryz.prog 238 ge238 := FOk.mk1 Tryz.func238
def y239:XC:=(Zq (Rg [Iq 4 (.mv (.k Zs))])
 (Zq (Zq (Rg [Im 5 T1,Iq 6 (.bin .eql T5 (Ki 0))])
 (.cond T6 (Zq (Rg [Im 7 T0,Im 4 T7])
 .ret)
 .skip))
 (Zq (Rg [Im 8 T0,Im 9 T1,Iq 10 (.bin .shl (.k (.int .u32 1)) T9),Iq 11 (.call 247 [T8,T10]),Im 4 T11])
 .ret)))
def ge239 : FE := ⟨12, y239, [.t 4]⟩
theorem oks239 : FOk Tryz.prog 239 ge239 := FOk.mk1 Tryz.func239
def y240:XC:=(Zq (Rg [Iq 4 (.mv (.k Zs))])
 (Zq (Zq (Rg [Im 8 T1,Iq 9 (.bin .eql T8 (Ki 0))])
 (.cond T9 (Zq (Rg [Im 10 T0,Im 4 T10])
 .ret)
 .skip))
 (Zq (Rg [Im 12 T0,Im 13 T1,Iq 14 (.bin .shl (.k (.int .u32 1)) T13),Iq 15 (.call 214 [T12,T14]),Im 11 T15,Iq 16 (.ext T11 0),Iq 17 (.ext T11 1),Iq 18 (.ext T11 2),Im 5 T16,Im 6 T17,Im 7 T18])
 (Zq (Rg [Im 19 T5,Im 4 T19])
 .ret))))
def ge240 : FE := ⟨20, y240, [.t 4]⟩
theorem oks240 : FOk Tryz.prog 240 ge240 := FOk.mk1 Tryz.func240
def y241:XC:=(Zq (Rg [Iq 4 (.mv Kf)])
 (Zq (Zq (Rg [Im 6 T0,Iq 7 (.len false T6),Im 8 T1,Iq 9 (.len false T8),Iq 10 (.bin .neq T7 T9)])
 (.cond T10 (Zq (Rg [Im 11 T0,Iq 12 (.len false T11),Im 13 T1,Iq 14 (.len false T13),Iq 15 (.bin .lss T12 T14),Im 4 T15])
 .ret)
 .skip))
 (Zq (Zq (Rg [Im 16 T0,Iq 17 (.len false T16),Iq 18 (.bin .sub T17 (Ki 1)),Im 5 T18])
 (.block 0 (.loop (Zq (Zq (Rg [Im 19 T5,Iq 20 (.bin .geq T19 (Ki 0))])
 (.cond T20 .skip
 (.exit 0)))
 (Zq (.block 1 (Zq (.draw [⟨Im 23 T0,[]⟩,⟨Im 24 T5,[]⟩,⟨Iq 25 (.iad 1 T23 T24),[0,1]⟩,⟨Iq 26 (Lo T25),[2]⟩,⟨Im 27 T1,[]⟩,⟨Im 28 T5,[]⟩,⟨Iq 29 (.iad 1 T27 T28),[4,5]⟩,⟨Iq 30 (Lo T29),[6]⟩,⟨Iq 31 (.bin .neq T26 T30),[3,7]⟩] [0,0,3,7,0,0,48,112,255])
 (.cond T31 (Zq (.draw [⟨Im 32 T0,[]⟩,⟨Im 33 T5,[]⟩,⟨Iq 34 (.iad 1 T32 T33),[0,1]⟩,⟨Iq 35 (Lo T34),[2]⟩,⟨Im 36 T1,[]⟩,⟨Im 37 T5,[]⟩,⟨Iq 38 (.iad 1 T36 T37),[4,5]⟩,⟨Iq 39 (Lo T38),[6]⟩,⟨Iq 40 (.bin .lss T35 T39),[3,7]⟩,⟨Im 4 T40,[8,0,1,2,3,4,5,6,7,8]⟩] [0,0,3,7,0,0,48,112,255,511])
 .ret)
 .skip)))
 (Rg [Im 21 T5,Iq 22 (.bin .sub T21 (Ki 1)),Im 5 T22]))))))
 (Zq (Rg [Iq 4 (.mv Kf)])
 .ret))))
def ge241 : FE := ⟨41, y241, [.t 4]⟩
theorem oks241 : FOk Tryz.prog 241 ge241 := FOk.mk1 Tryz.func241
def y242:XC:=(Zq (Rg [Iq 4 (.mv (Ki 0))])
 (Zq (Zq (Rg [Im 5 T1,Im 6 T0,Iq 7 (.len false T6),Iq 8 (.bin .lss T5 T7)])
 (.cond T8 (Zq (Rg [Im 9 T0,Im 10 T1,Iq 11 (.iad 1 T9 T10),Iq 12 (Lo T11),Im 4 T12])
 .ret)
 .skip))
 (Zq (Rg [Iq 4 (.mv (Ki 0))])
 .ret)))
def ge242 : FE := ⟨13, y242, [.t 4]⟩
theorem oks242 : FOk Tryz.prog 242 ge242 := FOk.mk1 Tryz.func242
def y243:XC:=(Zq (Rg [Iq 2 (.mv (.k Zs))])
 (Zq (.block 0 (.loop (Zq (Zq (Rg [Im 3 T0,Iq 4 (.len false T3),Iq 5 (.bin .gtr T4 (Ki 0)),Im 6 T5,Iw 7 6 (.mv T0),Iw 8 6 (.mv T0),Iw 9 6 (.len false T8),Iw 10 6 (.bin .sub T9 (Ki 1)),Iw 11 6 (.iad 1 T7 T10),Iw 12 6 (Lo T11),Iw 13 6 (.bin .eql T12 (Ki 0)),Iq 14 (.pick T6 T13 Kf)])
 (.cond T14 .skip
 (.exit 0)))
 (.block 1 (Rg [Im 15 T0,Im 16 T0,Iq 17 (.len false T16),Iq 18 (.bin .sub T17 (Ki 1)),Iq 19 (.slc 1 T15 none (some T18)),Im 0 T19])))))
 (Zq (Rg [Im 20 T0,Im 2 T20])
 .ret)))
def ge243 : FE := ⟨21, y243, [.t 2]⟩
theorem oks243 : FOk Tryz.prog 243 ge243 := FOk.mk1 Tryz.func243
def y244:XC:=(Zq (Rg [Iq 2 (.mv Kf)])
 (Zq (Rg [Im 3 T0,Im 4 T0,Iq 5 (.bin .neq T3 T4),Im 2 T5])
 .ret))
def ge244 : FE := ⟨6, y244, [.t 2]⟩
theorem oks244 : FOk Tryz.prog 244 ge244 := FOk.mk1 Tryz.func244
def y245:XC:=(Zq (Rg [Iq 2 (.mv Kf)])
 (Zq (Rg [Im 3 T0,Im 4 T0,Iq 5 (.bin .neq T3 T4),Im 2 T5])
 .ret))
def ge245 : FE := ⟨6, y245, [.t 2]⟩
theorem oks245 : FOk Tryz.prog 245 ge245 := FOk.mk1 Tryz.func245
def y247:XC:=(Zq (Rg [Iq 4 (.mv (.k Zs))])
 (Zq (Rg [Im 13 T0,Iq 14 (.len false T13),Iq 15 (.bin .add T14 (Ki 1)),Iq 16 (.mksl 221 1 4 [(.int .u32 0)] T15 T15),Im 5 T16])
 (Zq (Rg [Iq 6 (.mv (.k (.int .u32 0)))])
 (Zq (Zq (Rg [Im 17 T0,Iq 18 (.len false T17),Iq 19 (.mv (Ki 0))])
 (.block 0 (.loop (Zq (Rg [Iq 20 (.bin .lss T19 T18)])
 (Zq (.cond T20 .skip
 (.exit 0))
 (Zq (.block 1 (Zq (Rg [Im 21 T19,Iq 22 (.iad 1 T17 T19),Iq 23 (Lo T22),Im 7 T21,Im 8 T23])
 (Zq (Rg [Im 25 T8,Im 26 T1,Iq 27 (.call 248 [T25,T26]),Im 24 T27,Iq 28 (.ext T24 0),Iq 29 (.ext T24 1),Im 9 T28,Im 10 T29])
 (Zq (Rg [Im 31 T10,Im 32 T6,Iq 33 (.call 219 [T31,T32,(.k (.int .u32 0))]),Im 30 T33,Iq 34 (.ext T30 0),Iq 35 (.ext T30 1),Im 11 T34,Im 12 T35])
 (Rg [Im 36 T5,Im 37 T7,Im 38 T11,Im 39 T9,Im 40 T12,Iq 41 (.bin .add T39 T40),Iq 42 (.iad 1 T36 T37),Is (.store 1 T42 T38),Im 6 T41])))))
 (Rg [Iq 43 (.bin .add T19 (Ki 1)),Im 19 T43])))))))
 (Zq (Rg [Im 44 T5,Im 45 T0,Iq 46 (.len false T45),Im 47 T6,Iq 48 (.iad 1 T44 T46),Is (.store 1 T48 T47)])
 (Zq (Rg [Im 49 T5,Iq 50 (.call 220 [T49]),Im 4 T50])
 .ret))))))
def ge247 : FE := ⟨51, y247, [.t 4]⟩
theorem oks247 : FOk Tryz.prog 247 ge247 := FOk.mk1 Tryz.func247
def y248:XC:=(Zq (Rg [Iq 4 (.mv (.k (.int .u32 0))),Iq 5 (.mv (.k (.int .u32 0)))])
 (Zq (Rg [Im 7 T0,Iq 8 (.cvi .u64 T7),Im 9 T1,Iq 10 (.cvi .u64 T9),Iq 11 (.bin .mul T8 T10),Im 6 T11])
 (Zq (Rg [Im 12 T6,Iq 13 (.bin .shr T12 (.k (.int .u64 32))),Iq 14 (.cvi .u32 T13),Im 15 T6,Iq 16 (.cvi .u32 T15),Im 4 T14,Im 5 T16])
 .ret)))
def ge248 : FE := ⟨17, y248, [.t 4, .t 5]⟩
theorem oks248 : FOk Tryz.prog 248 ge248 := FOk.mk1 Tryz.func248
def tS : List (Nat × FE) := [(5, ge5), (7, ge7), (9, ge9), (11, ge11), (13, ge13), (15, ge15), (17, ge17), (23, ge23), (24, ge24), (26, ge26), (28, ge28), (30, ge30), (31, ge31), (32, ge32), (33, ge33), (34, ge34), (35, ge35), (36, ge36), (37, ge37), (38, ge38), (39, ge39), (40, ge40), (41, ge41), (46, ge46), (48, ge48), (49, ge49), (50, ge50), (51, ge51), (53, ge53), (54, ge54), (55, ge55), (56, ge56), (57, ge57), (58, ge58), (59, ge59), (60, ge60), (61, ge61), (62, ge62), (63, ge63), (75, ge75), (76, ge76), (79, ge79), (80, ge80), (81, ge81), (82, ge82), (83, ge83), (84, ge84), (85, ge85), (86, ge86), (87, ge87), (88, ge88), (89, ge89), (90, ge90), (93, ge93), (94, ge94), (95, ge95), (98, ge98), (99, ge99), (100, ge100), (101, ge101), (102, ge102), (103, ge103), (104, ge104), (105, ge105), (106, ge106), (107, ge107), (108, ge108), (109, ge109), (110, ge110), (111, ge111), (113, ge113), (115, ge115), (116, ge116), (117, ge117), (118, ge118), (119, ge119), (120, ge120), (121, ge121), (122, ge122), (123, ge123), (124, ge124), (125, ge125), (126, ge126), (147, ge147), (148, ge148), (149, ge149), (150, ge150), (151, ge151), (152, ge152), (153, ge153), (154, ge154), (155, ge155), (156, ge156), (157, ge157), (159, ge159), (162, ge162), (166, ge166), (167, ge167), (168, ge168), (169, ge169), (170, ge170), (171, ge171), (172, ge172), (173, ge173), (174, ge174), (175, ge175), (176, ge176), (177, ge177), (178, ge178), (180, ge180), (207, ge207), (208, ge208), (209, ge209), (212, ge212), (213, ge213), (214, ge214), (215, ge215), (216, ge216), (217, ge217), (218, ge218), (219, ge219), (220, ge220), (221, ge221), (222, ge222), (223, ge223), (224, ge224), (225, ge225), (226, ge226), (232, ge232), (233, ge233), (234, ge234), (235, ge235), (236, ge236), (237, ge237), (238, ge238), (239, ge239), (240, ge240), (241, ge241), (242, ge242), (243, ge243), (244, ge244), (245, ge245), (247, ge247), (248, ge248)]
theorem tS_ok : TblOk Tryz.prog (mkT tS) := mkT_ok (aC oks5 (aC oks7 (aC oks9 (aC oks11 (aC oks13 (aC oks15 (aC oks17 (aC oks23 (aC oks24 (aC oks26 (aC oks28 (aC oks30 (aC oks31 (aC oks32 (aC oks33 (aC oks34 (aC oks35 (aC oks36 (aC oks37 (aC oks38 (aC oks39 (aC oks40 (aC oks41 (aC oks46 (aC oks48 (aC oks49 (aC oks50 (aC oks51 (aC oks53 (aC oks54 (aC oks55 (aC oks56 (aC oks57 (aC oks58 (aC oks59 (aC oks60 (aC oks61 (aC oks62 (aC oks63 (aC oks75 (aC oks76 (aC oks79 (aC oks80 (aC oks81 (aC oks82 (aC oks83 (aC oks84 (aC oks85 (aC oks86 (aC oks87 (aC oks88 (aC oks89 (aC oks90 (aC oks93 (aC oks94 (aC oks95 (aC oks98 (aC oks99 (aC oks100 (aC oks101 (aC oks102 (aC oks103 (aC oks104 (aC oks105 (aC oks106 (aC oks107 (aC oks108 (aC oks109 (aC oks110 (aC oks111 (aC oks113 (aC oks115 (aC oks116 (aC oks117 (aC oks118 (aC oks119 (aC oks120 (aC oks121 (aC oks122 (aC oks123 (aC oks124 (aC oks125 (aC oks126 (aC oks147 (aC oks148 (aC oks149 (aC oks150 (aC oks151 (aC oks152 (aC oks153 (aC oks154 (aC oks155 (aC oks156 (aC oks157 (aC oks159 (aC oks162 (aC oks166 (aC oks167 (aC oks168 (aC oks169 (aC oks170 (aC oks171 (aC oks172 (aC oks173 (aC oks174 (aC oks175 (aC oks176 (aC oks177 (aC oks178 (aC oks180 (aC oks207 (aC oks208 (aC oks209 (aC oks212 (aC oks213 (aC oks214 (aC oks215 (aC oks216 (aC oks217 (aC oks218 (aC oks219 (aC oks220 (aC oks221 (aC oks222 (aC oks223 (aC oks224 (aC oks225 (aC oks226 (aC oks232 (aC oks233 (aC oks234 (aC oks235 (aC oks236 (aC oks237 (aC oks238 (aC oks239 (aC oks240 (aC oks241 (aC oks242 (aC oks243 (aC oks244 (aC oks245 (aC oks247 (aC oks248 (fun p hp => absurd hp List.not_mem_nil)))))))))))))))))))))))))))))))))))))))))))))))))))))))))))))))))))))))))))))))))))))))))))))))))))))))))))))))))))))))))))))))))))))))))))))))))
theorem tS_get5 : (mkT tS).get 5 = some ge5 := by kernel_rfl
theorem tS_get7 : (mkT tS).get 7 = some ge7 := by kernel_rfl
theorem tS_get9 : (mkT tS).get 9 = some ge9 := by kernel_rfl
theorem tS_get11 : (mkT tS).get 11 = some ge11 := by kernel_rfl
theorem tS_get13 : (mkT tS).get 13 = some ge13 := by kernel_rfl
theorem tS_get15 : (mkT tS).get 15 = some ge15 := by kernel_rfl
theorem tS_get17 : (mkT tS).get 17 = some ge17 := by kernel_rfl
theorem tS_get23 : (mkT tS).get 23 = some ge23 := by kernel_rfl
theorem tS_get24 : (mkT tS).get 24 = some ge24 := by kernel_rfl
theorem tS_get26 : (mkT tS).get 26 = some ge26 := by kernel_rfl
theorem tS_get28 : (mkT tS).get 28 = some ge28 := by kernel_rfl
theorem tS_get30 : (mkT tS).get 30 = some ge30 := by kernel_rfl
theorem tS_get31 : (mkT tS).get 31 = some ge31 := by kernel_rfl
theorem tS_get32 : (mkT tS).get 32 = some ge32 := by kernel_rfl
theorem tS_get33 : (mkT tS).get 33 = some ge33 := by kernel_rfl
theorem tS_get34 : (mkT tS).get 34 = some ge34 := by kernel_rfl
theorem tS_get35 : (mkT tS).get 35 = some ge35 := by kernel_rfl
theorem tS_get36 : (mkT tS).get 36 = some ge36 := by kernel_rfl
theorem tS_get37 : (mkT tS).get 37 = some ge37 := by kernel_rfl
theorem tS_get38 : (mkT tS).get 38 = some ge38 := by kernel_rfl
theorem tS_get39 : (mkT tS).get 39 = some ge39 := by kernel_rfl
theorem tS_get40 : (mkT tS).get 40 = some ge40 := by kernel_rfl
theorem tS_get41 : (mkT tS).get 41 = some ge41 := by kernel_rfl
theorem tS_get46 : (mkT tS).get 46 = some ge46 := by kernel_rfl
theorem tS_get48 : (mkT tS).get 48 = some ge48 := by kernel_rfl
theorem tS_get49 : (mkT tS).get 49 = some ge49 := by kernel_rfl
theorem tS_get50 : (mkT tS).get 50 = some ge50 := by kernel_rfl
theorem tS_get51 : (mkT tS).get 51 = some ge51 := by kernel_rfl
theorem tS_get53 : (mkT tS).get 53 = some ge53 := by kernel_rfl
theorem tS_get54 : (mkT tS).get 54 = some ge54 := by kernel_rfl
theorem tS_get55 : (mkT tS).get 55 = some ge55 := by kernel_rfl
theorem tS_get56 : (mkT tS).get 56 = some ge56 := by kernel_rfl
theorem tS_get57 : (mkT tS).get 57 = some ge57 := by kernel_rfl
theorem tS_get58 : (mkT tS).get 58 = some ge58 := by kernel_rfl
theorem tS_get59 : (mkT tS).get 59 = some ge59 := by kernel_rfl
theorem tS_get60 : (mkT tS).get 60 = some ge60 := by kernel_rfl
theorem tS_get61 : (mkT tS).get 61 = some ge61 := by kernel_rfl
theorem tS_get62 : (mkT tS).get 62 = some ge62 := by kernel_rfl
theorem tS_get63 : (mkT tS).get 63 = some ge63 := by kernel_rfl
theorem tS_get75 : (mkT tS).get 75 = some ge75 := by kernel_rfl
theorem tS_get76 : (mkT tS).get 76 = some ge76 := by kernel_rfl
theorem tS_get79 : (mkT tS).get 79 = some ge79 := by kernel_rfl
theorem tS_get80 : (mkT tS).get 80 = some ge80 := by kernel_rfl
theorem tS_get81 : (mkT tS).get 81 = some ge81 := by kernel_rfl
theorem tS_get82 : (mkT tS).get 82 = some ge82 := by kernel_rfl
theorem tS_get83 : (mkT tS).get 83 = some ge83 := by kernel_rfl
theorem tS_get84 : (mkT tS).get 84 = some ge84 := by kernel_rfl
theorem tS_get85 : (mkT tS).get 85 = some ge85 := by kernel_rfl
theorem tS_get86 : (mkT tS).get 86 = some ge86 := by kernel_rfl
theorem tS_get87 : (mkT tS).get 87 = some ge87 := by kernel_rfl
theorem tS_get88 : (mkT tS).get 88 = some ge88 := by kernel_rfl
theorem tS_get89 : (mkT tS).get 89 = some ge89 := by kernel_rfl
theorem tS_get90 : (mkT tS).get 90 = some ge90 := by kernel_rfl
theorem tS_get93 : (mkT tS).get 93 = some ge93 := by kernel_rfl
theorem tS_get94 : (mkT tS).get 94 = some ge94 := by kernel_rfl
theorem tS_get95 : (mkT tS).get 95 = some ge95 := by kernel_rfl
theorem tS_get98 : (mkT tS).get 98 = some ge98 := by kernel_rfl
theorem tS_get99 : (mkT tS).get 99 = some ge99 := by kernel_rfl
theorem tS_get100 : (mkT tS).get 100 = some ge100 := by kernel_rfl
theorem tS_get101 : (mkT tS).get 101 = some ge101 := by kernel_rfl
theorem tS_get102 : (mkT tS).get 102 = some ge102 := by kernel_rfl
theorem tS_get103 : (mkT tS).get 103 = some ge103 := by kernel_rfl
theorem tS_get104 : (mkT tS).get 104 = some ge104 := by kernel_rfl
theorem tS_get105 : (mkT tS).get 105 = some ge105 := by kernel_rfl
theorem tS_get106 : (mkT tS).get 106 = some ge106 := by kernel_rfl
theorem tS_get107 : (mkT tS).get 107 = some ge107 := by kernel_rfl
theorem tS_get108 : (mkT tS).get 108 = some ge108 := by kernel_rfl
theorem tS_get109 : (mkT tS).get 109 = some ge109 := by kernel_rfl
theorem tS_get110 : (mkT tS).get 110 = some ge110 := by kernel_rfl
theorem tS_get111 : (mkT tS).get 111 = some ge111 := by kernel_rfl
theorem tS_get113 : (mkT tS).get 113 = some ge113 := by kernel_rfl
theorem tS_get115 : (mkT tS).get 115 = some ge115 := by kernel_rfl
theorem tS_get116 : (mkT tS).get 116 = some ge116 := by kernel_rfl
theorem tS_get117 : (mkT tS).get 117 = some ge117 := by kernel_rfl
theorem tS_get118 : (mkT tS).get 118 = some ge118 := by kernel_rfl
theorem tS_get119 : (mkT tS).get 119 = some ge119 := by kernel_rfl
theorem tS_get120 : (mkT tS).get 120 = some ge120 := by kernel_rfl
theorem tS_get121 : (mkT tS).get 121 = some ge121 := by kernel_rfl
theorem tS_get122 : (mkT tS).get 122 = some ge122 := by kernel_rfl
theorem tS_get123 : (mkT tS).get 123 = some ge123 := by kernel_rfl
theorem tS_get124 : (mkT tS).get 124 = some ge124 := by kernel_rfl
theorem tS_get125 : (mkT tS).get 125 = some ge125 := by kernel_rfl
theorem tS_get126 : (mkT tS).get 126 = some ge126 := by kernel_rfl
theorem tS_get147 : (mkT tS).get 147 = some ge147 := by kernel_rfl
theorem tS_get148 : (mkT tS).get 148 = some ge148 := by kernel_rfl
theorem tS_get149 : (mkT tS).get 149 = some ge149 := by kernel_rfl
theorem tS_get150 : (mkT tS).get 150 = some ge150 := by kernel_rfl
theorem tS_get151 : (mkT tS).get 151 = some ge151 := by kernel_rfl
theorem tS_get152 : (mkT tS).get 152 = some ge152 := by kernel_rfl
theorem tS_get153 : (mkT tS).get 153 = some ge153 := by kernel_rfl
theorem tS_get154 : (mkT tS).get 154 = some ge154 := by kernel_rfl
theorem tS_get155 : (mkT tS).get 155 = some ge155 := by kernel_rfl
theorem tS_get156 : (mkT tS).get 156 = some ge156 := by kernel_rfl
theorem tS_get157 : (mkT tS).get 157 = some ge157 := by kernel_rfl
theorem tS_get159 : (mkT tS).get 159 = some ge159 := by kernel_rfl
theorem tS_get162 : (mkT tS).get 162 = some ge162 := by kernel_rfl
theorem tS_get166 : (mkT tS).get 166 = some ge166 := by kernel_rfl
theorem tS_get167 : (mkT tS).get 167 = some ge167 := by kernel_rfl
theorem tS_get168 : (mkT tS).get 168 = some ge168 := by kernel_rfl
theorem tS_get169 : (mkT tS).get 169 = some ge169 := by kernel_rfl
theorem tS_get170 : (mkT tS).get 170 = some ge170 := by kernel_rfl
theorem tS_get171 : (mkT tS).get 171 = some ge171 := by kernel_rfl
theorem tS_get172 : (mkT tS).get 172 = some ge172 := by kernel_rfl
theorem tS_get173 : (mkT tS).get 173 = some ge173 := by kernel_rfl
theorem tS_get174 : (mkT tS).get 174 = some ge174 := by kernel_rfl
theorem tS_get175 : (mkT tS).get 175 = some ge175 := by kernel_rfl
theorem tS_get176 : (mkT tS).get 176 = some ge176 := by kernel_rfl
theorem tS_get177 : (mkT tS).get 177 = some ge177 := by kernel_rfl
theorem tS_get178 : (mkT tS).get 178 = some ge178 := by kernel_rfl
theorem tS_get180 : (mkT tS).get 180 = some ge180 := by kernel_rfl
theorem tS_get207 : (mkT tS).get 207 = some ge207 := by kernel_rfl
theorem tS_get208 : (mkT tS).get 208 = some ge208 := by kernel_rfl
theorem tS_get209 : (mkT tS).get 209 = some ge209 := by kernel_rfl
theorem tS_get212 : (mkT tS).get 212 = some ge212 := by kernel_rfl
theorem tS_get213 : (mkT tS).get 213 = some ge213 := by kernel_rfl
theorem tS_get214 : (mkT tS).get 214 = some ge214 := by kernel_rfl
theorem tS_get215 : (mkT tS).get 215 = some ge215 := by kernel_rfl
theorem tS_get216 : (mkT tS).get 216 = some ge216 := by kernel_rfl
theorem tS_get217 : (mkT tS).get 217 = some ge217 := by kernel_rfl
theorem tS_get218 : (mkT tS).get 218 = some ge218 := by kernel_rfl
theorem tS_get219 : (mkT tS).get 219 = some ge219 := by kernel_rfl
theorem tS_get220 : (mkT tS).get 220 = some ge220 := by kernel_rfl
theorem tS_get221 : (mkT tS).get 221 = some ge221 := by kernel_rfl
theorem tS_get222 : (mkT tS).get 222 = some ge222 := by kernel_rfl
theorem tS_get223 : (mkT tS).get 223 = some ge223 := by kernel_rfl
theorem tS_get224 : (mkT tS).get 224 = some ge224 := by kernel_rfl
theorem tS_get225 : (mkT tS).get 225 = some ge225 := by kernel_rfl
theorem tS_get226 : (mkT tS).get 226 = some ge226 := by kernel_rfl
theorem tS_get232 : (mkT tS).get 232 = some ge232 := by kernel_rfl
theorem tS_get233 : (mkT tS).get 233 = some ge233 := by kernel_rfl
theorem tS_get234 : (mkT tS).get 234 = some ge234 := by kernel_rfl
theorem tS_get235 : (mkT tS).get 235 = some ge235 := by kernel_rfl
theorem tS_get236 : (mkT tS).get 236 = some ge236 := by kernel_rfl
theorem tS_get237 : (mkT tS).get 237 = some ge237 := by kernel_rfl
theorem tS_get238 : (mkT tS).get 238 = some ge238 := by kernel_rfl
theorem tS_get239 : (mkT tS).get 239 = some ge239 := by kernel_rfl
theorem tS_get240 : (mkT tS).get 240 = some ge240 := by kernel_rfl
theorem tS_get241 : (mkT tS).get 241 = some ge241 := by kernel_rfl
theorem tS_get242 : (mkT tS).get 242 = some ge242 := by kernel_rfl
theorem tS_get243 : (mkT tS).get 243 = some ge243 := by kernel_rfl
theorem tS_get244 : (mkT tS).get 244 = some ge244 := by kernel_rfl
theorem tS_get245 : (mkT tS).get 245 = some ge245 := by kernel_rfl
theorem tS_get247 : (mkT tS).get 247 = some ge247 := by kernel_rfl
theorem tS_get248 : (mkT tS).get 248 = some ge248 := by kernel_rfl
theorem tS_none : (mkT tS).get 246 = none := by kernel_rfl
theorem tS_none2 : (mkT tS).get 158 = none := by kernel_rfl
abbrev E (k : Nat) : Call' := evF (mkT tS) (handG 246 221 (hIx 158)) K0 k
end Go.Proofs.YtcnpoojdochapaaGreatDoor
