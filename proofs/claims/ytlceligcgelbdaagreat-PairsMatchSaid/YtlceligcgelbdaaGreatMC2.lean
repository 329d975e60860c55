/- The code of the functions that are walked through, found in the program. -/
import Derived.Test.YtlceligcgelbdaaGreatChecked
import Derived.KernelRfl
import Derived.WalkKit
import Derived.Orders
import Derived.Test.YtlceligcgelbdaaGreatMA6
import Derived.Test.YtlceligcgelbdaaGreatMK4
set_option linter.unusedVariables false
set_option maxRecDepth 100000
set_option maxHeartbeats 4000000
namespace Go.Proofs.YtlceligcgelbdaaGreat
open Go.CE Go.RowKit
abbrev K0 : Nat := 18446744073709551616
theorem aC {P : Program} {f : Nat} {e : FE} {l : List (Nat × FE)} (h : lQ P f e) (g : ∀ p, p ∈ l → lQ P p.1 p.2) : ∀ p, p ∈ (f, e) :: l → lQ P p.1 p.2 := by
  intro p hp
  rcases List.mem_cons.1 hp with rfl | hp
  · exact h
  · exact g p hp
abbrev Iq (d : Nat) (o : mK) : I := ⟨some d, none, o⟩
abbrev Iv (d g : Nat) (o : mK) : I := ⟨some d, some (g, false), o⟩
abbrev Iw (d g : Nat) (o : mK) : I := ⟨some d, some (g, true), o⟩
abbrev Is (o : mK) : I := ⟨none, none, o⟩
abbrev Im (d : Nat) (x : Go.Eng.Od) : I := ⟨some d, none, .mv x⟩
abbrev Kf : Go.Eng.Od := .k (.bool false)
abbrev Kt : Go.Eng.Od := .k (.bool true)
abbrev Ki (n : Int) : Go.Eng.Od := .k (.int .i64 n)
abbrev Zf : Value := .bool false
abbrev Zs : Value := .slice none 0 0
abbrev Zi : Value := .int .i64 0
abbrev Ze : Value := .string ⟨#[]⟩
abbrev Zq (a b : XC) : XC := .seq a b
abbrev Rg (l : List I) : XC := .region l
abbrev Lt (s : Nat) (x : Go.Eng.Od) : mK := .load true s x
abbrev Lo (x : Go.Eng.Od) : mK := .load false 1 x
abbrev T0 : Go.Eng.Od := .t 0
abbrev T1 : Go.Eng.Od := .t 1
abbrev T2 : Go.Eng.Od := .t 2
abbrev T7 : Go.Eng.Od := .t 7
abbrev T8 : Go.Eng.Od := .t 8
abbrev T9 : Go.Eng.Od := .t 9
abbrev T10 : Go.Eng.Od := .t 10
abbrev T11 : Go.Eng.Od := .t 11
abbrev T12 : Go.Eng.Od := .t 12
abbrev T13 : Go.Eng.Od := .t 13
abbrev T14 : Go.Eng.Od := .t 14
abbrev T15 : Go.Eng.Od := .t 15
abbrev T16 : Go.Eng.Od := .t 16
abbrev T17 : Go.Eng.Od := .t 17
abbrev T18 : Go.Eng.Od := .t 18
abbrev T19 : Go.Eng.Od := .t 19
abbrev T20 : Go.Eng.Od := .t 20
abbrev T21 : Go.Eng.Od := .t 21
abbrev T22 : Go.Eng.Od := .t 22
abbrev T23 : Go.Eng.Od := .t 23
abbrev T24 : Go.Eng.Od := .t 24
abbrev T25 : Go.Eng.Od := .t 25
abbrev T26 : Go.Eng.Od := .t 26
abbrev T27 : Go.Eng.Od := .t 27
abbrev T28 : Go.Eng.Od := .t 28
abbrev T29 : Go.Eng.Od := .t 29
abbrev T30 : Go.Eng.Od := .t 30
abbrev T31 : Go.Eng.Od := .t 31
abbrev T32 : Go.Eng.Od := .t 32
abbrev T33 : Go.Eng.Od := .t 33
abbrev T34 : Go.Eng.Od := .t 34
abbrev T35 : Go.Eng.Od := .t 35
abbrev T36 : Go.Eng.Od := .t 36
abbrev T37 : Go.Eng.Od := .t 37
abbrev T38 : Go.Eng.Od := .t 38
abbrev T39 : Go.Eng.Od := .t 39
abbrev T40 : Go.Eng.Od := .t 40
abbrev T41 : Go.Eng.Od := .t 41
abbrev T42 : Go.Eng.Od := .t 42
abbrev T43 : Go.Eng.Od := .t 43
abbrev T44 : Go.Eng.Od := .t 44
abbrev T45 : Go.Eng.Od := .t 45
abbrev T46 : Go.Eng.Od := .t 46
abbrev T47 : Go.Eng.Od := .t 47
abbrev T48 : Go.Eng.Od := .t 48
abbrev T49 : Go.Eng.Od := .t 49
abbrev T50 : Go.Eng.Od := .t 50
abbrev T51 : Go.Eng.Od := .t 51
abbrev T52 : Go.Eng.Od := .t 52
abbrev T53 : Go.Eng.Od := .t 53
abbrev T54 : Go.Eng.Od := .t 54
abbrev T55 : Go.Eng.Od := .t 55
abbrev T56 : Go.Eng.Od := .t 56
abbrev T57 : Go.Eng.Od := .t 57
abbrev T58 : Go.Eng.Od := .t 58
abbrev T59 : Go.Eng.Od := .t 59
abbrev T60 : Go.Eng.Od := .t 60
abbrev T61 : Go.Eng.Od := .t 61
abbrev T62 : Go.Eng.Od := .t 62
abbrev T63 : Go.Eng.Od := .t 63
abbrev T64 : Go.Eng.Od := .t 64
abbrev T65 : Go.Eng.Od := .t 65
abbrev T66 : Go.Eng.Od := .t 66
abbrev T67 : Go.Eng.Od := .t 67
abbrev T68 : Go.Eng.Od := .t 68
abbrev T69 : Go.Eng.Od := .t 69
abbrev T70 : Go.Eng.Od := .t 70
abbrev T71 : Go.Eng.Od := .t 71
abbrev T72 : Go.Eng.Od := .t 72
abbrev T73 : Go.Eng.Od := .t 73
abbrev T74 : Go.Eng.Od := .t 74
abbrev T75 : Go.Eng.Od := .t 75
abbrev T76 : Go.Eng.Od := .t 76
abbrev T77 : Go.Eng.Od := .t 77
abbrev T78 : Go.Eng.Od := .t 78
abbrev T79 : Go.Eng.Od := .t 79
abbrev T80 : Go.Eng.Od := .t 80
abbrev T81 : Go.Eng.Od := .t 81
abbrev T82 : Go.Eng.Od := .t 82
abbrev T83 : Go.Eng.Od := .t 83
abbrev T84 : Go.Eng.Od := .t 84
abbrev T85 : Go.Eng.Od := .t 85
abbrev T86 : Go.Eng.Od := .t 86
abbrev T87 : Go.Eng.Od := .t 87
abbrev T88 : Go.Eng.Od := .t 88
abbrev T89 : Go.Eng.Od := .t 89
abbrev T90 : Go.Eng.Od := .t 90
abbrev T91 : Go.Eng.Od := .t 91
abbrev T92 : Go.Eng.Od := .t 92
abbrev T93 : Go.Eng.Od := .t 93
abbrev T94 : Go.Eng.Od := .t 94
abbrev T95 : Go.Eng.Od := .t 95
abbrev T96 : Go.Eng.Od := .t 96
abbrev T97 : Go.Eng.Od := .t 97
abbrev T98 : Go.Eng.Od := .t 98
abbrev T99 : Go.Eng.Od := .t 99
abbrev bW0 : Go.Eng.Od := .t 100
abbrev cBZ : Go.Eng.Od := .t 101
abbrev cAw : Go.Eng.Od := .t 102
abbrev bY8 : Go.Eng.Od := .t 103
abbrev cBD : Go.Eng.Od := .t 104
abbrev cAg : Go.Eng.Od := .t 105
abbrev bYY : Go.Eng.Od := .t 106
abbrev bWm : Go.Eng.Od := .t 107
abbrev bZo : Go.Eng.Od := .t 108
abbrev bVd : Go.Eng.Od := .t 109
abbrev cBB : Go.Eng.Od := .t 110
abbrev bUY : Go.Eng.Od := .t 111
abbrev cBz : Go.Eng.Od := .t 112
abbrev bVV : Go.Eng.Od := .t 113
abbrev bZ0 : Go.Eng.Od := .t 114
abbrev cAj : Go.Eng.Od := .t 115
abbrev bWM : Go.Eng.Od := .t 116
abbrev bXM : Go.Eng.Od := .t 117
abbrev bYy : Go.Eng.Od := .t 118
abbrev cCj : Go.Eng.Od := .t 119
abbrev cBP : Go.Eng.Od := .t 120
abbrev bVZ : Go.Eng.Od := .t 121
abbrev bWj : Go.Eng.Od := .t 122
abbrev cAB : Go.Eng.Od := .t 123
abbrev bXK : Go.Eng.Od := .t 124
abbrev cBe : Go.Eng.Od := .t 125
abbrev cBu : Go.Eng.Od := .t 126
abbrev bZ2 : Go.Eng.Od := .t 127
abbrev bYJ : Go.Eng.Od := .t 128
abbrev cCC : Go.Eng.Od := .t 129
abbrev cDl : Go.Eng.Od := .t 130
abbrev bYl : Go.Eng.Od := .t 131
abbrev cAJ : Go.Eng.Od := .t 132
abbrev cAK : Go.Eng.Od := .t 133
abbrev bUr : Go.Eng.Od := .t 134
abbrev bZ7 : Go.Eng.Od := .t 135
abbrev bVJ : Go.Eng.Od := .t 136
abbrev cB1 : Go.Eng.Od := .t 137
abbrev bYd : Go.Eng.Od := .t 138
abbrev cAZ : Go.Eng.Od := .t 139
abbrev bYw : Go.Eng.Od := .t 140
abbrev bZp : Go.Eng.Od := .t 141
abbrev bXb : Go.Eng.Od := .t 142
abbrev bVP : Go.Eng.Od := .t 143
abbrev cCc : Go.Eng.Od := .t 144
abbrev bXz : Go.Eng.Od := .t 145
abbrev bZJ : Go.Eng.Od := .t 146
abbrev cA7 : Go.Eng.Od := .t 147
abbrev bU0 : Go.Eng.Od := .t 148
abbrev cCS : Go.Eng.Od := .t 149
abbrev bXN : Go.Eng.Od := .t 150
abbrev cDd : Go.Eng.Od := .t 151
abbrev bZ8 : Go.Eng.Od := .t 152
abbrev bZm : Go.Eng.Od := .t 153
abbrev bXS : Go.Eng.Od := .t 154
abbrev cB7 : Go.Eng.Od := .t 155
abbrev bUs : Go.Eng.Od := .t 156
theorem lQ.mk3 {P : Program} {f : Nat} {fn : Func} {e : FE} (hf : P.funcs[f]? = some fn) (hn : fn.ntmps = e.n) (hb : fn.body.isSome = true) (hname : (fn.name != "runtime.NumGoroutine") = true) (hic : IC.ofS P e.n (fn.body.getD .skip) = e.x.ic) (hr : fn.results.toList.map (RR.of P) = e.ts.map some) (hok : e.x.ok = true) : lQ P f e := by
  obtain ⟨c, hc⟩ := Option.isSome_iff_exists.1 hb
  exact ⟨fn, c, hf, hn, hc, hname, by rw [hc] at hic; exact hic, hr, hok⟩
structure Fr (x : FE) where
  e : FE
  h : x = e
def Fr.m {x : FE} (e : FE) (h : x = e := by conv => lhs; reduce; simp only [Int.ofNat_eq_natCast, Int.cast_ofNat_Int]) : Fr x := ⟨e, h⟩
def ge7 : Fc Tryz.prog Tryz.f7 := .m _
theorem bXu : lQ Tryz.prog 7 ge7.e := ge7.ok Tryz.func7
def bKl : Fc Tryz.prog Tryz.f20 := .m _
theorem bTa : lQ Tryz.prog 20 bKl.e := bKl.ok Tryz.func20
def bKn : Fc Tryz.prog Tryz.f34 := .m _
theorem bR4 : lQ Tryz.prog 34 bKn.e := bKn.ok Tryz.func34
def bIU : Fc Tryz.prog Tryz.f37 := .m _
theorem bSo : lQ Tryz.prog 37 bIU.e := bIU.ok Tryz.func37
def bLY : Fc Tryz.prog Tryz.f39 := .m _
theorem bRo : lQ Tryz.prog 39 bLY.e := bLY.ok Tryz.func39
def bLQ : Fc Tryz.prog Tryz.f41 := .m _
theorem bRn : lQ Tryz.prog 41 bLQ.e := bLQ.ok Tryz.func41
def bLK : Fc Tryz.prog Tryz.f43 := .m _
theorem bRC : lQ Tryz.prog 43 bLK.e := bLK.ok Tryz.func43
def y44:XC:=(Zq (Rg [Iq 2 (.box 106 T0),Iq 4 (.mv (.k Zs)),Iq 5 (.mv (Ki 0)),Iq 6 (.mv (Ki 0))])
 (Zq (Zq (Rg [Im 13 T1,Iq 14 (.bin .lss T13 (Ki 0)),Im 15 T14,Iv 16 15 (.mv T1),Iv 17 15 (.fad 24 T2),Iv 18 15 (Lo T17),Iv 19 15 (.len false T18),Iv 20 15 (.bin .geq T16 T19),Iq 21 (.pick T15 Kt T20)])
 (.cond T21 (Zq (Rg [Iq 4 (.mv (.k Zs)),Iq 5 (.mv (Ki 0)),Iq 6 (.mv (Ki 2))])
 .ret)
 .skip))
 (Zq (Rg [Iq 22 (.fad 24 T2),Iq 23 (Lo T22),Im 24 T1,Iq 25 (.iad 6 T23 T24),Iq 26 (.fad 3 T25),Iq 27 (Lo T26),Im 7 T27])
 (Zq (Rg [Iq 8 (.mv (.k Zs))])
 (Zq (Zq (Rg [Iq 9 (.mv (Ki 0))])
 (.block 0 (.loop (Zq (Zq (Rg [Im 28 T9,Im 29 T7,Iq 30 (.len false T29),Iq 31 (.bin .lss T28 T30)])
 (.cond T31 .skip
 (.exit 0)))
 (Zq (.block 1 (Zq (Rg [Im 34 T7,Im 35 T9,Iq 36 (.call 94 [T34,T35]),Im 10 T36])
 (Zq (Zq (.draw [⟨Iq 37 (Lt 25 T2),[]⟩,⟨Im 38 T7,[]⟩,⟨Im 39 T9,[]⟩,⟨Iq 40 (.iad 10 T38 T39),[1,2]⟩,⟨Iq 41 (Lt 10 T40),[3]⟩,⟨Iq 42 (.call 95 [T37,T41]),[0,4]⟩,⟨Iq 43 (.un .not T42),[5]⟩,⟨Im 44 T43,[6,5]⟩,⟨Iv 45 44 (.mv T10),[7]⟩,⟨Iv 46 44 (.bin .lss T45 (Ki 0)),[8,7]⟩,⟨Iq 47 (.pick T44 Kt T46),[7,9]⟩,⟨Im 48 T47,[10,7]⟩,⟨Iv 49 48 (.mv T7),[11]⟩,⟨Iv 50 48 (.mv T9),[11]⟩,⟨Iv 51 48 (.iad 10 T49 T50),[12,13,11]⟩,⟨Iv 52 48 (Lt 10 T51),[14,11]⟩,⟨Iv 53 48 (.mv T7),[11]⟩,⟨Iv 54 48 (.mv T10),[11]⟩,⟨Iv 55 48 (.iad 10 T53 T54),[16,17,11]⟩,⟨Iv 56 48 (Lt 10 T55),[18,11]⟩,⟨Iv 57 48 (.call 96 [T52,T56]),[15,19,11,11]⟩,⟨Iv 58 48 (.un .not T57),[20,11]⟩,⟨Iq 59 (.pick T48 Kt T58),[11,21]⟩] [0,0,0,6,14,31,63,127,255,511,1023,2047,4095,4095,16383,32767,4095,4095,200703,462847,1048575,2097151,4194303])
 (.cond T59 (Zq (Rg [Im 60 T9,Iq 4 (.mv (.k Zs)),Im 5 T60,Iq 6 (.mv (Ki 200))])
 .ret)
 .skip))
 (Zq (Zq (Rg [Im 61 T7,Im 62 T9,Iq 63 (.iad 10 T61 T62),Iq 64 (.fad 0 T63),Iq 65 (Lo T64),Iq 66 (.un .not T65)])
 (.cond T66 (.exit 1)
 .skip))
 (Zq (Rg [Iq 67 (Lt 25 T2),Iq 68 (.call 97 [T67]),Im 11 T68])
 (Zq (.draw [⟨Im 69 T8,[]⟩,⟨Im 70 T7,[]⟩,⟨Im 71 T9,[]⟩,⟨Iq 72 (.iad 10 T70 T71),[1,2]⟩,⟨Iq 73 (.fad 1 T72),[3]⟩,⟨Iq 74 (Lo T73),[4]⟩,⟨Im 75 T7,[]⟩,⟨Im 76 T9,[]⟩,⟨Iq 77 (.iad 10 T75 T76),[6,7]⟩,⟨Iq 78 (.fad 2 T77),[8]⟩,⟨Iq 79 (Lo T78),[9]⟩,⟨Im 80 T11,[]⟩,⟨Im 81 T7,[]⟩,⟨Im 82 T9,[]⟩,⟨Iq 83 (.iad 10 T81 T82),[12,13]⟩,⟨Iq 84 (.fad 3 T83),[14]⟩,⟨Iq 85 (Lo T84),[15]⟩,⟨Iq 86 (.call 98 [T80,T85]),[11,16]⟩,⟨Im 87 T11,[]⟩,⟨Im 88 T7,[]⟩,⟨Im 89 T9,[]⟩,⟨Iq 90 (.iad 10 T88 T89),[19,20]⟩,⟨Iq 91 (.fad 4 T90),[21]⟩,⟨Iq 92 (Lo T91),[22]⟩,⟨Iq 93 (.call 98 [T87,T92]),[18,23,17]⟩,⟨Iq 94 (.fad 22 T2),[]⟩,⟨Iq 95 (Lo T94),[25]⟩,⟨Im 96 T7,[]⟩,⟨Im 97 T9,[]⟩,⟨Iq 98 (.iad 10 T96 T97),[27,28]⟩,⟨Iq 99 (.fad 5 T98),[29]⟩,⟨Iq 100 (Lo T99),[30]⟩,⟨Iq 101 (.call 99 [T95,bW0]),[26,31,24]⟩,⟨Iq 102 (.fad 22 T2),[]⟩,⟨Iq 103 (Lo cAw),[33]⟩,⟨Im 104 T7,[]⟩,⟨Im 105 T10,[]⟩,⟨Iq 106 (.iad 10 cBD cAg),[35,36]⟩,⟨Iq 107 (.fad 5 bYY),[37]⟩,⟨Iq 108 (Lo bWm),[38]⟩,⟨Iq 109 (.call 99 [bY8,bZo]),[34,39,32]⟩,⟨Im 110 T7,[]⟩,⟨Im 111 T9,[]⟩,⟨Iq 112 (.iad 10 cBB bUY),[41,42]⟩,⟨Iq 113 (.fad 6 cBz),[43]⟩,⟨Iq 114 (Lt 4 bVV),[44]⟩,⟨Iq 115 (.call 100 [bZ0]),[45,40]⟩,⟨Iq 116 (.build [Ze,(.int .u8 0),Zi,Zi,Zi,Zi,Zf,Zs,Zf,Zs] [(0,1,T74),(1,1,T79),(2,1,T86),(3,1,T93),(4,1,cBZ),(5,1,bVd),(6,4,cAj)]),[5,10,17,24,32,40,46]⟩,⟨Iq 117 (.bslice 123 10 1 [Ze,(.int .u8 0),Zi,Zi,Zi,Zi,Zf,Zs,Zf,Zs] [(0,bWM)]),[47]⟩,⟨Iq 118 (.app 123 10 120 [Ze,(.int .u8 0),Zi,Zi,Zi,Zi,Zf,Zs,Zf,Zs] T69 bXM),[0,48,46]⟩,⟨Im 8 bYy,[49,49,0,1,2,3,4,5,6,7,8,9,10,11,12,13,14,15,16,17,18,19,20,21,22,23,24,25,26,27,28,29,30,31,32,33,34,35,36,37,38,39,40,41,42,43,44,45,46,47,48,49]⟩] [0,0,0,6,14,30,0,0,192,448,960,0,0,0,12288,28672,61440,129024,0,0,0,1572864,3670016,7864320,16775168,0,33554432,0,0,402653184,939524096,2013265920,4294965248,0,8589934592,0,0,103079215104,240518168576,515396075520,1099511625728,0,0,6597069766656,15393162788864,32985348833280,70368744175616,140737488355326,281474976710654,562949953421311,1125899906842623])
 (Zq (Rg [Im 119 T8,Iq 120 (.len false cCj),Iq 121 (.bin .sub cBP (Ki 1)),Im 12 bVZ])
 (.block 2 (.loop (Zq (Zq (.draw [⟨Im 122 T12,[]⟩,⟨Iq 123 (.bin .gtr bWj (Ki 0)),[0]⟩,⟨Im 124 cAB,[1]⟩,⟨Iw 125 124 (.mv T8),[2]⟩,⟨Iw 126 124 (.mv T12),[2]⟩,⟨Iw 127 124 (.bin .sub cBu (Ki 1)),[4,2]⟩,⟨Iw 128 124 (.iad 10 cBe bZ2),[3,5,2]⟩,⟨Iw 129 124 (.fad 0 bYJ),[6,2]⟩,⟨Iw 130 124 (Lo cCC),[7,2]⟩,⟨Iw 131 124 (.mv T8),[2]⟩,⟨Iw 132 124 (.mv T12),[2]⟩,⟨Iw 133 124 (.iad 10 bYl cAJ),[9,10,2]⟩,⟨Iw 134 124 (.fad 0 cAK),[11,2]⟩,⟨Iw 135 124 (Lo bUr),[12,2]⟩,⟨Iw 136 124 (.bin .gtr cDl bZ7),[8,13,2]⟩,⟨Iq 137 (.pick bXK bVJ Kf),[2,14]⟩] [0,1,3,7,7,23,63,127,255,7,7,1543,3591,7687,16383,32767])
 (.cond cB1 .skip
 (.exit 2)))
 (Zq (.block 3 (.draw [⟨Im 140 T8,[]⟩,⟨Im 141 T12,[]⟩,⟨Iq 142 (.bin .sub bZp (Ki 1)),[1]⟩,⟨Im 143 T8,[]⟩,⟨Im 144 T12,[]⟩,⟨Im 145 T8,[]⟩,⟨Im 146 T12,[]⟩,⟨Iq 147 (.iad 10 bXz bZJ),[5,6]⟩,⟨Iq 148 (Lt 10 cA7),[7]⟩,⟨Im 149 T8,[]⟩,⟨Im 150 T12,[]⟩,⟨Iq 151 (.bin .sub bXN (Ki 1)),[10]⟩,⟨Iq 152 (.iad 10 cCS cDd),[9,11]⟩,⟨Iq 153 (Lt 10 bZ8),[12]⟩,⟨Iq 154 (.iad 10 bYw bXb),[0,2,0,1,2,5,6,7,8,13]⟩,⟨Is (.store 10 bXS bU0),[14,8,0,1,2,5,6,7,8,13]⟩,⟨Iq 155 (.iad 10 bVP cCc),[3,4,0,1,2,3,4,5,6,7,8,9,10,11,12,13,14,15]⟩,⟨Is (.store 10 cB7 bZm),[16,13,15,0,1,2,3,4,5,6,7,8,9,10,11,12,13,14,15]⟩] [0,0,2,0,0,0,0,96,224,0,0,1024,3584,7680,16359,32743,65535,131071]))
 (Rg [Im 138 T12,Iq 139 (.bin .sub bYd (Ki 1)),Im 12 cAZ]))))))))))))
 (Rg [Im 32 T9,Iq 33 (.bin .add T32 (Ki 1)),Im 9 T33]))))))
 (Zq (Rg [Im 156 T8,Im 4 bUs,Iq 5 (.mv (Ki 0)),Iq 6 (.mv (Ki 0))])
 .ret))))))
structure cCn where
  e : FE
def bQh : cCn := ⟨⟨157, y44, [.t 4, .t 5, .t 6]⟩⟩
theorem bSe : lQ Tryz.prog 44 bQh.e := lQ.mk3 Tryz.func44 rfl rfl rfl (by kernel_rfl) (by kernel_rfl) (by kernel_rfl)
def bLl : Fr bPi.fe := .m _
theorem bRx : lQ Tryz.prog 45 bLl.e := bLl.h ▸ bRm
def bIZ : Fc Tryz.prog Tryz.f46 := .m _
theorem bRz : lQ Tryz.prog 46 bIZ.e := bIZ.ok Tryz.func46
def bIT : Fc Tryz.prog Tryz.f47 := .m _
theorem bRl : lQ Tryz.prog 47 bIT.e := bIT.ok Tryz.func47
def bLo : Fc Tryz.prog Tryz.f50 := .m _
theorem bRY : lQ Tryz.prog 50 bLo.e := bLo.ok Tryz.func50
def bJP : Fc Tryz.prog Tryz.f52 := .m _
theorem bTH : lQ Tryz.prog 52 bJP.e := bJP.ok Tryz.func52
def bLg : Fc Tryz.prog Tryz.f61 := .m _
theorem bT2 : lQ Tryz.prog 61 bLg.e := bLg.ok Tryz.func61
def bKM : Fc Tryz.prog Tryz.f64 := .m _
theorem bRA : lQ Tryz.prog 64 bKM.e := bKM.ok Tryz.func64
def bKV : Fc Tryz.prog Tryz.f65 := .m _
theorem bRb : lQ Tryz.prog 65 bKV.e := bKV.ok Tryz.func65
def bL0 : Fc Tryz.prog Tryz.f73 := .m _
theorem bT6 : lQ Tryz.prog 73 bL0.e := bL0.ok Tryz.func73
def bJC : Fc Tryz.prog Tryz.f76 := .m _
theorem bR3 : lQ Tryz.prog 76 bJC.e := bJC.ok Tryz.func76
def bJ2 : Fc Tryz.prog Tryz.f83 := .m _
theorem bSH : lQ Tryz.prog 83 bJ2.e := bJ2.ok Tryz.func83
def bLb : Fc Tryz.prog Tryz.f84 := .m _
theorem bQU : lQ Tryz.prog 84 bLb.e := bLb.ok Tryz.func84
def bKD : Fc Tryz.prog Tryz.f85 := .m _
theorem bSJ : lQ Tryz.prog 85 bKD.e := bKD.ok Tryz.func85
def bJD : Fc Tryz.prog Tryz.f86 := .m _
theorem bQ7 : lQ Tryz.prog 86 bJD.e := bJD.ok Tryz.func86
def bKz : Fc Tryz.prog Tryz.f88 := .m _
theorem bSc : lQ Tryz.prog 88 bKz.e := bKz.ok Tryz.func88
def bI4 : Fc Tryz.prog Tryz.f89 := .m _
theorem bSZ : lQ Tryz.prog 89 bI4.e := bI4.ok Tryz.func89
def bJs : Fc Tryz.prog Tryz.f90 := .m _
theorem bR5 : lQ Tryz.prog 90 bJs.e := bJs.ok Tryz.func90
def bKy : Fc Tryz.prog Tryz.f91 := .m _
theorem bQ4 : lQ Tryz.prog 91 bKy.e := bKy.ok Tryz.func91
def bKf : Fc Tryz.prog Tryz.f93 := .m _
theorem bTT : lQ Tryz.prog 93 bKf.e := bKf.ok Tryz.func93
def bJM : Fc Tryz.prog Tryz.f94 := .m _
theorem bTl : lQ Tryz.prog 94 bJM.e := bJM.ok Tryz.func94
def bKK : Fc Tryz.prog Tryz.f95 := .m _
theorem bTR : lQ Tryz.prog 95 bKK.e := bKK.ok Tryz.func95
def bJk : Fc Tryz.prog Tryz.f96 := .m _
theorem bSx : lQ Tryz.prog 96 bJk.e := bJk.ok Tryz.func96
def bJN : Fc Tryz.prog Tryz.f97 := .m _
theorem bTj : lQ Tryz.prog 97 bJN.e := bJN.ok Tryz.func97
def bLx : Fc Tryz.prog Tryz.f98 := .m _
theorem bS0 : lQ Tryz.prog 98 bLx.e := bLx.ok Tryz.func98
def bJd : Fc Tryz.prog Tryz.f99 := .m _
theorem bTD : lQ Tryz.prog 99 bJd.e := bJd.ok Tryz.func99
def bAb : Fc Tryz.prog Tryz.f100 := .m _
theorem bM4 : lQ Tryz.prog 100 bAb.e := bAb.ok Tryz.func100
def bAH : Fc Tryz.prog Tryz.f101 := .m _
theorem bOt : lQ Tryz.prog 101 bAH.e := bAH.ok Tryz.func101
def bAk : Fc Tryz.prog Tryz.f102 := .m _
theorem bNY : lQ Tryz.prog 102 bAk.e := bAk.ok Tryz.func102
def bAi : Fc Tryz.prog Tryz.f103 := .m _
theorem bPe : lQ Tryz.prog 103 bAi.e := bAi.ok Tryz.func103
def aXO : Fc Tryz.prog Tryz.f104 := .m _
theorem bO0 : lQ Tryz.prog 104 aXO.e := aXO.ok Tryz.func104
def aY6 : Fc Tryz.prog Tryz.f105 := .m _
theorem bMY : lQ Tryz.prog 105 aY6.e := aY6.ok Tryz.func105
def aZD : Fc Tryz.prog Tryz.f109 := .m _
theorem bQA : lQ Tryz.prog 109 aZD.e := aZD.ok Tryz.func109
def aY2 : Fc Tryz.prog Tryz.f110 := .m _
theorem bOj : lQ Tryz.prog 110 aY2.e := aY2.ok Tryz.func110
def aYE : Fc Tryz.prog Tryz.f112 := .m _
theorem bPH : lQ Tryz.prog 112 aYE.e := aYE.ok Tryz.func112
def aYt : Fc Tryz.prog Tryz.f118 := .m _
theorem bNd : lQ Tryz.prog 118 aYt.e := aYt.ok Tryz.func118
def aX9 : Fc Tryz.prog Tryz.f127 := .m _
theorem bNp : lQ Tryz.prog 127 aX9.e := aX9.ok Tryz.func127
def bAr : Fc Tryz.prog Tryz.f128 := .m _
theorem bNL : lQ Tryz.prog 128 bAr.e := bAr.ok Tryz.func128
def aX7 : Fc Tryz.prog Tryz.f132 := .m _
theorem bOL : lQ Tryz.prog 132 aX7.e := aX7.ok Tryz.func132
def aZo : Fc Tryz.prog Tryz.f133 := .m _
theorem bPo : lQ Tryz.prog 133 aZo.e := aZo.ok Tryz.func133
def aYZ : Fc Tryz.prog Tryz.f134 := .m _
theorem bO7 : lQ Tryz.prog 134 aYZ.e := aYZ.ok Tryz.func134
def aZz : Fc Tryz.prog Tryz.f145 := .m _
theorem bM8 : lQ Tryz.prog 145 aZz.e := aZz.ok Tryz.func145
def aXQ : Fc Tryz.prog Tryz.f146 := .m _
theorem bP4 : lQ Tryz.prog 146 aXQ.e := aXQ.ok Tryz.func146
def aYS : Fc Tryz.prog Tryz.f148 := .m _
theorem bPQ : lQ Tryz.prog 148 aYS.e := aYS.ok Tryz.func148
def aY3 : Fc Tryz.prog Tryz.f149 := .m _
theorem bO6 : lQ Tryz.prog 149 aY3.e := aY3.ok Tryz.func149
def aYT : Fc Tryz.prog Tryz.f153 := .m _
theorem bN0 : lQ Tryz.prog 153 aYT.e := aYT.ok Tryz.func153
def aZy : Fc Tryz.prog Tryz.f163 := .m _
theorem bNw : lQ Tryz.prog 163 aZy.e := aZy.ok Tryz.func163
def aYf : Fc Tryz.prog Tryz.f164 := .m _
theorem bQa : lQ Tryz.prog 164 aYf.e := aYf.ok Tryz.func164
def bAC : Fc Tryz.prog Tryz.f165 := .m _
theorem bNn : lQ Tryz.prog 165 bAC.e := bAC.ok Tryz.func165
def aZj : Fc Tryz.prog Tryz.f166 := .m _
theorem bNH : lQ Tryz.prog 166 aZj.e := aZj.ok Tryz.func166
def aYn : Fc Tryz.prog Tryz.f167 := .m _
theorem bQz : lQ Tryz.prog 167 aYn.e := aYn.ok Tryz.func167
def bAM : Fc Tryz.prog Tryz.f169 := .m _
theorem bOy : lQ Tryz.prog 169 bAM.e := bAM.ok Tryz.func169
def aYP : Fc Tryz.prog Tryz.f170 := .m _
theorem bQp : lQ Tryz.prog 170 aYP.e := aYP.ok Tryz.func170
def aZS : Fc Tryz.prog Tryz.f171 := .m _
theorem bP2 : lQ Tryz.prog 171 aZS.e := aZS.ok Tryz.func171
def aYQ : Fc Tryz.prog Tryz.f172 := .m _
theorem bNs : lQ Tryz.prog 172 aYQ.e := aYQ.ok Tryz.func172
def aZV : Fc Tryz.prog Tryz.f173 := .m _
theorem bN3 : lQ Tryz.prog 173 aZV.e := aZV.ok Tryz.func173
def aX8 : Fc Tryz.prog Tryz.f174 := .m _
theorem bOk : lQ Tryz.prog 174 aX8.e := aX8.ok Tryz.func174
def aZ4 : Fc Tryz.prog Tryz.f175 := .m _
theorem bOD : lQ Tryz.prog 175 aZ4.e := aZ4.ok Tryz.func175
def bAp : Fc Tryz.prog Tryz.f183 := .m _
theorem bNZ : lQ Tryz.prog 183 bAp.e := bAp.ok Tryz.func183
def aYI : Fc Tryz.prog Tryz.f185 := .m _
theorem bPM : lQ Tryz.prog 185 aYI.e := aYI.ok Tryz.func185
def aZR : Fc Tryz.prog Tryz.f186 := .m _
theorem bPO : lQ Tryz.prog 186 aZR.e := aZR.ok Tryz.func186
def aZM : Fc Tryz.prog Tryz.f187 := .m _
theorem bNa : lQ Tryz.prog 187 aZM.e := aZM.ok Tryz.func187
def bAl : Fc Tryz.prog Tryz.f191 := .m _
theorem bP0 : lQ Tryz.prog 191 bAl.e := bAl.ok Tryz.func191
def bAf : Fc Tryz.prog Tryz.f192 := .m _
theorem bOX : lQ Tryz.prog 192 bAf.e := bAf.ok Tryz.func192
def aZA : Fc Tryz.prog Tryz.f210 := .m _
theorem bNt : lQ Tryz.prog 210 aZA.e := aZA.ok Tryz.func210
def aYu : Fc Tryz.prog Tryz.f211 := .m _
theorem bNW : lQ Tryz.prog 211 aYu.e := aYu.ok Tryz.func211
def aZX : Fc Tryz.prog Tryz.f212 := .m _
theorem bOf : lQ Tryz.prog 212 aZX.e := aZX.ok Tryz.func212
def aZb : Fc Tryz.prog Tryz.f213 := .m _
theorem bOe : lQ Tryz.prog 213 aZb.e := aZb.ok Tryz.func213
def aZn : Fc Tryz.prog Tryz.f214 := .m _
theorem bOd : lQ Tryz.prog 214 aZn.e := aZn.ok Tryz.func214
def aZk : Fc Tryz.prog Tryz.f215 := .m _
theorem bPG : lQ Tryz.prog 215 aZk.e := aZk.ok Tryz.func215
def aX5 : Fc Tryz.prog Tryz.f216 := .m _
theorem bOF : lQ Tryz.prog 216 aX5.e := aX5.ok Tryz.func216
def aYy : Fc Tryz.prog Tryz.f217 := .m _
theorem bOM : lQ Tryz.prog 217 aYy.e := aYy.ok Tryz.func217
def aZT : Fc Tryz.prog Tryz.f218 := .m _
theorem bNx : lQ Tryz.prog 218 aZT.e := aZT.ok Tryz.func218
def aZU : Fc Tryz.prog Tryz.f219 := .m _
theorem bN9 : lQ Tryz.prog 219 aZU.e := aZU.ok Tryz.func219
def aYl : Fc Tryz.prog Tryz.f220 := .m _
theorem bOJ : lQ Tryz.prog 220 aYl.e := aYl.ok Tryz.func220
def bAm : Fc Tryz.prog Tryz.f233 := .m _
theorem bPj : lQ Tryz.prog 233 bAm.e := bAm.ok Tryz.func233
def aYd : Fc Tryz.prog Tryz.f234 := .m _
theorem bNm : lQ Tryz.prog 234 aYd.e := aYd.ok Tryz.func234
def aYe : Fc Tryz.prog Tryz.f236 := .m _
theorem bOo : lQ Tryz.prog 236 aYe.e := aYe.ok Tryz.func236
def aYV : Fc Tryz.prog Tryz.f237 := .m _
theorem bPu : lQ Tryz.prog 237 aYV.e := aYV.ok Tryz.func237
def bAe : Fc Tryz.prog Tryz.f240 := .m _
theorem bPr : lQ Tryz.prog 240 bAe.e := bAe.ok Tryz.func240
def aXX : Fc Tryz.prog Tryz.f241 := .m _
theorem bP8 : lQ Tryz.prog 241 aXX.e := aXX.ok Tryz.func241
def bAF : Fc Tryz.prog Tryz.f242 := .m _
theorem bOK : lQ Tryz.prog 242 bAF.e := bAF.ok Tryz.func242
def aZQ : Fc Tryz.prog Tryz.f243 := .m _
theorem bNr : lQ Tryz.prog 243 aZQ.e := aZQ.ok Tryz.func243
def aYo : Fc Tryz.prog Tryz.f246 := .m _
theorem bNX : lQ Tryz.prog 246 aYo.e := aYo.ok Tryz.func246
def bAv : Fc Tryz.prog Tryz.f247 := .m _
theorem bPS : lQ Tryz.prog 247 bAv.e := bAv.ok Tryz.func247
def bAj : Fc Tryz.prog Tryz.f248 := .m _
theorem bPt : lQ Tryz.prog 248 bAj.e := bAj.ok Tryz.func248
def bAx : Fc Tryz.prog Tryz.f249 := .m _
theorem bNE : lQ Tryz.prog 249 bAx.e := bAx.ok Tryz.func249
def aZ0 : Fc Tryz.prog Tryz.f258 := .m _
theorem bPR : lQ Tryz.prog 258 aZ0.e := aZ0.ok Tryz.func258
def bAI : Fc Tryz.prog Tryz.f265 := .m _
theorem bM6 : lQ Tryz.prog 265 bAI.e := bAI.ok Tryz.func265
def bAy : Fc Tryz.prog Tryz.f266 := .m _
theorem bN5 : lQ Tryz.prog 266 bAy.e := bAy.ok Tryz.func266
def aZK : Fc Tryz.prog Tryz.f267 := .m _
theorem bP6 : lQ Tryz.prog 267 aZK.e := aZK.ok Tryz.func267
def aY9 : Fc Tryz.prog Tryz.f268 := .m _
theorem bPU : lQ Tryz.prog 268 aY9.e := aY9.ok Tryz.func268
def aZh : Fc Tryz.prog Tryz.f269 := .m _
theorem bP5 : lQ Tryz.prog 269 aZh.e := aZh.ok Tryz.func269
def aZ9 : Fc Tryz.prog Tryz.f270 := .m _
theorem bOq : lQ Tryz.prog 270 aZ9.e := aZ9.ok Tryz.func270
def aXR : Fc Tryz.prog Tryz.f271 := .m _
theorem bNM : lQ Tryz.prog 271 aXR.e := aXR.ok Tryz.func271
def bAo : Fc Tryz.prog Tryz.f272 := .m _
theorem bNC : lQ Tryz.prog 272 bAo.e := bAo.ok Tryz.func272
def bAc : Fc Tryz.prog Tryz.f273 := .m _
theorem bNk : lQ Tryz.prog 273 bAc.e := bAc.ok Tryz.func273
def aZp : Fc Tryz.prog Tryz.f277 := .m _
theorem bM2 : lQ Tryz.prog 277 aZp.e := aZp.ok Tryz.func277
def aYv : Fc Tryz.prog Tryz.f278 := .m _
theorem bQl : lQ Tryz.prog 278 aYv.e := aYv.ok Tryz.func278
def aYa : Fc Tryz.prog Tryz.f279 := .m _
theorem bPm : lQ Tryz.prog 279 aYa.e := aYa.ok Tryz.func279
def aYr : Fc Tryz.prog Tryz.f280 := .m _
theorem bQC : lQ Tryz.prog 280 aYr.e := aYr.ok Tryz.func280
def aX6 : Fc Tryz.prog Tryz.f281 := .m _
theorem bM5 : lQ Tryz.prog 281 aX6.e := aX6.ok Tryz.func281
def aYB : Fc Tryz.prog Tryz.f291 := .m _
theorem bOz : lQ Tryz.prog 291 aYB.e := aYB.ok Tryz.func291
def bAK : Fc Tryz.prog Tryz.f297 := .m _
theorem bOi : lQ Tryz.prog 297 bAK.e := bAK.ok Tryz.func297
def bAA : Fc Tryz.prog Tryz.f298 := .m _
theorem bQc : lQ Tryz.prog 298 bAA.e := bAA.ok Tryz.func298
def aZC : Fc Tryz.prog Tryz.f299 := .m _
theorem bPk : lQ Tryz.prog 299 aZC.e := aZC.ok Tryz.func299
def aZI : Fc Tryz.prog Tryz.f300 := .m _
theorem bPc : lQ Tryz.prog 300 aZI.e := aZI.ok Tryz.func300
def bAn : Fc Tryz.prog Tryz.f301 := .m _
theorem bNh : lQ Tryz.prog 301 bAn.e := bAn.ok Tryz.func301
def aYz : Fc Tryz.prog Tryz.f302 := .m _
theorem bO5 : lQ Tryz.prog 302 aYz.e := aYz.ok Tryz.func302
def bAE : Fc Tryz.prog Tryz.f303 := .m _
theorem bNU : lQ Tryz.prog 303 bAE.e := bAE.ok Tryz.func303
def aZd : Fc Tryz.prog Tryz.f304 := .m _
theorem bOc : lQ Tryz.prog 304 aZd.e := aZd.ok Tryz.func304
def aZs : Fc Tryz.prog Tryz.f305 := .m _
theorem bN6 : lQ Tryz.prog 305 aZs.e := aZs.ok Tryz.func305
def bAt : Fc Tryz.prog Tryz.f306 := .m _
theorem bQb : lQ Tryz.prog 306 bAt.e := bAt.ok Tryz.func306
def aZa : Fc Tryz.prog Tryz.f307 := .m _
theorem bPZ : lQ Tryz.prog 307 aZa.e := aZa.ok Tryz.func307
def bAD : Fc Tryz.prog Tryz.f308 := .m _
theorem bN4 : lQ Tryz.prog 308 bAD.e := bAD.ok Tryz.func308
def aZW : Fc Tryz.prog Tryz.f313 := .m _
theorem bNG : lQ Tryz.prog 313 aZW.e := aZW.ok Tryz.func313
def aYR : Fc Tryz.prog Tryz.f314 := .m _
theorem bOx : lQ Tryz.prog 314 aYR.e := aYR.ok Tryz.func314
def aYJ : Fc Tryz.prog Tryz.f315 := .m _
theorem bOs : lQ Tryz.prog 315 aYJ.e := aYJ.ok Tryz.func315
def bAz : Fc Tryz.prog Tryz.f316 := .m _
theorem bQq : lQ Tryz.prog 316 bAz.e := bAz.ok Tryz.func316
def aYk : Fc Tryz.prog Tryz.f317 := .m _
theorem bO1 : lQ Tryz.prog 317 aYk.e := aYk.ok Tryz.func317
def bAL : Fc Tryz.prog Tryz.f318 := .m _
theorem bNB : lQ Tryz.prog 318 bAL.e := bAL.ok Tryz.func318
def aXT : Fc Tryz.prog Tryz.f319 := .m _
theorem bPg : lQ Tryz.prog 319 aXT.e := aXT.ok Tryz.func319
def aYN : Fc Tryz.prog Tryz.f322 := .m _
theorem bNv : lQ Tryz.prog 322 aYN.e := aYN.ok Tryz.func322
def aYW : Fc Tryz.prog Tryz.f323 := .m _
theorem bQk : lQ Tryz.prog 323 aYW.e := aYW.ok Tryz.func323
def tS : List (Nat × FE) := [(7, ge7.e), (20, bKl.e), (34, bKn.e), (37, bIU.e), (39, bLY.e), (41, bLQ.e), (43, bLK.e), (44, bQh.e), (45, bLl.e), (46, bIZ.e), (47, bIT.e), (50, bLo.e), (52, bJP.e), (61, bLg.e), (64, bKM.e), (65, bKV.e), (73, bL0.e), (76, bJC.e), (83, bJ2.e), (84, bLb.e), (85, bKD.e), (86, bJD.e), (88, bKz.e), (89, bI4.e), (90, bJs.e), (91, bKy.e), (93, bKf.e), (94, bJM.e), (95, bKK.e), (96, bJk.e), (97, bJN.e), (98, bLx.e), (99, bJd.e), (100, bAb.e), (101, bAH.e), (102, bAk.e), (103, bAi.e), (104, aXO.e), (105, aY6.e), (109, aZD.e), (110, aY2.e), (112, aYE.e), (118, aYt.e), (127, aX9.e), (128, bAr.e), (132, aX7.e), (133, aZo.e), (134, aYZ.e), (145, aZz.e), (146, aXQ.e), (148, aYS.e), (149, aY3.e), (153, aYT.e), (163, aZy.e), (164, aYf.e), (165, bAC.e), (166, aZj.e), (167, aYn.e), (169, bAM.e), (170, aYP.e), (171, aZS.e), (172, aYQ.e), (173, aZV.e), (174, aX8.e), (175, aZ4.e), (183, bAp.e), (185, aYI.e), (186, aZR.e), (187, aZM.e), (191, bAl.e), (192, bAf.e), (210, aZA.e), (211, aYu.e), (212, aZX.e), (213, aZb.e), (214, aZn.e), (215, aZk.e), (216, aX5.e), (217, aYy.e), (218, aZT.e), (219, aZU.e), (220, aYl.e), (233, bAm.e), (234, aYd.e), (236, aYe.e), (237, aYV.e), (240, bAe.e), (241, aXX.e), (242, bAF.e), (243, aZQ.e), (246, aYo.e), (247, bAv.e), (248, bAj.e), (249, bAx.e), (258, aZ0.e), (265, bAI.e), (266, bAy.e), (267, aZK.e), (268, aY9.e), (269, aZh.e), (270, aZ9.e), (271, aXR.e), (272, bAo.e), (273, bAc.e), (277, aZp.e), (278, aYv.e), (279, aYa.e), (280, aYr.e), (281, aX6.e), (291, aYB.e), (297, bAK.e), (298, bAA.e), (299, aZC.e), (300, aZI.e), (301, bAn.e), (302, aYz.e), (303, bAE.e), (304, aZd.e), (305, aZs.e), (306, bAt.e), (307, aZa.e), (308, bAD.e), (313, aZW.e), (314, aYR.e), (315, aYJ.e), (316, bAz.e), (317, aYk.e), (318, bAL.e), (319, aXT.e), (322, aYN.e), (323, aYW.e)]
theorem bSi : aDP Tryz.prog (pM tS) := aEs (aC bXu (aC bTa (aC bR4 (aC bSo (aC bRo (aC bRn (aC bRC (aC bSe (aC bRx (aC bRz (aC bRl (aC bRY (aC bTH (aC bT2 (aC bRA (aC bRb (aC bT6 (aC bR3 (aC bSH (aC bQU (aC bSJ (aC bQ7 (aC bSc (aC bSZ (aC bR5 (aC bQ4 (aC bTT (aC bTl (aC bTR (aC bSx (aC bTj (aC bS0 (aC bTD (aC bM4 (aC bOt (aC bNY (aC bPe (aC bO0 (aC bMY (aC bQA (aC bOj (aC bPH (aC bNd (aC bNp (aC bNL (aC bOL (aC bPo (aC bO7 (aC bM8 (aC bP4 (aC bPQ (aC bO6 (aC bN0 (aC bNw (aC bQa (aC bNn (aC bNH (aC bQz (aC bOy (aC bQp (aC bP2 (aC bNs (aC bN3 (aC bOk (aC bOD (aC bNZ (aC bPM (aC bPO (aC bNa (aC bP0 (aC bOX (aC bNt (aC bNW (aC bOf (aC bOe (aC bOd (aC bPG (aC bOF (aC bOM (aC bNx (aC bN9 (aC bOJ (aC bPj (aC bNm (aC bOo (aC bPu (aC bPr (aC bP8 (aC bOK (aC bNr (aC bNX (aC bPS (aC bPt (aC bNE (aC bPR (aC bM6 (aC bN5 (aC bP6 (aC bPU (aC bP5 (aC bOq (aC bNM (aC bNC (aC bNk (aC bM2 (aC bQl (aC bPm (aC bQC (aC bM5 (aC bOz (aC bOi (aC bQc (aC bPk (aC bPc (aC bNh (aC bO5 (aC bNU (aC bOc (aC bN6 (aC bQb (aC bPZ (aC bN4 (aC bNG (aC bOx (aC bOs (aC bQq (aC bO1 (aC bNB (aC bPg (aC bNv (aC bQk (fun p hp => absurd hp List.not_mem_nil))))))))))))))))))))))))))))))))))))))))))))))))))))))))))))))))))))))))))))))))))))))))))))))))))))))))))))))))))))))))))))))))))))
theorem bL3 : (pM tS).get 7 = some ge7.e := by kernel_rfl
theorem bHJ : (pM tS).get 20 = some bKl.e := by kernel_rfl
theorem bGF : (pM tS).get 34 = some bKn.e := by kernel_rfl
theorem bIk : (pM tS).get 37 = some bIU.e := by kernel_rfl
theorem bEN : (pM tS).get 39 = some bLY.e := by kernel_rfl
theorem bEf : (pM tS).get 41 = some bLQ.e := by kernel_rfl
theorem bEg : (pM tS).get 43 = some bLK.e := by kernel_rfl
theorem bDX : (pM tS).get 44 = some bQh.e := by kernel_rfl
theorem bGH : (pM tS).get 45 = some bLl.e := by kernel_rfl
theorem bDT : (pM tS).get 46 = some bIZ.e := by kernel_rfl
theorem bDR : (pM tS).get 47 = some bIT.e := by kernel_rfl
theorem bGi : (pM tS).get 50 = some bLo.e := by kernel_rfl
theorem bGy : (pM tS).get 52 = some bJP.e := by kernel_rfl
theorem bEj : (pM tS).get 61 = some bLg.e := by kernel_rfl
theorem bFm : (pM tS).get 64 = some bKM.e := by kernel_rfl
theorem bEL : (pM tS).get 65 = some bKV.e := by kernel_rfl
theorem bEV : (pM tS).get 73 = some bL0.e := by kernel_rfl
theorem bIh : (pM tS).get 76 = some bJC.e := by kernel_rfl
theorem bGo : (pM tS).get 83 = some bJ2.e := by kernel_rfl
theorem bEz : (pM tS).get 84 = some bLb.e := by kernel_rfl
theorem bDY : (pM tS).get 85 = some bKD.e := by kernel_rfl
theorem bD0 : (pM tS).get 86 = some bJD.e := by kernel_rfl
theorem bGl : (pM tS).get 88 = some bKz.e := by kernel_rfl
theorem bGV : (pM tS).get 89 = some bI4.e := by kernel_rfl
theorem bFj : (pM tS).get 90 = some bJs.e := by kernel_rfl
theorem bEI : (pM tS).get 91 = some bKy.e := by kernel_rfl
theorem bFs : (pM tS).get 93 = some bKf.e := by kernel_rfl
theorem bEO : (pM tS).get 94 = some bJM.e := by kernel_rfl
theorem bHA : (pM tS).get 95 = some bKK.e := by kernel_rfl
theorem bFG : (pM tS).get 96 = some bJk.e := by kernel_rfl
theorem bHU : (pM tS).get 97 = some bJN.e := by kernel_rfl
theorem bG6 : (pM tS).get 98 = some bLx.e := by kernel_rfl
theorem bEU : (pM tS).get 99 = some bJd.e := by kernel_rfl
theorem bDx : (pM tS).get 100 = some bAb.e := by kernel_rfl
theorem bBp : (pM tS).get 101 = some bAH.e := by kernel_rfl
theorem bBd : (pM tS).get 102 = some bAk.e := by kernel_rfl
theorem bDq : (pM tS).get 103 = some bAi.e := by kernel_rfl
theorem bDn : (pM tS).get 104 = some aXO.e := by kernel_rfl
theorem bBt : (pM tS).get 105 = some aY6.e := by kernel_rfl
theorem bBi : (pM tS).get 109 = some aZD.e := by kernel_rfl
theorem bDF : (pM tS).get 110 = some aY2.e := by kernel_rfl
theorem bDG : (pM tS).get 112 = some aYE.e := by kernel_rfl
theorem bBh : (pM tS).get 118 = some aYt.e := by kernel_rfl
theorem bBX : (pM tS).get 127 = some aX9.e := by kernel_rfl
theorem bBx : (pM tS).get 128 = some bAr.e := by kernel_rfl
theorem bDk : (pM tS).get 132 = some aX7.e := by kernel_rfl
theorem bAQ : (pM tS).get 133 = some aZo.e := by kernel_rfl
theorem bDr : (pM tS).get 134 = some aYZ.e := by kernel_rfl
theorem bA8 : (pM tS).get 145 = some aZz.e := by kernel_rfl
theorem bCV : (pM tS).get 146 = some aXQ.e := by kernel_rfl
theorem bBz : (pM tS).get 148 = some aYS.e := by kernel_rfl
theorem bCp : (pM tS).get 149 = some aY3.e := by kernel_rfl
theorem bDb : (pM tS).get 153 = some aYT.e := by kernel_rfl
theorem bA5 : (pM tS).get 163 = some aZy.e := by kernel_rfl
theorem bB8 : (pM tS).get 164 = some aYf.e := by kernel_rfl
theorem bAY : (pM tS).get 165 = some bAC.e := by kernel_rfl
theorem bB2 : (pM tS).get 166 = some aZj.e := by kernel_rfl
theorem bBv : (pM tS).get 167 = some aYn.e := by kernel_rfl
theorem bDl : (pM tS).get 169 = some bAM.e := by kernel_rfl
theorem bBK : (pM tS).get 170 = some aYP.e := by kernel_rfl
theorem bBC : (pM tS).get 171 = some aZS.e := by kernel_rfl
theorem bDB : (pM tS).get 172 = some aYQ.e := by kernel_rfl
theorem bBc : (pM tS).get 173 = some aZV.e := by kernel_rfl
theorem bCa : (pM tS).get 174 = some aX8.e := by kernel_rfl
theorem bBn : (pM tS).get 175 = some aZ4.e := by kernel_rfl
theorem bBg : (pM tS).get 183 = some bAp.e := by kernel_rfl
theorem bBr : (pM tS).get 185 = some aYI.e := by kernel_rfl
theorem bCN : (pM tS).get 186 = some aZR.e := by kernel_rfl
theorem Wb : (pM tS).get 187 = some aZM.e := by kernel_rfl
theorem bCE : (pM tS).get 191 = some bAl.e := by kernel_rfl
theorem aTt : (pM tS).get 192 = some bAf.e := by kernel_rfl
theorem bBW : (pM tS).get 210 = some aZA.e := by kernel_rfl
theorem bCh : (pM tS).get 211 = some aYu.e := by kernel_rfl
theorem bCq : (pM tS).get 212 = some aZX.e := by kernel_rfl
theorem bAR : (pM tS).get 213 = some aZb.e := by kernel_rfl
theorem bDw : (pM tS).get 214 = some aZn.e := by kernel_rfl
theorem bCd : (pM tS).get 215 = some aZk.e := by kernel_rfl
theorem bDH : (pM tS).get 216 = some aX5.e := by kernel_rfl
theorem bAX : (pM tS).get 217 = some aYy.e := by kernel_rfl
theorem bCS : (pM tS).get 218 = some aZT.e := by kernel_rfl
theorem bBQ : (pM tS).get 219 = some aZU.e := by kernel_rfl
theorem bBf : (pM tS).get 220 = some aYl.e := by kernel_rfl
theorem bBo : (pM tS).get 233 = some bAm.e := by kernel_rfl
theorem bAP : (pM tS).get 234 = some aYd.e := by kernel_rfl
theorem bCu : (pM tS).get 236 = some aYe.e := by kernel_rfl
theorem bDD : (pM tS).get 237 = some aYV.e := by kernel_rfl
theorem bCB : (pM tS).get 240 = some bAe.e := by kernel_rfl
theorem bBI : (pM tS).get 241 = some aXX.e := by kernel_rfl
theorem bDt : (pM tS).get 242 = some bAF.e := by kernel_rfl
theorem bA2 : (pM tS).get 243 = some aZQ.e := by kernel_rfl
theorem bCr : (pM tS).get 246 = some aYo.e := by kernel_rfl
theorem bCL : (pM tS).get 247 = some bAv.e := by kernel_rfl
theorem bBu : (pM tS).get 248 = some bAj.e := by kernel_rfl
theorem bBY : (pM tS).get 249 = some bAx.e := by kernel_rfl
theorem bDv : (pM tS).get 258 = some aZ0.e := by kernel_rfl
theorem bB0 : (pM tS).get 265 = some bAI.e := by kernel_rfl
theorem bAZ : (pM tS).get 266 = some bAy.e := by kernel_rfl
theorem bCO : (pM tS).get 267 = some aZK.e := by kernel_rfl
theorem bDs : (pM tS).get 268 = some aY9.e := by kernel_rfl
theorem bCb : (pM tS).get 269 = some aZh.e := by kernel_rfl
theorem bBA : (pM tS).get 270 = some aZ9.e := by kernel_rfl
theorem bCW : (pM tS).get 271 = some aXR.e := by kernel_rfl
theorem bCx : (pM tS).get 272 = some bAo.e := by kernel_rfl
theorem bCg : (pM tS).get 273 = some bAc.e := by kernel_rfl
theorem bBE : (pM tS).get 277 = some aZp.e := by kernel_rfl
theorem bBa : (pM tS).get 278 = some aYv.e := by kernel_rfl
theorem bCU : (pM tS).get 279 = some aYa.e := by kernel_rfl
theorem bB5 : (pM tS).get 280 = some aYr.e := by kernel_rfl
theorem bDE : (pM tS).get 281 = some aX6.e := by kernel_rfl
theorem bDh : (pM tS).get 291 = some aYB.e := by kernel_rfl
theorem bDz : (pM tS).get 297 = some bAK.e := by kernel_rfl
theorem bBm : (pM tS).get 298 = some bAA.e := by kernel_rfl
theorem bBG : (pM tS).get 299 = some aZC.e := by kernel_rfl
theorem bCI : (pM tS).get 300 = some aZI.e := by kernel_rfl
theorem bA4 : (pM tS).get 301 = some bAn.e := by kernel_rfl
theorem aTr : (pM tS).get 302 = some aYz.e := by kernel_rfl
theorem bDf : (pM tS).get 303 = some bAE.e := by kernel_rfl
theorem bCJ : (pM tS).get 304 = some aZd.e := by kernel_rfl
theorem bCc : (pM tS).get 305 = some aZs.e := by kernel_rfl
theorem bDm : (pM tS).get 306 = some bAt.e := by kernel_rfl
theorem bDu : (pM tS).get 307 = some aZa.e := by kernel_rfl
theorem bDe : (pM tS).get 308 = some bAD.e := by kernel_rfl
theorem bCk : (pM tS).get 313 = some aZW.e := by kernel_rfl
theorem bDc : (pM tS).get 314 = some aYR.e := by kernel_rfl
theorem bC8 : (pM tS).get 315 = some aYJ.e := by kernel_rfl
theorem bA9 : (pM tS).get 316 = some bAz.e := by kernel_rfl
theorem bDd : (pM tS).get 317 = some aYk.e := by kernel_rfl
theorem bCF : (pM tS).get 318 = some bAL.e := by kernel_rfl
theorem bCC : (pM tS).get 319 = some aXT.e := by kernel_rfl
theorem bC5 : (pM tS).get 322 = some aYN.e := by kernel_rfl
theorem bC6 : (pM tS).get 323 = some aYW.e := by kernel_rfl
theorem bDW : (pM tS).get 184 = none := by kernel_rfl
theorem bFO : (pM tS).get 106 = none := by kernel_rfl
theorem bLu : (pM tS).get 321 = none := by kernel_rfl
noncomputable abbrev E (k : Nat) : iJ := evF (pM tS) (aBD 321 117 (aAd 184 (Uw 106 107 h1))) K0 k
end Go.Proofs.YtlceligcgelbdaaGreat
