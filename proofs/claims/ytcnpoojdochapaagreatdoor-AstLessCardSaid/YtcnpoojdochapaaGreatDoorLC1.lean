/- The code of the functions that are walked through (1). -/
import Derived.Test.YtcnpoojdochapaaGreatDoorChecked
import Derived.KernelRfl
import Derived.WalkKit
import Derived.Orders
import Derived.Test.YtcnpoojdochapaaGreatDoorLA5
set_option linter.unusedVariables false
set_option maxRecDepth 100000
namespace Go.Proofs.YtcnpoojdochapaaGreatDoor
open Go.CE Go.RowKit
abbrev K0 : Nat := 18446744073709551616
abbrev Iq (d : Nat) (o : Ins) : I := ⟨some d, none, o⟩
abbrev Iv (d g : Nat) (o : Ins) : I := ⟨some d, some (g, false), o⟩
abbrev Iw (d g : Nat) (o : Ins) : I := ⟨some d, some (g, true), o⟩
abbrev Is (o : Ins) : I := ⟨none, none, o⟩
abbrev Im (d : Nat) (x : Go.Eng.Od) : I := ⟨some d, none, .mv x⟩
abbrev Kf : Go.Eng.Od := .k (.bool false)
abbrev Kt : Go.Eng.Od := .k (.bool true)
abbrev Ki (n : Int) : Go.Eng.Od := .k (.int .i64 n)
abbrev Zf : Value := .bool false
abbrev Zs : Value := .slice none 0 0
abbrev Zi : Value := .int .i64 0
abbrev Ze : Value := .string ⟨#[]⟩
abbrev Zq (a b : XC) : XC := .seq a b
abbrev Rg (l : List I) : XC := .region l
abbrev Lt (s : Nat) (x : Go.Eng.Od) : Ins := .load true s x
abbrev Lo (x : Go.Eng.Od) : Ins := .load false 1 x
abbrev T0 : Go.Eng.Od := .t 0
abbrev T1 : Go.Eng.Od := .t 1
abbrev T2 : Go.Eng.Od := .t 2
abbrev T3 : Go.Eng.Od := .t 3
abbrev T4 : Go.Eng.Od := .t 4
abbrev T5 : Go.Eng.Od := .t 5
abbrev T6 : Go.Eng.Od := .t 6
abbrev T7 : Go.Eng.Od := .t 7
abbrev T8 : Go.Eng.Od := .t 8
abbrev T9 : Go.Eng.Od := .t 9
abbrev T10 : Go.Eng.Od := .t 10
abbrev T11 : Go.Eng.Od := .t 11
abbrev T12 : Go.Eng.Od := .t 12
abbrev T13 : Go.Eng.Od := .t 13
abbrev T14 : Go.Eng.Od := .t 14
abbrev T15 : Go.Eng.Od := .t 15
abbrev T16 : Go.Eng.Od := .t 16
abbrev T17 : Go.Eng.Od := .t 17
abbrev T18 : Go.Eng.Od := .t 18
abbrev T19 : Go.Eng.Od := .t 19
abbrev T20 : Go.Eng.Od := .t 20
abbrev T21 : Go.Eng.Od := .t 21
abbrev T22 : Go.Eng.Od := .t 22
abbrev T23 : Go.Eng.Od := .t 23
abbrev T24 : Go.Eng.Od := .t 24
abbrev T25 : Go.Eng.Od := .t 25
abbrev T26 : Go.Eng.Od := .t 26
abbrev T27 : Go.Eng.Od := .t 27
abbrev T28 : Go.Eng.Od := .t 28
abbrev T29 : Go.Eng.Od := .t 29
abbrev T30 : Go.Eng.Od := .t 30
abbrev T31 : Go.Eng.Od := .t 31
abbrev T32 : Go.Eng.Od := .t 32
abbrev T33 : Go.Eng.Od := .t 33
abbrev T34 : Go.Eng.Od := .t 34
abbrev T35 : Go.Eng.Od := .t 35
abbrev T36 : Go.Eng.Od := .t 36
abbrev T37 : Go.Eng.Od := .t 37
abbrev T38 : Go.Eng.Od := .t 38
abbrev T39 : Go.Eng.Od := .t 39
abbrev T40 : Go.Eng.Od := .t 40
abbrev T41 : Go.Eng.Od := .t 41
abbrev T42 : Go.Eng.Od := .t 42
abbrev T43 : Go.Eng.Od := .t 43
abbrev T44 : Go.Eng.Od := .t 44
abbrev T45 : Go.Eng.Od := .t 45
abbrev T46 : Go.Eng.Od := .t 46
abbrev T47 : Go.Eng.Od := .t 47
abbrev T48 : Go.Eng.Od := .t 48
abbrev T49 : Go.Eng.Od := .t 49
abbrev T50 : Go.Eng.Od := .t 50
abbrev T51 : Go.Eng.Od := .t 51
abbrev T52 : Go.Eng.Od := .t 52
abbrev T53 : Go.Eng.Od := .t 53
abbrev T54 : Go.Eng.Od := .t 54
abbrev T55 : Go.Eng.Od := .t 55
abbrev T56 : Go.Eng.Od := .t 56
abbrev T57 : Go.Eng.Od := .t 57
abbrev T58 : Go.Eng.Od := .t 58
abbrev T59 : Go.Eng.Od := .t 59
abbrev T60 : Go.Eng.Od := .t 60
abbrev T61 : Go.Eng.Od := .t 61
abbrev T62 : Go.Eng.Od := .t 62
abbrev T63 : Go.Eng.Od := .t 63
abbrev T64 : Go.Eng.Od := .t 64
abbrev T65 : Go.Eng.Od := .t 65
abbrev T66 : Go.Eng.Od := .t 66
abbrev T67 : Go.Eng.Od := .t 67
abbrev T68 : Go.Eng.Od := .t 68
abbrev T69 : Go.Eng.Od := .t 69
abbrev T70 : Go.Eng.Od := .t 70
abbrev T71 : Go.Eng.Od := .t 71
abbrev T72 : Go.Eng.Od := .t 72
abbrev T73 : Go.Eng.Od := .t 73
abbrev T74 : Go.Eng.Od := .t 74
abbrev T75 : Go.Eng.Od := .t 75
abbrev T76 : Go.Eng.Od := .t 76
abbrev T77 : Go.Eng.Od := .t 77
abbrev T78 : Go.Eng.Od := .t 78
abbrev T79 : Go.Eng.Od := .t 79
abbrev T80 : Go.Eng.Od := .t 80
abbrev T81 : Go.Eng.Od := .t 81
abbrev T82 : Go.Eng.Od := .t 82
abbrev T83 : Go.Eng.Od := .t 83
abbrev T84 : Go.Eng.Od := .t 84
abbrev T85 : Go.Eng.Od := .t 85
abbrev T86 : Go.Eng.Od := .t 86
abbrev T87 : Go.Eng.Od := .t 87
abbrev T88 : Go.Eng.Od := .t 88
abbrev T89 : Go.Eng.Od := .t 89
abbrev T90 : Go.Eng.Od := .t 90
abbrev T91 : Go.Eng.Od := .t 91
abbrev T92 : Go.Eng.Od := .t 92
abbrev T93 : Go.Eng.Od := .t 93
abbrev T94 : Go.Eng.Od := .t 94
abbrev T95 : Go.Eng.Od := .t 95
abbrev T96 : Go.Eng.Od := .t 96
abbrev T97 : Go.Eng.Od := .t 97
abbrev T98 : Go.Eng.Od := .t 98
abbrev T99 : Go.Eng.Od := .t 99
abbrev T100 : Go.Eng.Od := .t 100
abbrev T101 : Go.Eng.Od := .t 101
abbrev T102 : Go.Eng.Od := .t 102
abbrev T103 : Go.Eng.Od := .t 103
abbrev T104 : Go.Eng.Od := .t 104
abbrev T105 : Go.Eng.Od := .t 105
abbrev T106 : Go.Eng.Od := .t 106
abbrev T107 : Go.Eng.Od := .t 107
abbrev T108 : Go.Eng.Od := .t 108
abbrev T109 : Go.Eng.Od := .t 109
abbrev T110 : Go.Eng.Od := .t 110
abbrev T111 : Go.Eng.Od := .t 111
abbrev T112 : Go.Eng.Od := .t 112
abbrev T113 : Go.Eng.Od := .t 113
abbrev T114 : Go.Eng.Od := .t 114
abbrev T115 : Go.Eng.Od := .t 115
abbrev T116 : Go.Eng.Od := .t 116
abbrev T117 : Go.Eng.Od := .t 117
abbrev T118 : Go.Eng.Od := .t 118
abbrev T119 : Go.Eng.Od := .t 119
abbrev T120 : Go.Eng.Od := .t 120
abbrev T121 : Go.Eng.Od := .t 121
abbrev T122 : Go.Eng.Od := .t 122
abbrev T123 : Go.Eng.Od := .t 123
abbrev T124 : Go.Eng.Od := .t 124
abbrev T125 : Go.Eng.Od := .t 125
abbrev T126 : Go.Eng.Od := .t 126
abbrev T127 : Go.Eng.Od := .t 127
abbrev T128 : Go.Eng.Od := .t 128
abbrev T129 : Go.Eng.Od := .t 129
abbrev T130 : Go.Eng.Od := .t 130
abbrev T131 : Go.Eng.Od := .t 131
abbrev T132 : Go.Eng.Od := .t 132
abbrev T133 : Go.Eng.Od := .t 133
abbrev T134 : Go.Eng.Od := .t 134
abbrev T135 : Go.Eng.Od := .t 135
abbrev T136 : Go.Eng.Od := .t 136
abbrev T137 : Go.Eng.Od := .t 137
abbrev T138 : Go.Eng.Od := .t 138
abbrev T139 : Go.Eng.Od := .t 139
abbrev T140 : Go.Eng.Od := .t 140
abbrev T141 : Go.Eng.Od := .t 141
abbrev T142 : Go.Eng.Od := .t 142
abbrev T143 : Go.Eng.Od := .t 143
abbrev T144 : Go.Eng.Od := .t 144
abbrev T145 : Go.Eng.Od := .t 145
abbrev T146 : Go.Eng.Od := .t 146
abbrev T147 : Go.Eng.Od := .t 147
abbrev T148 : Go.Eng.Od := .t 148
abbrev T149 : Go.Eng.Od := .t 149
abbrev T150 : Go.Eng.Od := .t 150
abbrev T151 : Go.Eng.Od := .t 151
abbrev T152 : Go.Eng.Od := .t 152
abbrev T153 : Go.Eng.Od := .t 153
abbrev T154 : Go.Eng.Od := .t 154
abbrev T155 : Go.Eng.Od := .t 155
abbrev T156 : Go.Eng.Od := .t 156
abbrev T157 : Go.Eng.Od := .t 157
abbrev T158 : Go.Eng.Od := .t 158
abbrev T160 : Go.Eng.Od := .t 160
abbrev T161 : Go.Eng.Od := .t 161
abbrev T162 : Go.Eng.Od := .t 162
abbrev T163 : Go.Eng.Od := .t 163
abbrev T164 : Go.Eng.Od := .t 164
abbrev T165 : Go.Eng.Od := .t 165
abbrev T166 : Go.Eng.Od := .t 166
abbrev T167 : Go.Eng.Od := .t 167
abbrev T168 : Go.Eng.Od := .t 168
abbrev T169 : Go.Eng.Od := .t 169
abbrev T170 : Go.Eng.Od := .t 170
abbrev T171 : Go.Eng.Od := .t 171
abbrev T172 : Go.Eng.Od := .t 172
abbrev T173 : Go.Eng.Od := .t 173
abbrev T174 : Go.Eng.Od := .t 174
abbrev T175 : Go.Eng.Od := .t 175
abbrev T176 : Go.Eng.Od := .t 176
abbrev T177 : Go.Eng.Od := .t 177
abbrev T178 : Go.Eng.Od := .t 178
abbrev T179 : Go.Eng.Od := .t 179
abbrev T180 : Go.Eng.Od := .t 180
abbrev T181 : Go.Eng.Od := .t 181
abbrev T182 : Go.Eng.Od := .t 182
abbrev T183 : Go.Eng.Od := .t 183
abbrev T184 : Go.Eng.Od := .t 184
abbrev T185 : Go.Eng.Od := .t 185
abbrev T186 : Go.Eng.Od := .t 186
theorem FOk.mk1 {P : Program} {f : Nat} {fn : Func} {e : FE} (hf : P.funcs[f]? = some fn) (hn : fn.ntmps = e.n := by rfl) (hb : fn.body.isSome = true := by rfl) (hname : (fn.name != "runtime.NumGoroutine") = true := by rfl)
    (hic : IC.ofS P e.n (fn.body.getD .skip) = e.x.ic := by kernel_rfl) (hr : fn.results.toList.map (RR.of P) = e.ts.map some := by kernel_rfl) (hok : e.x.ok = true := by kernel_rfl) : FOk P f e := by
  obtain ⟨c, hc⟩ := Option.isSome_iff_exists.1 hb
  exact ⟨fn, c, hf, hn, hc, hname, by rw [hc] at hic; exact hic, hr, hok⟩
theorem aC {P : Program} {f : Nat} {e : FE} {l : List (Nat × FE)} (h : FOk P f e) (g : ∀ p, p ∈ l → FOk P p.1 p.2) : ∀ p, p ∈ (f, e) :: l → FOk P p.1 p.2 := by
  intro p hp
  rcases List.mem_cons.1 hp with rfl | hp
  · exact h
  · exact g p hp
def y5:XC:=(Zq (Rg [Iq 1 (.box 41 T0),Iq 2 (.mv Kf)])
 (Zq (Zq (Rg [Iq 18 (Lt 25 T1),Iq 19 (.call 15 [T18]),Iq 20 (.un .not T19)])
 (.cond T20 (Zq (Rg [Iq 21 (.call 7 []),Im 2 T21])
 .ret)
 .skip))
 (Zq (Rg [Iq 23 (Lt 25 T1),Iq 24 (.call 17 [T23]),Im 22 T24,Iq 25 (.ext T22 0),Iq 26 (.ext T22 1),Iq 3 (.alloc 50 [(.int .u8 0),Zi,Zi]),Is (.store 3 T3 T25),Im 4 T26])
 (Zq (Zq (Rg [Im 27 T4,Iq 28 (.bin .neq T27 (Ki 0))])
 (.cond T28 (Zq (Rg [Im 29 T4,Iq 30 (.bin .eql T29 (Ki 2)),Im 31 T30,Iv 32 31 (.mv T4),Iv 33 31 (.bin .eql T32 (Ki 3)),Iq 34 (.pick T31 Kt T33),Im 35 T34,Iw 36 35 (.fad 0 T3),Iw 37 35 (Lo T36),Iw 38 35 (.bin .geq T37 (.k (.int .u8 1))),Iq 39 (.pick T35 T38 Kf),Im 40 T39,Iw 41 40 (.fad 0 T3),Iw 42 40 (Lo T41),Iw 43 40 (.bin .leq T42 (.k (.int .u8 11))),Iq 44 (.pick T40 T43 Kf),Im 45 T44,Iw 46 45 (.fad 2 T3),Iw 47 45 (Lo T46),Iw 48 45 (.bin .geq T47 (Ki 0)),Iq 49 (.pick T45 T48 Kf),Im 50 T49,Iw 51 50 (.fad 1 T3),Iw 52 50 (Lo T51),Iw 53 50 (.bin .geq T52 (.k (.int .i64 (-1)))),Iq 54 (.pick T50 T53 Kf),Im 55 T54,Iw 56 55 (.call 7 []),Iq 57 (.pick T55 T56 Kf),Im 2 T57])
 .ret)
 .skip))
 (Zq (Rg [Iq 58 (Lt 25 T1),Iq 59 (Lt 25 T1),Iq 60 (Lt 25 T1),Iq 61 (Lt 25 T1),Iq 62 (.bslice 41 25 4 [Ze,Ze,Zs,Zf,Zs,Zf,Zs,Zf,Zs,Zf,Zs,Zi,Zi,Zf,Zs,Zf,Zs,Zf,Zs,Zf,Zs,Zi,Zs,Zs,Zs] [(0,T58),(1,T59),(2,T60),(3,T61)]),Im 5 T62])
 (Zq (.draw [⟨Im 63 T5,[]⟩,⟨Iq 64 (.iad 25 T63 (Ki 0)),[0]⟩,⟨Iq 65 (Lt 25 T64),[1]⟩,⟨Im 66 T5,[]⟩,⟨Iq 67 (.iad 25 T66 (Ki 1)),[3]⟩,⟨Iq 68 (Lt 25 T67),[4]⟩,⟨Im 69 T5,[]⟩,⟨Iq 70 (.iad 25 T69 (Ki 2)),[6]⟩,⟨Iq 71 (Lt 25 T70),[7]⟩,⟨Im 72 T5,[]⟩,⟨Iq 73 (.iad 25 T72 (Ki 3)),[9]⟩,⟨Iq 74 (Lt 25 T73),[10]⟩,⟨Iq 6 (.alloc 41 [Ze,Ze,Zs,Zf,Zs,Zf,Zs,Zf,Zs,Zf,Zs,Zi,Zi,Zf,Zs,Zf,Zs,Zf,Zs,Zf,Zs,Zi,Zs,Zs,Zs]),[]⟩,⟨Iq 7 (.alloc 41 [Ze,Ze,Zs,Zf,Zs,Zf,Zs,Zf,Zs,Zf,Zs,Zi,Zi,Zf,Zs,Zf,Zs,Zf,Zs,Zf,Zs,Zi,Zs,Zs,Zs]),[]⟩,⟨Iq 8 (.alloc 41 [Ze,Ze,Zs,Zf,Zs,Zf,Zs,Zf,Zs,Zf,Zs,Zi,Zi,Zf,Zs,Zf,Zs,Zf,Zs,Zf,Zs,Zi,Zs,Zs,Zs]),[]⟩,⟨Iq 9 (.alloc 41 [Ze,Ze,Zs,Zf,Zs,Zf,Zs,Zf,Zs,Zf,Zs,Zi,Zi,Zf,Zs,Zf,Zs,Zf,Zs,Zf,Zs,Zi,Zs,Zs,Zs]),[]⟩,⟨Is (.store 25 T6 T65),[12,2,0,1,2,12,13,14,15]⟩,⟨Is (.store 25 T7 T68),[13,5,16,0,1,2,3,4,5,12,13,14,15,16]⟩,⟨Is (.store 25 T8 T71),[14,8,17,0,1,2,3,4,5,6,7,8,12,13,14,15,16,17]⟩,⟨Is (.store 25 T9 T74),[15,11,18,0,1,2,3,4,5,6,7,8,9,10,11,12,13,14,15,16,17,18]⟩] [0,1,3,0,8,24,0,64,192,0,512,1536,0,0,0,0,61447,127039,258559,524287])
 (Zq (Rg [Iq 75 (.fad 24 T6),Iq 76 (Lo T75),Iq 77 (.fad 24 T6),Iq 78 (Lo T77),Iq 79 (.len false T78),Iq 80 (.bin .sub T79 (Ki 1)),Iq 81 (.mx false (Ki 0) T80),Iq 82 (.slc 6 T76 none (some T81)),Iq 83 (.fad 24 T6),Is (.store 1 T83 T82)])
 (Zq (Rg [Iq 84 (.fad 23 T7),Iq 85 (Lo T84),Iq 86 (.fad 23 T7),Iq 87 (Lo T86),Iq 88 (.len false T87),Iq 89 (.bin .sub T88 (Ki 1)),Iq 90 (.mx false (Ki 0) T89),Iq 91 (.slc 1 T85 none (some T90)),Iq 92 (.fad 23 T7),Is (.store 1 T92 T91)])
 (Zq (Rg [Iq 93 (.fad 22 T8),Iq 94 (Lo T93),Iq 95 (.fad 22 T8),Iq 96 (Lo T95),Iq 97 (.len false T96),Iq 98 (.bin .sub T97 (Ki 1)),Iq 99 (.mx false (Ki 0) T98),Iq 100 (.slc 6 T94 none (some T99)),Iq 101 (.fad 22 T8),Is (.store 1 T101 T100)])
 (Zq (Rg [Iq 102 (.fad 2 T9),Iq 103 (Lo T102),Iq 104 (.fad 2 T9),Iq 105 (Lo T104),Iq 106 (.len false T105),Iq 107 (.bin .sub T106 (Ki 1)),Iq 108 (.mx false (Ki 0) T107),Iq 109 (.slc 8 T103 none (some T108)),Iq 110 (.fad 2 T9),Is (.store 1 T110 T109)])
 (Zq (Rg [Iq 112 (Lt 25 T6),Iq 113 (.call 17 [T112]),Im 111 T113,Iq 114 (.ext T111 0),Iq 115 (.ext T111 1),Iq 10 (.alloc 50 [(.int .u8 0),Zi,Zi]),Is (.store 3 T10 T114),Im 11 T115])
 (Zq (Rg [Iq 117 (Lt 25 T7),Iq 118 (.call 17 [T117]),Im 116 T118,Iq 119 (.ext T116 0),Iq 120 (.ext T116 1),Iq 12 (.alloc 50 [(.int .u8 0),Zi,Zi]),Is (.store 3 T12 T119),Im 13 T120])
 (Zq (Rg [Iq 122 (Lt 25 T8),Iq 123 (.call 17 [T122]),Im 121 T123,Iq 124 (.ext T121 0),Iq 125 (.ext T121 1),Iq 14 (.alloc 50 [(.int .u8 0),Zi,Zi]),Is (.store 3 T14 T124),Im 15 T125])
 (Zq (Rg [Iq 127 (Lt 25 T9),Iq 128 (.call 17 [T127]),Im 126 T128,Iq 129 (.ext T126 0),Iq 130 (.ext T126 1),Iq 16 (.alloc 50 [(.int .u8 0),Zi,Zi]),Is (.store 3 T16 T129),Im 17 T130])
 (Zq (Rg [Im 131 T11,Iq 132 (.bin .eql T131 (Ki 0)),Im 133 T132,Iw 134 133 (.mv T13),Iw 135 133 (.bin .eql T134 (Ki 0)),Iq 136 (.pick T133 T135 Kf),Im 137 T136,Iw 138 137 (.mv T15),Iw 139 137 (.bin .eql T138 (Ki 0)),Iq 140 (.pick T137 T139 Kf),Im 141 T140,Iw 142 141 (.mv T17),Iw 143 141 (.bin .eql T142 (Ki 0)),Iq 144 (.pick T141 T143 Kf),Im 145 T144,Iw 146 145 (.call 7 []),Iq 147 (.pick T145 T146 Kf),Im 2 T147])
 .ret)))))))))))))))
def ge5 : FE := ⟨148, y5, [.t 2]⟩
theorem oks5 : FOk Tryz.prog 5 ge5 := FOk.mk1 Tryz.func5
def y7:XC:=(Zq (Rg [Iq 0 (.mv Kf)])
 (Zq (Rg [Iq 4 (.call 30 []),Iq 5 (.call 17 [T4]),Im 3 T5,Iq 6 (.ext T3 0),Iq 7 (.ext T3 1),Iq 1 (.alloc 50 [(.int .u8 0),Zi,Zi]),Is (.store 3 T1 T6),Im 2 T7])
 (Zq (Rg [Iq 8 (.call 9 [(.k (.string ⟨#[97,45,49]⟩))]),Im 9 T8,Iw 10 9 (.call 9 [(.k (.string ⟨#[49,97]⟩))]),Iw 11 9 (.un .not T10),Iq 12 (.pick T9 T11 Kf),Im 13 T12,Iw 14 13 (.call 26 [(Ki 5),(Ki 2)]),Iw 15 13 (.call 11 [T14]),Iq 16 (.pick T13 T15 Kf),Im 17 T16,Iw 18 17 (.call 26 [(Ki 1),(Ki 3)]),Iw 19 17 (.call 11 [T18]),Iw 20 17 (.un .not T19),Iq 21 (.pick T17 T20 Kf),Im 22 T21,Iw 23 22 (.call 26 [(Ki 3),(Ki 8)]),Iw 24 22 (.call 13 [T23]),Iq 25 (.pick T22 T24 Kf),Im 26 T25,Iw 27 26 (.call 26 [(Ki 1),(Ki 3)]),Iw 28 26 (.call 13 [T27]),Iw 29 26 (.un .not T28),Iq 30 (.pick T26 T29 Kf),Im 31 T30,Iw 32 31 (.mv T2),Iw 33 31 (.bin .eql T32 (Ki 0)),Iq 34 (.pick T31 T33 Kf),Im 0 T34])
 .ret)))
def ge7 : FE := ⟨35, y7, [.t 0]⟩
theorem oks7 : FOk Tryz.prog 7 ge7 := FOk.mk1 Tryz.func7
def y9:XC:=(Zq (Rg [Iq 2 (.mv Kf)])
 (Zq (Rg [Im 3 T0,Iq 4 (.bin .neq T3 (.k Ze)),Im 5 T4,Iw 6 5 (.mv T0),Iw 7 5 (.len true T6),Iw 8 5 (.bin .leq T7 (Ki 32)),Iq 9 (.pick T5 T8 Kf),Im 10 T9,Iw 11 10 (.mv T0),Iw 12 10 (.ixs T11 (Ki 0)),Iw 13 10 (.call 32 [(.k (.string ⟨#[97,98,99,100,101,102,103,104,105,106,107,108,109,110,111,112,113,114,115,116,117,118,119,120,121,122,65,66,67,68,69,70,71,72,73,74,75,76,77,78,79,80,81,82,83,84,85,86,87,88,89,90]⟩)),T12]),Iw 14 10 (.bin .geq T13 (Ki 0)),Iq 15 (.pick T10 T14 Kf),Im 16 T15,Iw 17 16 (.mv T0),Iw 18 16 (.call 33 [T17,(.k (.string ⟨#[97,98,99,100,101,102,103,104,105,106,107,108,109,110,111,112,113,114,115,116,117,118,119,120,121,122,65,66,67,68,69,70,71,72,73,74,75,76,77,78,79,80,81,82,83,84,85,86,87,88,89,90,48,49,50,51,52,53,54,55,56,57,95,45]⟩))]),Iw 19 16 (.bin .eql T18 (.k Ze)),Iq 20 (.pick T16 T19 Kf),Im 21 T20,Iw 22 21 (.mv T0),Iw 23 21 (.call 34 [T22,(.f 35)]),Iw 24 21 (.un .not T23),Iq 25 (.pick T21 T24 Kf),Im 2 T25])
 .ret))
def ge9 : FE := ⟨26, y9, [.t 2]⟩
theorem oks9 : FOk Tryz.prog 9 ge9 := FOk.mk1 Tryz.func9
def y11:XC:=(Zq (Rg [Iq 1 (.box 26 T0),Iq 2 (.mv Kf)])
 (Zq (Zq (Rg [Iq 4 (Lt 4 T1),Iq 5 (.call 37 [T4,(Ki 100)]),Iq 6 (.un .not T5)])
 (.cond T6 (Zq (Rg [Iq 2 (.mv Kf)])
 .ret)
 .skip))
 (Zq (Rg [Iq 7 (.call 38 [(Ki 1000000000000000)]),Iq 3 (.alloc 26 [Zf,Zs,Zf,Zs]),Is (.store 4 T3 T7)])
 (Zq (Rg [Iq 8 (Lt 4 T3),Iq 9 (Lt 4 T3),Iq 10 (.call 39 [T8,T9]),Is (.store 4 T3 T10)])
 (Zq (.draw [⟨Iq 11 (Lt 4 T1),[]⟩,⟨Iq 12 (Lt 4 T1),[]⟩,⟨Iq 13 (.call 28 [T12]),[1]⟩,⟨Iq 14 (.bslice 26 4 1 [Zf,Zs,Zf,Zs] [(0,T13)]),[2]⟩,⟨Iq 15 (.call 41 [T11,T14]),[0,3,2]⟩,⟨Iq 16 (Lt 4 T3),[]⟩,⟨Iq 17 (.call 40 [T15,T16]),[4,5,4]⟩,⟨Iq 18 (.bin .lss T17 (Ki 0)),[6]⟩,⟨Im 2 T18,[7,6,0,1,2,3,4,5,6,7]⟩] [0,0,2,6,15,0,63,127,255])
 .ret)))))
def ge11 : FE := ⟨19, y11, [.t 2]⟩
theorem oks11 : FOk Tryz.prog 11 ge11 := FOk.mk1 Tryz.func11
def y13:XC:=(Zq (Rg [Iq 1 (.box 26 T0),Iq 2 (.mv Kf)])
 (Zq (.draw [⟨Iq 3 (Lt 4 T1),[]⟩,⟨Iq 4 (.call 37 [T3,(Ki 1000000)]),[0]⟩,⟨Im 5 T4,[1,1]⟩,⟨Iw 6 5 (Lt 4 T1),[2]⟩,⟨Iw 7 5 (.call 46 [T6]),[3,2,2]⟩,⟨Iw 8 5 (.bin .geq T7 (Ki 0)),[4,2]⟩,⟨Iq 9 (.pick T5 T8 Kf),[2,5]⟩,⟨Im 10 T9,[6,4]⟩,⟨Iw 11 10 (Lt 4 T1),[7]⟩,⟨Iw 12 10 (.call 38 [(Ki 1)]),[7,7]⟩,⟨Iw 13 10 (.call 40 [T11,T12]),[8,9,9,7]⟩,⟨Iw 14 10 (.bin .leq T13 (Ki 0)),[10,7]⟩,⟨Iq 15 (.pick T10 T14 Kf),[7,11]⟩,⟨Im 2 T15,[12,10,0,1,2,3,4,5,6,7,8,9,10,11,12]⟩] [0,1,3,7,15,31,63,127,255,255,1023,2047,4095,8191])
 .ret))
def ge13 : FE := ⟨16, y13, [.t 2]⟩
theorem oks13 : FOk Tryz.prog 13 ge13 := FOk.mk1 Tryz.func13
def y15:XC:=(Zq (Rg [Iq 1 (.box 41 T0),Iq 2 (.mv Kf)])
 (Zq (Zq (Rg [Iq 5 (.fad 2 T1),Iq 6 (Lo T5),Iq 7 (.len false T6),Iq 8 (.bin .gtr T7 (Ki 20)),Im 9 T8,Iv 10 9 (.fad 22 T1),Iv 11 9 (Lo T10),Iv 12 9 (.len false T11),Iv 13 9 (.bin .gtr T12 (Ki 70)),Iq 14 (.pick T9 Kt T13),Im 15 T14,Iv 16 15 (.fad 23 T1),Iv 17 15 (Lo T16),Iv 18 15 (.len false T17),Iv 19 15 (.bin .gtr T18 (Ki 260)),Iq 20 (.pick T15 Kt T19),Im 21 T20,Iv 22 21 (.fad 24 T1),Iv 23 21 (Lo T22),Iv 24 21 (.len false T23),Iv 25 21 (.bin .gtr T24 (Ki 45)),Iq 26 (.pick T21 Kt T25)])
 (.cond T26 (Zq (Rg [Iq 2 (.mv Kf)])
 .ret)
 .skip))
 (Zq (Zq (Rg [Iq 3 (.mv (Ki 0))])
 (.block 0 (.loop (Zq (Zq (Rg [Im 27 T3,Iq 28 (.fad 24 T1),Iq 29 (Lo T28),Iq 30 (.len false T29),Iq 31 (.bin .lss T27 T30)])
 (.cond T31 .skip
 (.exit 0)))
 (Zq (.block 1 (Zq (Rg [Iq 34 (.fad 24 T1),Iq 35 (Lo T34),Im 36 T3,Iq 37 (.iad 6 T35 T36),Iq 38 (Lt 6 T37),Iq 4 (.alloc 92 [Zi,Zs,Zs,Zs,Zs,Zs]),Is (.store 6 T4 T38)])
 (Zq (Rg [Iq 39 (.fad 1 T4),Iq 40 (Lo T39),Iq 41 (.len false T40),Iq 42 (.bin .gtr T41 (Ki 40)),Im 43 T42,Iv 44 43 (.fad 2 T4),Iv 45 43 (Lo T44),Iv 46 43 (.len false T45),Iv 47 43 (.bin .gtr T46 (Ki 40)),Iq 48 (.pick T43 Kt T47),Im 49 T48,Iv 50 49 (.fad 3 T4),Iv 51 49 (Lo T50),Iv 52 49 (.len false T51),Iv 53 49 (.bin .gtr T52 (Ki 40)),Iq 54 (.pick T49 Kt T53),Im 55 T54,Iv 56 55 (.fad 4 T4),Iv 57 55 (Lo T56),Iv 58 55 (.len false T57),Iv 59 55 (.bin .gtr T58 (Ki 40)),Iq 60 (.pick T55 Kt T59),Im 61 T60,Iv 62 61 (.fad 5 T4),Iv 63 61 (Lo T62),Iv 64 61 (.len false T63),Iv 65 61 (.bin .gtr T64 (Ki 40)),Iq 66 (.pick T61 Kt T65)])
 (.cond T66 (Zq (Rg [Iq 2 (.mv Kf)])
 .ret)
 .skip))))
 (Rg [Im 32 T3,Iq 33 (.bin .add T32 (Ki 1)),Im 3 T33]))))))
 (Zq (Rg [Iq 67 (Lt 25 T1),Iq 68 (.call 49 [T67]),Iq 69 (.call 48 [T68]),Im 70 T69,Iw 71 70 (Lt 25 T1),Iw 72 70 (.call 51 [T71]),Iw 73 70 (.call 50 [T72]),Iq 74 (.pick T70 T73 Kf),Im 2 T74])
 .ret))))
def ge15 : FE := ⟨75, y15, [.t 2]⟩
theorem oks15 : FOk Tryz.prog 15 ge15 := FOk.mk1 Tryz.func15
def y17:XC:=(Zq (Rg [Iq 1 (.box 41 T0),Iq 2 (.alloc 50 [(.int .u8 0),Zi,Zi]),Iq 3 (.mv (Ki 0))])
 (Zq (Zq (.draw [⟨Iq 9 (.fad 0 T1),[]⟩,⟨Iq 10 (Lo T9),[0]⟩,⟨Iq 11 (.fad 1 T1),[]⟩,⟨Iq 12 (Lo T11),[2]⟩,⟨Iq 13 (.bslice 9 1 2 [Ze] [(0,T10),(1,T12)]),[1,3]⟩,⟨Iq 14 (.call 53 [(.k (.int .u8 1)),(.k (.int .i64 (-1))),T13,(Ki 2),(.f 9)]),[4]⟩,⟨Iq 15 (.fad 2 T1),[]⟩,⟨Iq 16 (Lo T15),[6]⟩,⟨Iq 17 (.call 54 [(.k (.int .u8 2)),(.k (.int .i64 (-1))),T16,(Ki 16),(.f 55)]),[7,5]⟩,⟨Iq 18 (Lt 25 T1),[]⟩,⟨Iq 19 (.call 57 [T18]),[9,8]⟩,⟨Iq 20 (.call 56 [(.k (.int .u8 3)),(.k (.int .i64 (-1))),T19,(Ki 7),(.f 58)]),[10,10]⟩,⟨Iq 21 (.fad 22 T1),[]⟩,⟨Iq 22 (Lo T21),[12]⟩,⟨Iq 23 (.call 59 [(.k (.int .u8 4)),(.k (.int .i64 (-1))),T22,(Ki 64),(.f 60)]),[13,11]⟩,⟨Iq 24 (.fad 23 T1),[]⟩,⟨Iq 25 (Lo T24),[15]⟩,⟨Iq 26 (.call 53 [(.k (.int .u8 5)),(.k (.int .i64 (-1))),T25,(Ki 256),(.f 9)]),[16,14]⟩,⟨Iq 27 (.fad 24 T1),[]⟩,⟨Iq 28 (Lo T27),[18]⟩,⟨Iq 29 (.call 61 [(.k (.int .u8 6)),(.k (.int .i64 (-1))),T28,(Ki 40),(.f 62)]),[19,17]⟩,⟨Iq 30 (.bslice 113 1 6 [(.pointer none)] [(0,T14),(1,T17),(2,T20),(3,T23),(4,T26),(5,T29)]),[5,8,11,14,17,20]⟩,⟨Iq 31 (.len false T30),[21]⟩,⟨Iq 32 (.mv (Ki 0)),[]⟩] [0,1,0,4,15,31,0,64,255,0,1023,2047,0,4096,16383,0,32768,131071,0,262144,1048575,2097151,4194303,0])
 (.block 0 (.loop (Zq (Rg [Iq 33 (.bin .lss T32 T31)])
 (Zq (.cond T33 .skip
 (.exit 0))
 (Zq (.block 1 (Zq (Rg [Iq 34 (.iad 1 T30 T32),Iq 35 (Lo T34),Im 5 T35])
 (Zq (Rg [Im 36 T5,Iq 37 (.cmpn .ptr true T36 (.k (.pointer none)))])
 (.cond T37 (Zq (.draw [⟨Im 38 T5,[]⟩,⟨Iq 39 (.nilck T38),[0]⟩,⟨Iq 40 (.fad 0 T39),[1]⟩,⟨Iq 41 (Lt 3 T40),[2]⟩,⟨Im 42 T5,[]⟩,⟨Iq 43 (.nilck T42),[4]⟩,⟨Iq 44 (.fad 3 T43),[5]⟩,⟨Iq 45 (Lo T44),[6]⟩,⟨Is (.store 3 T2 T41),[3,0,1,2,3]⟩,⟨Im 3 T45,[7,8,0,1,2,3,4,5,6,7,8]⟩] [0,1,3,7,0,16,48,112,15,511])
 .ret)
 .skip))))
 (Rg [Iq 46 (.bin .add T32 (Ki 1)),Im 32 T46])))))))
 (Zq (Zq (Rg [Iq 47 (.fad 24 T1),Iq 48 (Lo T47),Iq 49 (.len false T48),Iq 50 (.mv (Ki 0))])
 (.block 2 (.loop (Zq (Rg [Iq 51 (.bin .lss T50 T49)])
 (Zq (.cond T51 .skip
 (.exit 2))
 (Zq (.block 3 (Zq (Rg [Im 52 T50,Iq 53 (.iad 6 T48 T50),Iq 54 (Lt 6 T53),Iq 7 (.alloc 92 [Zi,Zs,Zs,Zs,Zs,Zs]),Im 6 T52,Is (.store 6 T7 T54)])
 (Zq (Rg [Iq 55 (Lt 6 T7),Im 56 T6,Iq 57 (.call 63 [T55,T56]),Im 8 T57])
 (Zq (Rg [Im 58 T8,Iq 59 (.cmpn .ptr true T58 (.k (.pointer none)))])
 (.cond T59 (Zq (.draw [⟨Im 60 T8,[]⟩,⟨Iq 61 (.nilck T60),[0]⟩,⟨Iq 62 (.fad 0 T61),[1]⟩,⟨Iq 63 (Lt 3 T62),[2]⟩,⟨Im 64 T8,[]⟩,⟨Iq 65 (.nilck T64),[4]⟩,⟨Iq 66 (.fad 3 T65),[5]⟩,⟨Iq 67 (Lo T66),[6]⟩,⟨Is (.store 3 T2 T63),[3,0,1,2,3]⟩,⟨Im 3 T67,[7,8,0,1,2,3,4,5,6,7,8]⟩] [0,1,3,7,0,16,48,112,15,511])
 .ret)
 .skip)))))
 (Rg [Iq 68 (.bin .add T50 (Ki 1)),Im 50 T68])))))))
 (Zq (Rg [Iq 69 (.build [(.int .u8 0),Zi,Zi] []),Is (.store 3 T2 T69),Iq 3 (.mv (Ki 0))])
 .ret))))
def ge17 : FE := ⟨70, y17, [.c 2 true 3, .t 3]⟩
theorem oks17 : FOk Tryz.prog 17 ge17 := FOk.mk1 Tryz.func17
def y23:XC:=(Zq (Rg [Iq 4 (.alloc 30 [Zf,Zs,Zf,Zs]),Iq 5 (.mv (Ki 0))])
 (Zq (Rg [Im 6 T0,Iq 7 (.call 76 [T6]),Im 8 T1,Iq 9 (.call 76 [T8]),Iq 10 (.call 75 [T7,T9]),Iq 11 (.ext T10 0),Iq 12 (.ext T10 1),Is (.store 4 T4 T11),Im 5 T12])
 .ret))
def ge23 : FE := ⟨13, y23, [.c 4 true 4, .t 5]⟩
theorem oks23 : FOk Tryz.prog 23 ge23 := FOk.mk1 Tryz.func23
def y24:XC:=(Zq (Rg [Iq 1 (.box 30 T0),Iq 2 (.alloc 26 [Zf,Zs,Zf,Zs])])
 (Zq (.draw [⟨Iq 3 (.fad 0 T1),[]⟩,⟨Iq 4 (.fad 0 T3),[0]⟩,⟨Iq 5 (Lo T4),[1]⟩,⟨Iq 6 (.fad 0 T1),[]⟩,⟨Iq 7 (.fad 1 T6),[3]⟩,⟨Iq 8 (Lo T7),[4]⟩,⟨Iq 9 (.call 31 [T8]),[5]⟩,⟨Iq 10 (.build [Zf,Zs] [(0,1,T5),(1,1,T9)]),[2,6]⟩,⟨Iq 11 (.fad 2 T1),[]⟩,⟨Iq 12 (.fad 0 T11),[8]⟩,⟨Iq 13 (Lo T12),[9]⟩,⟨Iq 14 (.fad 2 T1),[]⟩,⟨Iq 15 (.fad 1 T14),[11]⟩,⟨Iq 16 (Lo T15),[12]⟩,⟨Iq 17 (.call 31 [T16]),[13,6]⟩,⟨Iq 18 (.build [Zf,Zs] [(0,1,T13),(1,1,T17)]),[10,14]⟩,⟨Iq 19 (.build [Zf,Zs,Zf,Zs] [(0,2,T10),(2,2,T18)]),[7,15]⟩,⟨Is (.store 4 T2 T19),[16,14,0,1,2,3,4,5,6,7,8,9,10,11,12,13,14,15,16]⟩] [0,1,3,0,8,24,56,127,0,256,768,0,2048,6144,14456,32632,65535,131071])
 .ret))
def ge24 : FE := ⟨20, y24, [.c 2 true 4]⟩
theorem oks24 : FOk Tryz.prog 24 ge24 := FOk.mk1 Tryz.func24
def y26:XC:=(Zq (Rg [Iq 4 (.alloc 26 [Zf,Zs,Zf,Zs])])
 (Zq (Rg [Im 8 T0,Im 9 T1,Iq 10 (.call 23 [T8,T9]),Im 7 T10,Iq 11 (.ext T7 0),Iq 12 (.ext T7 1),Iq 5 (.alloc 30 [Zf,Zs,Zf,Zs]),Is (.store 4 T5 T11),Im 6 T12])
 (Zq (Rg [Iq 13 (Lt 4 T5),Iq 14 (.call 24 [T13]),Is (.store 4 T4 T14)])
 .ret)))
def ge26 : FE := ⟨15, y26, [.c 4 true 4]⟩
theorem oks26 : FOk Tryz.prog 26 ge26 := FOk.mk1 Tryz.func26
def y28:XC:=(Zq (Rg [Iq 1 (.box 26 T0),Iq 2 (.alloc 26 [Zf,Zs,Zf,Zs])])
 (Zq (Rg [Iq 3 (Lt 4 T1),Iq 4 (.call 80 [T3]),Is (.store 4 T1 T4)])
 (Zq (.draw [⟨Iq 5 (.fad 0 T1),[]⟩,⟨Iq 6 (Lt 2 T5),[0]⟩,⟨Iq 7 (.call 81 [T6]),[1]⟩,⟨Iq 8 (.fad 2 T1),[]⟩,⟨Iq 9 (Lt 2 T8),[3]⟩,⟨Iq 10 (.call 82 [T9]),[4,2]⟩,⟨Iq 11 (.build [Zf,Zs,Zf,Zs] [(0,2,T7),(2,2,T10)]),[2,5]⟩,⟨Is (.store 4 T2 T11),[6,5,0,1,2,3,4,5,6]⟩] [0,1,3,0,8,31,63,127])
 .ret)))
def ge28 : FE := ⟨12, y28, [.c 2 true 4]⟩
theorem oks28 : FOk Tryz.prog 28 ge28 := FOk.mk1 Tryz.func28
def y30:XC:=(Zq (Rg [Iq 0 (.alloc 41 [Ze,Ze,Zs,Zf,Zs,Zf,Zs,Zf,Zs,Zf,Zs,Zi,Zi,Zf,Zs,Zf,Zs,Zf,Zs,Zf,Zs,Zi,Zs,Zs,Zs])])
 (Zq (Rg [Iq 2 (.call 83 []),Iq 1 (.alloc 41 [Ze,Ze,Zs,Zf,Zs,Zf,Zs,Zf,Zs,Zf,Zs,Zi,Zi,Zf,Zs,Zf,Zs,Zf,Zs,Zf,Zs,Zi,Zs,Zs,Zs]),Is (.store 25 T1 T2)])
 (Zq (Rg [Iq 3 (.fad 0 T1),Is (.store 1 T3 (.k (.string ⟨#[71,114,111,117,112]⟩)))])
 (Zq (Rg [Iq 4 (.call 84 [(Ki 0)]),Iq 5 (.call 85 [(Ki 1000)]),Iq 6 (.build [Zf,Zs,Zf,Zs,Zf,Zs,Zf,Zs] [(0,4,T4),(4,4,T5)]),Iq 7 (.call 84 [(Ki 100000)]),Iq 8 (.call 85 [(Ki 2550)]),Iq 9 (.build [Zf,Zs,Zf,Zs,Zf,Zs,Zf,Zs] [(0,4,T7),(4,4,T8)]),Iq 10 (.bslice 98 8 2 [Zf,Zs,Zf,Zs,Zf,Zs,Zf,Zs] [(0,T6),(1,T9)]),Iq 11 (.fad 2 T1),Is (.store 1 T11 T10)])
 (Zq (Rg [Iq 12 (.call 84 [(Ki 5000)]),Iq 13 (.fad 17 T1),Is (.store 4 T13 T12)])
 (Zq (Rg [Iq 14 (.call 85 [(Ki 6000)]),Iq 15 (.fad 7 T1),Is (.store 4 T15 T14)])
 (Zq (Rg [Iq 16 (.fad 21 T1),Is (.store 1 T16 (Ki 2))])
 (Zq (Rg [Iq 17 (.fad 12 T1),Is (.store 1 T17 (Ki 3))])
 (Zq (Rg [Iq 18 (.call 86 []),Iq 19 (.fad 22 T1),Is (.store 1 T19 T18)])
 (Zq (Rg [Iq 20 (.bslice 9 1 5 [Ze] [(0,(.k (.string ⟨#[80]⟩))),(1,(.k (.string ⟨#[68]⟩))),(2,(.k (.string ⟨#[65]⟩))),(3,(.k (.string ⟨#[66]⟩))),(4,(.k (.string ⟨#[67]⟩)))]),Iq 21 (.fad 23 T1),Is (.store 1 T21 T20)])
 (Zq (Rg [Iq 22 (.call 87 []),Iq 23 (.call 88 []),Iq 24 (.call 89 []),Iq 25 (.bslice 92 6 3 [Zi,Zs,Zs,Zs,Zs,Zs] [(0,T22),(1,T23),(2,T24)]),Iq 26 (.fad 24 T1),Is (.store 1 T26 T25)])
 (Zq (Rg [Iq 27 (Lt 25 T1),Is (.store 25 T0 T27)])
 .ret))))))))))))
def ge30 : FE := ⟨28, y30, [.c 0 true 25]⟩
theorem oks30 : FOk Tryz.prog 30 ge30 := FOk.mk1 Tryz.func30
def y31:XC:=(Zq (Rg [Iq 2 (.mv (.k Zs))])
 (Zq (Rg [Iq 3 (.mv (.k Zs))])
 (Zq (Rg [Im 4 T3,Im 5 T0,Iq 6 (.app 221 1 4 [(.int .u32 0)] T4 T5),Im 2 T6])
 .ret)))
def ge31 : FE := ⟨7, y31, [.t 2]⟩
theorem oks31 : FOk Tryz.prog 31 ge31 := FOk.mk1 Tryz.func31
def y32:XC:=(Zq (Rg [Iq 4 (.mv (Ki 0))])
 (Zq (Rg [Im 5 T0,Im 6 T1,Iq 7 (.call 90 [T5,T6]),Im 4 T7])
 .ret))
def ge32 : FE := ⟨8, y32, [.t 4]⟩
theorem oks32 : FOk Tryz.prog 32 ge32 := FOk.mk1 Tryz.func32
def y33:XC:=(Zq (Rg [Iq 4 (.mv (.k Ze))])
 (Zq (Zq (Rg [Im 7 T0,Iq 8 (.bin .eql T7 (.k Ze)),Im 9 T8,Iv 10 9 (.mv T1),Iv 11 9 (.bin .eql T10 (.k Ze)),Iq 12 (.pick T9 Kt T11)])
 (.cond T12 (Zq (Rg [Im 13 T0,Im 4 T13])
 .ret)
 .skip))
 (Zq (Zq (Rg [Im 14 T1,Iq 15 (.len true T14),Iq 16 (.bin .eql T15 (Ki 1)),Im 17 T16,Iw 18 17 (.mv T1),Iw 19 17 (.ixs T18 (Ki 0)),Iw 20 17 (.bin .lss T19 (.k (.int .u8 128))),Iq 21 (.pick T17 T20 Kf)])
 (.cond T21 (Zq (.draw [⟨Im 22 T0,[]⟩,⟨Im 23 T1,[]⟩,⟨Iq 24 (.ixs T23 (Ki 0)),[1]⟩,⟨Iq 25 (.call 92 [T22,T24]),[0,2]⟩,⟨Im 26 T1,[]⟩,⟨Iq 27 (.ixs T26 (Ki 0)),[4]⟩,⟨Iq 28 (.call 91 [T25,T27]),[3,5,3]⟩,⟨Im 4 T28,[6,6,0,1,2,3,4,5,6]⟩] [0,0,2,7,0,16,63,127])
 .ret)
 .skip))
 (Zq (Zq (Rg [Im 30 T1,Iq 31 (.call 93 [T30]),Im 29 T31,Iq 32 (.ext T29 0),Iq 33 (.ext T29 1),Iq 5 (.alloc 148 [Zf,Zf,Zf,Zf,Zf,Zf,Zf,Zf,Zf,Zf,Zf,Zf,Zf,Zf,Zf,Zf,Zf,Zf,Zf,Zf,Zf,Zf,Zf,Zf,Zf,Zf,Zf,Zf,Zf,Zf,Zf,Zf,Zf,Zf,Zf,Zf,Zf,Zf,Zf,Zf,Zf,Zf,Zf,Zf,Zf,Zf,Zf,Zf,Zf,Zf,Zf,Zf,Zf,Zf,Zf,Zf,Zf,Zf,Zf,Zf,Zf,Zf,Zf,Zf,Zf,Zf,Zf,Zf,Zf,Zf,Zf,Zf,Zf,Zf,Zf,Zf,Zf,Zf,Zf,Zf,Zf,Zf,Zf,Zf,Zf,Zf,Zf,Zf,Zf,Zf,Zf,Zf,Zf,Zf,Zf,Zf,Zf,Zf,Zf,Zf,Zf,Zf,Zf,Zf,Zf,Zf,Zf,Zf,Zf,Zf,Zf,Zf,Zf,Zf,Zf,Zf,Zf,Zf,Zf,Zf,Zf,Zf,Zf,Zf,Zf,Zf,Zf,Zf,Zf,Zf,Zf,Zf,Zf,Zf,Zf,Zf,Zf,Zf,Zf,Zf,Zf,Zf,Zf,Zf,Zf,Zf,Zf,Zf,Zf,Zf,Zf,Zf,Zf,Zf,Zf,Zf,Zf,Zf,Zf,Zf,Zf,Zf,Zf,Zf,Zf,Zf,Zf,Zf,Zf,Zf,Zf,Zf,Zf,Zf,Zf,Zf,Zf,Zf,Zf,Zf,Zf,Zf,Zf,Zf,Zf,Zf,Zf,Zf,Zf,Zf,Zf,Zf,Zf,Zf,Zf,Zf,Zf,Zf,Zf,Zf,Zf,Zf,Zf,Zf,Zf,Zf,Zf,Zf,Zf,Zf,Zf,Zf,Zf,Zf,Zf,Zf,Zf,Zf,Zf,Zf,Zf,Zf,Zf,Zf,Zf,Zf,Zf,Zf,Zf,Zf,Zf,Zf,Zf,Zf,Zf,Zf,Zf,Zf,Zf,Zf,Zf,Zf,Zf,Zf,Zf,Zf,Zf,Zf,Zf,Zf,Zf,Zf,Zf,Zf,Zf,Zf]),Is (.store 256 T5 T32),Im 6 T33])
 (Zq (Rg [Im 34 T6])
 (.cond T34 (Zq (Rg [Im 35 T0,Iq 36 (.call 95 [T35,T5]),Iq 37 (.call 94 [T36,T5]),Im 4 T37])
 .ret)
 .skip)))
 (Zq (Rg [Im 38 T0,Im 39 T1,Iq 40 (.call 97 [T38,T39]),Im 41 T1,Iq 42 (.call 96 [T40,T41]),Im 4 T42])
 .ret)))))
def ge33 : FE := ⟨43, y33, [.t 4]⟩
theorem oks33 : FOk Tryz.prog 33 ge33 := FOk.mk1 Tryz.func33
def y34:XC:=(Zq (Rg [Iq 4 (.mv Kf)])
 (Zq (Rg [Im 5 T0,Im 6 T1,Iq 7 (.call 98 [T5,T6]),Iq 8 (.bin .geq T7 (Ki 0)),Im 4 T8])
 .ret))
def ge34 : FE := ⟨9, y34, [.t 4]⟩
theorem oks34 : FOk Tryz.prog 34 ge34 := FOk.mk1 Tryz.func34
def y35:XC:=(Zq (Rg [Iq 2 (.mv Kf)])
 (Zq (Rg [Im 3 T0,Iq 4 (.call 36 [(.k (.string ⟨#[97,98,99,100,101,102,103,104,105,106,107,108,109,110,111,112,113,114,115,116,117,118,119,120,121,122,65,66,67,68,69,70,71,72,73,74,75,76,77,78,79,80,81,82,83,84,85,86,87,88,89,90,48,49,50,51,52,53,54,55,56,57,95,45]⟩)),T3]),Iq 5 (.un .not T4),Im 2 T5])
 .ret))
def ge35 : FE := ⟨6, y35, [.t 2]⟩
theorem oks35 : FOk Tryz.prog 35 ge35 := FOk.mk1 Tryz.func35
def y36:XC:=(Zq (Rg [Iq 4 (.mv Kf)])
 (Zq (Rg [Im 5 T0,Im 6 T1,Iq 7 (.call 99 [T5,T6]),Iq 8 (.bin .geq T7 (Ki 0)),Im 4 T8])
 .ret))
def ge36 : FE := ⟨9, y36, [.t 4]⟩
theorem oks36 : FOk Tryz.prog 36 ge36 := FOk.mk1 Tryz.func36
def y37:XC:=(Zq (Rg [Iq 2 (.box 26 T0),Iq 4 (.mv Kf)])
 (Zq (Zq (Rg [Iq 8 (Lt 4 T2),Iq 9 (.call 100 [T8]),Iq 10 (.un .not T9)])
 (.cond T10 (Zq (Rg [Iq 4 (.mv Kf)])
 .ret)
 .skip))
 (Zq (.draw [⟨Im 12 T1,[]⟩,⟨Iq 13 (.call 102 [T12]),[0]⟩,⟨Iq 14 (.fad 2 T2),[]⟩,⟨Iq 15 (Lt 2 T14),[2]⟩,⟨Iq 16 (.call 101 [T13,T15]),[1,3,1]⟩,⟨Im 11 T16,[4]⟩,⟨Iq 17 (.ext T11 0),[5]⟩,⟨Iq 18 (.ext T11 1),[5]⟩,⟨Iq 19 (.ext T11 2),[5]⟩,⟨Iq 5 (.alloc 24 [Zf,Zs]),[]⟩,⟨Iq 6 (.alloc 24 [Zf,Zs]),[]⟩,⟨Is (.store 2 T5 T17),[9,6,4,0,1,2,3,4,5,6,9,10]⟩,⟨Is (.store 2 T6 T18),[10,7,11,0,1,2,3,4,5,6,7,9,10,11]⟩,⟨Im 7 T19,[8,12,0,1,2,3,4,5,6,7,8,9,10,11,12]⟩] [0,1,0,4,15,31,63,63,63,0,0,1663,3839,8191])
 (Zq (Rg [Im 20 T7,Iq 21 (.bin .eql T20 (Ki 0)),Im 22 T21,Iw 23 22 (Lt 2 T6),Iw 24 22 (.call 103 [T23]),Iw 25 22 (.bin .eql T24 (Ki 0)),Iq 26 (.pick T22 T25 Kf),Im 4 T26])
 .ret))))
def ge37 : FE := ⟨27, y37, [.t 4]⟩
theorem oks37 : FOk Tryz.prog 37 ge37 := FOk.mk1 Tryz.func37
def y38:XC:=(Zq (Rg [Iq 2 (.alloc 26 [Zf,Zs,Zf,Zs])])
 (Zq (Rg [Im 3 T0,Iq 4 (.call 102 [T3]),Iq 5 (.call 104 []),Iq 6 (.build [Zf,Zs,Zf,Zs] [(0,2,T4),(2,2,T5)]),Is (.store 4 T2 T6)])
 .ret))
def ge38 : FE := ⟨7, y38, [.c 2 true 4]⟩
theorem oks38 : FOk Tryz.prog 38 ge38 := FOk.mk1 Tryz.func38
def y39:XC:=(Zq (Rg [Iq 2 (.box 26 T0),Iq 3 (.box 26 T1),Iq 4 (.alloc 26 [Zf,Zs,Zf,Zs])])
 (Zq (.draw [⟨Iq 5 (Lt 4 T2),[]⟩,⟨Iq 6 (.call 80 [T5]),[0]⟩,⟨Iq 7 (Lt 4 T3),[]⟩,⟨Iq 8 (.call 80 [T7]),[2,1]⟩,⟨Is (.store 4 T2 T6),[1,3,0,1]⟩,⟨Is (.store 4 T3 T8),[3,4,0,1,2,3,4]⟩] [0,1,0,7,15,31])
 (Zq (.draw [⟨Iq 9 (.fad 0 T2),[]⟩,⟨Iq 10 (Lt 2 T9),[0]⟩,⟨Iq 11 (.fad 0 T3),[]⟩,⟨Iq 12 (Lt 2 T11),[2]⟩,⟨Iq 13 (.call 106 [T10,T12]),[1,3]⟩,⟨Iq 14 (.fad 2 T2),[]⟩,⟨Iq 15 (Lt 2 T14),[5]⟩,⟨Iq 16 (.fad 2 T3),[]⟩,⟨Iq 17 (Lt 2 T16),[7]⟩,⟨Iq 18 (.call 106 [T15,T17]),[6,8,4]⟩,⟨Iq 19 (.call 105 [T13,T18]),[4,9,9]⟩,⟨Is (.store 4 T4 T19),[10,10,0,1,2,3,4,5,6,7,8,9,10]⟩] [0,1,0,4,15,0,32,0,128,511,1023,2047])
 .ret)))
def ge39 : FE := ⟨20, y39, [.c 4 true 4]⟩
theorem oks39 : FOk Tryz.prog 39 ge39 := FOk.mk1 Tryz.func39
def y40:XC:=(Zq (Rg [Iq 2 (.box 26 T0),Iq 3 (.box 26 T1),Iq 4 (.mv (Ki 0))])
 (Zq (.draw [⟨Iq 5 (Lt 4 T2),[]⟩,⟨Iq 6 (.call 80 [T5]),[0]⟩,⟨Iq 7 (Lt 4 T3),[]⟩,⟨Iq 8 (.call 80 [T7]),[2,1]⟩,⟨Is (.store 4 T2 T6),[1,3,0,1]⟩,⟨Is (.store 4 T3 T8),[3,4,0,1,2,3,4]⟩] [0,1,0,7,15,31])
 (Zq (.draw [⟨Iq 9 (.fad 0 T2),[]⟩,⟨Iq 10 (Lt 2 T9),[0]⟩,⟨Iq 11 (.fad 2 T3),[]⟩,⟨Iq 12 (Lt 2 T11),[2]⟩,⟨Iq 13 (.call 106 [T10,T12]),[1,3]⟩,⟨Iq 14 (.fad 0 T3),[]⟩,⟨Iq 15 (Lt 2 T14),[5]⟩,⟨Iq 16 (.fad 2 T2),[]⟩,⟨Iq 17 (Lt 2 T16),[7]⟩,⟨Iq 18 (.call 106 [T15,T17]),[6,8,4]⟩,⟨Iq 19 (.call 107 [T13,T18]),[4,9,9]⟩,⟨Im 4 T19,[10,10,0,1,2,3,4,5,6,7,8,9,10]⟩] [0,1,0,4,15,0,32,0,128,511,1023,2047])
 .ret)))
def ge40 : FE := ⟨20, y40, [.t 4]⟩
theorem oks40 : FOk Tryz.prog 40 ge40 := FOk.mk1 Tryz.func40
def y41:XC:=(Zq (Rg [Iq 2 (.box 26 T0),Iq 4 (.alloc 26 [Zf,Zs,Zf,Zs])])
 (Zq (Rg [Iq 5 (Lt 4 T2),Im 6 T1,Iq 7 (.call 108 [T5,T6,(.f 109)]),Is (.store 4 T4 T7)])
 .ret))
def ge41 : FE := ⟨8, y41, [.c 4 true 4]⟩
theorem oks41 : FOk Tryz.prog 41 ge41 := FOk.mk1 Tryz.func41
def y46:XC:=(Zq (Rg [Iq 1 (.box 26 T0),Iq 2 (.mv (Ki 0))])
 (Zq (Rg [Iq 3 (Lt 4 T1),Iq 4 (.call 80 [T3]),Iq 5 (.fld true 2 0 T4),Iq 6 (.call 103 [T5]),Im 2 T6])
 .ret))
def ge46 : FE := ⟨7, y46, [.t 2]⟩
theorem oks46 : FOk Tryz.prog 46 ge46 := FOk.mk1 Tryz.func46
def y48:XC:=(Zq (Rg [Iq 2 (.mv Kf)])
 (Zq (Zq (Rg [Iq 3 (.mv (Ki 0))])
 (.block 0 (.loop (Zq (Zq (Rg [Im 4 T3,Im 5 T0,Iq 6 (.len false T5),Iq 7 (.bin .lss T4 T6)])
 (.cond T7 .skip
 (.exit 0)))
 (Zq (.block 1 (Zq (Rg [Im 10 T0,Im 11 T3,Iq 12 (.iad 4 T10 T11),Iq 13 (.fad 0 T12),Iq 14 (.fad 1 T13),Iq 15 (Lo T14),Iq 16 (.len false T15),Iq 17 (.bin .gtr T16 (Ki 6)),Im 18 T17,Iv 19 18 (.mv T0),Iv 20 18 (.mv T3),Iv 21 18 (.iad 4 T19 T20),Iv 22 18 (.fad 2 T21),Iv 23 18 (.fad 1 T22),Iv 24 18 (Lo T23),Iv 25 18 (.len false T24),Iv 26 18 (.bin .gtr T25 (Ki 6)),Iq 27 (.pick T18 Kt T26)])
 (.cond T27 (Zq (Rg [Iq 2 (.mv Kf)])
 .ret)
 .skip)))
 (Rg [Im 8 T3,Iq 9 (.bin .add T8 (Ki 1)),Im 3 T9]))))))
 (Zq (Rg [Iq 2 (.mv Kt)])
 .ret)))
def ge48 : FE := ⟨28, y48, [.t 2]⟩
theorem oks48 : FOk Tryz.prog 48 ge48 := FOk.mk1 Tryz.func48
def y49:XC:=(Zq (Rg [Iq 1 (.box 41 T0),Iq 2 (.mv (.k Zs))])
 (Zq (Rg [Iq 13 (.fad 3 T1),Iq 14 (Lt 4 T13),Iq 15 (.fad 7 T1),Iq 16 (Lt 4 T15),Iq 17 (.fad 13 T1),Iq 18 (Lt 4 T17),Iq 19 (.fad 17 T1),Iq 20 (Lt 4 T19),Iq 21 (.bslice 26 4 4 [Zf,Zs,Zf,Zs] [(0,T14),(1,T16),(2,T18),(3,T20)]),Im 3 T21])
 (Zq (Zq (Rg [Iq 4 (.mv (Ki 0))])
 (.block 0 (.loop (Zq (Zq (Rg [Im 22 T4,Iq 23 (.fad 2 T1),Iq 24 (Lo T23),Iq 25 (.len false T24),Iq 26 (.bin .lss T22 T25)])
 (.cond T26 .skip
 (.exit 0)))
 (Zq (.block 1 (.draw [⟨Im 29 T3,[]⟩,⟨Iq 30 (.fad 2 T1),[]⟩,⟨Iq 31 (Lo T30),[1]⟩,⟨Im 32 T4,[]⟩,⟨Iq 33 (.iad 8 T31 T32),[2,3]⟩,⟨Iq 34 (.fad 0 T33),[4]⟩,⟨Iq 35 (Lt 4 T34),[5]⟩,⟨Iq 36 (.fad 2 T1),[]⟩,⟨Iq 37 (Lo T36),[7]⟩,⟨Im 38 T4,[]⟩,⟨Iq 39 (.iad 8 T37 T38),[8,9]⟩,⟨Iq 40 (.fad 4 T39),[10]⟩,⟨Iq 41 (Lt 4 T40),[11]⟩,⟨Iq 42 (.bslice 26 4 2 [Zf,Zs,Zf,Zs] [(0,T35),(1,T41)]),[6,12]⟩,⟨Iq 43 (.app 26 4 64 [Zf,Zs,Zf,Zs] T29 T42),[0,13]⟩,⟨Im 3 T43,[14,14,0,1,2,3,4,5,6,7,8,9,10,11,12,13,14]⟩] [0,0,2,0,14,30,62,0,128,0,896,1920,3968,8190,16383,32767]))
 (Rg [Im 27 T4,Iq 28 (.bin .add T27 (Ki 1)),Im 4 T28]))))))
 (Zq (Zq (Rg [Iq 5 (.mv (Ki 0))])
 (.block 2 (.loop (Zq (Zq (Rg [Im 44 T5,Iq 45 (.fad 22 T1),Iq 46 (Lo T45),Iq 47 (.len false T46),Iq 48 (.bin .lss T44 T47)])
 (.cond T48 .skip
 (.exit 2)))
 (Zq (.block 3 (Rg [Im 51 T3,Iq 52 (.fad 22 T1),Iq 53 (Lo T52),Im 54 T5,Iq 55 (.iad 6 T53 T54),Iq 56 (.fad 2 T55),Iq 57 (Lt 4 T56),Iq 58 (.bslice 26 4 1 [Zf,Zs,Zf,Zs] [(0,T57)]),Iq 59 (.app 26 4 64 [Zf,Zs,Zf,Zs] T51 T58),Im 3 T59]))
 (Rg [Im 49 T5,Iq 50 (.bin .add T49 (Ki 1)),Im 5 T50]))))))
 (Zq (Zq (Rg [Iq 6 (.mv (Ki 0))])
 (.block 4 (.loop (Zq (Zq (Rg [Im 60 T6,Iq 61 (.fad 24 T1),Iq 62 (Lo T61),Iq 63 (.len false T62),Iq 64 (.bin .lss T60 T63)])
 (.cond T64 .skip
 (.exit 4)))
 (Zq (.block 5 (Zq (Rg [Iq 67 (.fad 24 T1),Iq 68 (Lo T67),Im 69 T6,Iq 70 (.iad 6 T68 T69),Iq 71 (Lt 6 T70),Iq 7 (.alloc 92 [Zi,Zs,Zs,Zs,Zs,Zs]),Is (.store 6 T7 T71)])
 (Zq (Zq (Rg [Iq 8 (.mv (Ki 0))])
 (.block 6 (.loop (Zq (Zq (Rg [Im 72 T8,Iq 73 (.fad 1 T7),Iq 74 (Lo T73),Iq 75 (.len false T74),Iq 76 (.bin .lss T72 T75)])
 (.cond T76 .skip
 (.exit 6)))
 (Zq (.block 7 (Rg [Im 79 T3,Iq 80 (.fad 1 T7),Iq 81 (Lo T80),Im 82 T8,Iq 83 (.iad 6 T81 T82),Iq 84 (.fad 2 T83),Iq 85 (Lt 4 T84),Iq 86 (.bslice 26 4 1 [Zf,Zs,Zf,Zs] [(0,T85)]),Iq 87 (.app 26 4 64 [Zf,Zs,Zf,Zs] T79 T86),Im 3 T87]))
 (Rg [Im 77 T8,Iq 78 (.bin .add T77 (Ki 1)),Im 8 T78]))))))
 (Zq (Zq (Rg [Iq 9 (.mv (Ki 0))])
 (.block 8 (.loop (Zq (Zq (Rg [Im 88 T9,Iq 89 (.fad 2 T7),Iq 90 (Lo T89),Iq 91 (.len false T90),Iq 92 (.bin .lss T88 T91)])
 (.cond T92 .skip
 (.exit 8)))
 (Zq (.block 9 (Rg [Im 95 T3,Iq 96 (.fad 2 T7),Iq 97 (Lo T96),Im 98 T9,Iq 99 (.iad 6 T97 T98),Iq 100 (.fad 2 T99),Iq 101 (Lt 4 T100),Iq 102 (.bslice 26 4 1 [Zf,Zs,Zf,Zs] [(0,T101)]),Iq 103 (.app 26 4 64 [Zf,Zs,Zf,Zs] T95 T102),Im 3 T103]))
 (Rg [Im 93 T9,Iq 94 (.bin .add T93 (Ki 1)),Im 9 T94]))))))
 (Zq (Zq (Rg [Iq 10 (.mv (Ki 0))])
 (.block 10 (.loop (Zq (Zq (Rg [Im 104 T10,Iq 105 (.fad 3 T7),Iq 106 (Lo T105),Iq 107 (.len false T106),Iq 108 (.bin .lss T104 T107)])
 (.cond T108 .skip
 (.exit 10)))
 (Zq (.block 11 (Rg [Im 111 T3,Iq 112 (.fad 3 T7),Iq 113 (Lo T112),Im 114 T10,Iq 115 (.iad 10 T113 T114),Iq 116 (.fad 6 T115),Iq 117 (Lt 4 T116),Iq 118 (.bslice 26 4 1 [Zf,Zs,Zf,Zs] [(0,T117)]),Iq 119 (.app 26 4 64 [Zf,Zs,Zf,Zs] T111 T118),Im 3 T119]))
 (Rg [Im 109 T10,Iq 110 (.bin .add T109 (Ki 1)),Im 10 T110]))))))
 (Zq (Zq (Rg [Iq 11 (.mv (Ki 0))])
 (.block 12 (.loop (Zq (Zq (Rg [Im 120 T11,Iq 121 (.fad 4 T7),Iq 122 (Lo T121),Iq 123 (.len false T122),Iq 124 (.bin .lss T120 T123)])
 (.cond T124 .skip
 (.exit 12)))
 (Zq (.block 13 (.draw [⟨Im 127 T3,[]⟩,⟨Iq 128 (.fad 4 T7),[]⟩,⟨Iq 129 (Lo T128),[1]⟩,⟨Im 130 T11,[]⟩,⟨Iq 131 (.iad 9 T129 T130),[2,3]⟩,⟨Iq 132 (.fad 1 T131),[4]⟩,⟨Iq 133 (Lt 4 T132),[5]⟩,⟨Iq 134 (.fad 4 T7),[]⟩,⟨Iq 135 (Lo T134),[7]⟩,⟨Im 136 T11,[]⟩,⟨Iq 137 (.iad 9 T135 T136),[8,9]⟩,⟨Iq 138 (.fad 5 T137),[10]⟩,⟨Iq 139 (Lt 4 T138),[11]⟩,⟨Iq 140 (.bslice 26 4 2 [Zf,Zs,Zf,Zs] [(0,T133),(1,T139)]),[6,12]⟩,⟨Iq 141 (.app 26 4 64 [Zf,Zs,Zf,Zs] T127 T140),[0,13]⟩,⟨Im 3 T141,[14,14,0,1,2,3,4,5,6,7,8,9,10,11,12,13,14]⟩] [0,0,2,0,14,30,62,0,128,0,896,1920,3968,8190,16383,32767]))
 (Rg [Im 125 T11,Iq 126 (.bin .add T125 (Ki 1)),Im 11 T126]))))))
 (Zq (Rg [Iq 12 (.mv (Ki 0))])
 (.block 14 (.loop (Zq (Zq (Rg [Im 142 T12,Iq 143 (.fad 5 T7),Iq 144 (Lo T143),Iq 145 (.len false T144),Iq 146 (.bin .lss T142 T145)])
 (.cond T146 .skip
 (.exit 14)))
 (Zq (.block 15 (Rg [Im 149 T3,Iq 150 (.fad 5 T7),Iq 151 (Lo T150),Im 152 T12,Iq 153 (.iad 5 T151 T152),Iq 154 (.fad 1 T153),Iq 155 (Lt 4 T154),Iq 156 (.bslice 26 4 1 [Zf,Zs,Zf,Zs] [(0,T155)]),Iq 157 (.app 26 4 64 [Zf,Zs,Zf,Zs] T149 T156),Im 3 T157]))
 (Rg [Im 147 T12,Iq 148 (.bin .add T147 (Ki 1)),Im 12 T148]))))))))))))
 (Rg [Im 65 T6,Iq 66 (.bin .add T65 (Ki 1)),Im 6 T66]))))))
 (Zq (Rg [Im 158 T3,Im 2 T158])
 .ret))))))
def ge49 : FE := ⟨159, y49, [.t 2]⟩
theorem oks49 : FOk Tryz.prog 49 ge49 := FOk.mk1 Tryz.func49
def y50:XC:=(Zq (Rg [Iq 2 (.mv Kf)])
 (Zq (Zq (Rg [Iq 3 (.mv (Ki 0))])
 (.block 0 (.loop (Zq (Zq (Rg [Im 4 T3,Im 5 T0,Iq 6 (.len false T5),Iq 7 (.bin .lss T4 T6)])
 (.cond T7 .skip
 (.exit 0)))
 (Zq (.block 1 (Zq (Rg [Im 10 T0,Im 11 T3,Iq 12 (.iad 1 T10 T11),Iq 13 (Lo T12),Iq 14 (.len true T13),Iq 15 (.bin .gtr T14 (Ki 70))])
 (.cond T15 (Zq (Rg [Iq 2 (.mv Kf)])
 .ret)
 .skip)))
 (Rg [Im 8 T3,Iq 9 (.bin .add T8 (Ki 1)),Im 3 T9]))))))
 (Zq (Rg [Iq 2 (.mv Kt)])
 .ret)))
def ge50 : FE := ⟨16, y50, [.t 2]⟩
theorem oks50 : FOk Tryz.prog 50 ge50 := FOk.mk1 Tryz.func50
def y51:XC:=(Zq (Rg [Iq 1 (.box 41 T0),Iq 2 (.mv (.k Zs))])
 (Zq (Rg [Iq 13 (.fad 0 T1),Iq 14 (Lo T13),Iq 15 (.fad 1 T1),Iq 16 (Lo T15),Iq 17 (.bslice 9 1 2 [Ze] [(0,T14),(1,T16)]),Im 3 T17])
 (Zq (Rg [Im 18 T3,Iq 19 (.fad 23 T1),Iq 20 (Lo T19),Iq 21 (.app 9 1 16 [Ze] T18 T20),Im 3 T21])
 (Zq (Zq (Rg [Iq 4 (.mv (Ki 0))])
 (.block 0 (.loop (Zq (Zq (Rg [Im 22 T4,Iq 23 (.fad 22 T1),Iq 24 (Lo T23),Iq 25 (.len false T24),Iq 26 (.bin .lss T22 T25)])
 (.cond T26 .skip
 (.exit 0)))
 (Zq (.block 1 (Rg [Im 29 T3,Iq 30 (.fad 22 T1),Iq 31 (Lo T30),Im 32 T4,Iq 33 (.iad 6 T31 T32),Iq 34 (.fad 0 T33),Iq 35 (Lo T34),Iq 36 (.bslice 9 1 1 [Ze] [(0,T35)]),Iq 37 (.app 9 1 16 [Ze] T29 T36),Im 3 T37]))
 (Rg [Im 27 T4,Iq 28 (.bin .add T27 (Ki 1)),Im 4 T28]))))))
 (Zq (Zq (Rg [Iq 5 (.mv (Ki 0))])
 (.block 2 (.loop (Zq (Zq (Rg [Im 38 T5,Iq 39 (.fad 24 T1),Iq 40 (Lo T39),Iq 41 (.len false T40),Iq 42 (.bin .lss T38 T41)])
 (.cond T42 .skip
 (.exit 2)))
 (Zq (.block 3 (Zq (Rg [Iq 45 (.fad 24 T1),Iq 46 (Lo T45),Im 47 T5,Iq 48 (.iad 6 T46 T47),Iq 49 (Lt 6 T48),Iq 6 (.alloc 92 [Zi,Zs,Zs,Zs,Zs,Zs]),Is (.store 6 T6 T49)])
 (Zq (Zq (Rg [Iq 7 (.mv (Ki 0))])
 (.block 4 (.loop (Zq (Zq (Rg [Im 50 T7,Iq 51 (.fad 1 T6),Iq 52 (Lo T51),Iq 53 (.len false T52),Iq 54 (.bin .lss T50 T53)])
 (.cond T54 .skip
 (.exit 4)))
 (Zq (.block 5 (.draw [⟨Im 57 T3,[]⟩,⟨Iq 58 (.fad 1 T6),[]⟩,⟨Iq 59 (Lo T58),[1]⟩,⟨Im 60 T7,[]⟩,⟨Iq 61 (.iad 6 T59 T60),[2,3]⟩,⟨Iq 62 (.fad 0 T61),[4]⟩,⟨Iq 63 (Lo T62),[5]⟩,⟨Iq 64 (.fad 1 T6),[]⟩,⟨Iq 65 (Lo T64),[7]⟩,⟨Im 66 T7,[]⟩,⟨Iq 67 (.iad 6 T65 T66),[8,9]⟩,⟨Iq 68 (.fad 1 T67),[10]⟩,⟨Iq 69 (Lo T68),[11]⟩,⟨Iq 70 (.bslice 9 1 2 [Ze] [(0,T63),(1,T69)]),[6,12]⟩,⟨Iq 71 (.app 9 1 16 [Ze] T57 T70),[0,13]⟩,⟨Im 3 T71,[14,14,0,1,2,3,4,5,6,7,8,9,10,11,12,13,14]⟩] [0,0,2,0,14,30,62,0,128,0,896,1920,3968,8190,16383,32767]))
 (Rg [Im 55 T7,Iq 56 (.bin .add T55 (Ki 1)),Im 7 T56]))))))
 (Zq (Zq (Rg [Iq 8 (.mv (Ki 0))])
 (.block 6 (.loop (Zq (Zq (Rg [Im 72 T8,Iq 73 (.fad 2 T6),Iq 74 (Lo T73),Iq 75 (.len false T74),Iq 76 (.bin .lss T72 T75)])
 (.cond T76 .skip
 (.exit 6)))
 (Zq (.block 7 (.draw [⟨Im 79 T3,[]⟩,⟨Iq 80 (.fad 2 T6),[]⟩,⟨Iq 81 (Lo T80),[1]⟩,⟨Im 82 T8,[]⟩,⟨Iq 83 (.iad 6 T81 T82),[2,3]⟩,⟨Iq 84 (.fad 0 T83),[4]⟩,⟨Iq 85 (Lo T84),[5]⟩,⟨Iq 86 (.fad 2 T6),[]⟩,⟨Iq 87 (Lo T86),[7]⟩,⟨Im 88 T8,[]⟩,⟨Iq 89 (.iad 6 T87 T88),[8,9]⟩,⟨Iq 90 (.fad 1 T89),[10]⟩,⟨Iq 91 (Lo T90),[11]⟩,⟨Iq 92 (.bslice 9 1 2 [Ze] [(0,T85),(1,T91)]),[6,12]⟩,⟨Iq 93 (.app 9 1 16 [Ze] T79 T92),[0,13]⟩,⟨Im 3 T93,[14,14,0,1,2,3,4,5,6,7,8,9,10,11,12,13,14]⟩] [0,0,2,0,14,30,62,0,128,0,896,1920,3968,8190,16383,32767]))
 (Rg [Im 77 T8,Iq 78 (.bin .add T77 (Ki 1)),Im 8 T78]))))))
 (Zq (Zq (Rg [Iq 9 (.mv (Ki 0))])
 (.block 8 (.loop (Zq (Zq (Rg [Im 94 T9,Iq 95 (.fad 3 T6),Iq 96 (Lo T95),Iq 97 (.len false T96),Iq 98 (.bin .lss T94 T97)])
 (.cond T98 .skip
 (.exit 8)))
 (Zq (.block 9 (Zq (Rg [Iq 101 (.fad 3 T6),Iq 102 (Lo T101),Im 103 T9,Iq 104 (.iad 10 T102 T103),Iq 105 (Lt 10 T104),Iq 10 (.alloc 176 [Zf,Ze,(.int .u8 0),Ze,Ze,Ze,Zf,Zs,Zf,Zs]),Is (.store 10 T10 T105)])
 (Rg [Im 106 T3,Iq 107 (.fad 1 T10),Iq 108 (Lo T107),Iq 109 (.fad 3 T10),Iq 110 (Lo T109),Iq 111 (.fad 4 T10),Iq 112 (Lo T111),Iq 113 (.fad 5 T10),Iq 114 (Lo T113),Iq 115 (.bslice 9 1 4 [Ze] [(0,T108),(1,T110),(2,T112),(3,T114)]),Iq 116 (.app 9 1 16 [Ze] T106 T115),Im 3 T116])))
 (Rg [Im 99 T9,Iq 100 (.bin .add T99 (Ki 1)),Im 9 T100]))))))
 (Zq (Zq (Rg [Iq 11 (.mv (Ki 0))])
 (.block 10 (.loop (Zq (Zq (Rg [Im 117 T11,Iq 118 (.fad 4 T6),Iq 119 (Lo T118),Iq 120 (.len false T119),Iq 121 (.bin .lss T117 T120)])
 (.cond T121 .skip
 (.exit 10)))
 (Zq (.block 11 (Rg [Im 124 T3,Iq 125 (.fad 4 T6),Iq 126 (Lo T125),Im 127 T11,Iq 128 (.iad 9 T126 T127),Iq 129 (.fad 0 T128),Iq 130 (Lo T129),Iq 131 (.bslice 9 1 1 [Ze] [(0,T130)]),Iq 132 (.app 9 1 16 [Ze] T124 T131),Im 3 T132]))
 (Rg [Im 122 T11,Iq 123 (.bin .add T122 (Ki 1)),Im 11 T123]))))))
 (Zq (Rg [Iq 12 (.mv (Ki 0))])
 (.block 12 (.loop (Zq (Zq (Rg [Im 133 T12,Iq 134 (.fad 5 T6),Iq 135 (Lo T134),Iq 136 (.len false T135),Iq 137 (.bin .lss T133 T136)])
 (.cond T137 .skip
 (.exit 12)))
 (Zq (.block 13 (Rg [Im 140 T3,Iq 141 (.fad 5 T6),Iq 142 (Lo T141),Im 143 T12,Iq 144 (.iad 5 T142 T143),Iq 145 (.fad 0 T144),Iq 146 (Lo T145),Iq 147 (.bslice 9 1 1 [Ze] [(0,T146)]),Iq 148 (.app 9 1 16 [Ze] T140 T147),Im 3 T148]))
 (Rg [Im 138 T12,Iq 139 (.bin .add T138 (Ki 1)),Im 12 T139]))))))))))))
 (Rg [Im 43 T5,Iq 44 (.bin .add T43 (Ki 1)),Im 5 T44]))))))
 (Zq (Rg [Im 149 T3,Im 2 T149])
 .ret))))))
def ge51 : FE := ⟨150, y51, [.t 2]⟩
theorem oks51 : FOk Tryz.prog 51 ge51 := FOk.mk1 Tryz.func51
def y53:XC:=wrong1 127
def ge53 : FE := ⟨42, y53, [.t 10]⟩
theorem oks53 : FOk Tryz.prog 53 ge53 := FOk.mk1 Tryz.func53
def y54:XC:=wrongX 8 98 127 [Zf,Zs,Zf,Zs,Zf,Zs,Zf,Zs]
def ge54 : FE := ⟨42, y54, [.t 10]⟩
theorem oks54 : FOk Tryz.prog 54 ge54 := FOk.mk1 Tryz.func54
def y55:XC:=(Zq (Rg [Iq 1 (.box 98 T0),Iq 2 (.mv Kf)])
 (Zq (Rg [Iq 3 (.fad 0 T1),Iq 4 (Lt 4 T3),Iq 5 (.call 11 [T4]),Im 6 T5,Iw 7 6 (.fad 4 T1),Iw 8 6 (Lt 4 T7),Iw 9 6 (.call 13 [T8]),Iq 10 (.pick T6 T9 Kf),Im 2 T10])
 .ret))
def ge55 : FE := ⟨11, y55, [.t 2]⟩
theorem oks55 : FOk Tryz.prog 55 ge55 := FOk.mk1 Tryz.func55
def y56:XC:=wrong1 127
def ge56 : FE := ⟨42, y56, [.t 10]⟩
theorem oks56 : FOk Tryz.prog 56 ge56 := FOk.mk1 Tryz.func56
def y57:XC:=(Zq (Rg [Iq 1 (.box 41 T0),Iq 2 (.mv (.k Zs))])
 (Zq (Rg [Iq 3 (.mv (.f 116))])
 (Zq (.draw [⟨Iq 4 (.fad 3 T1),[]⟩,⟨Iq 5 (Lt 4 T4),[0]⟩,⟨Iq 6 (.call 13 [T5]),[1]⟩,⟨Iq 7 (.fad 7 T1),[]⟩,⟨Iq 8 (Lt 4 T7),[3]⟩,⟨Iq 9 (.call 13 [T8]),[4,2]⟩,⟨Iq 10 (.fad 13 T1),[]⟩,⟨Iq 11 (Lt 4 T10),[6]⟩,⟨Iq 12 (.call 13 [T11]),[7,5]⟩,⟨Im 13 T3,[]⟩,⟨Iq 14 (.fad 11 T1),[]⟩,⟨Iq 15 (Lo T14),[10]⟩,⟨Iq 16 (.callv T13 [T15,(Ki 3)]),[9,11,8]⟩,⟨Im 17 T3,[]⟩,⟨Iq 18 (.fad 12 T1),[]⟩,⟨Iq 19 (Lo T18),[14]⟩,⟨Iq 20 (.callv T17 [T19,(Ki 40)]),[13,15,12]⟩,⟨Im 21 T3,[]⟩,⟨Iq 22 (.fad 21 T1),[]⟩,⟨Iq 23 (Lo T22),[18]⟩,⟨Iq 24 (.callv T21 [T23,(Ki 40)]),[17,19,16]⟩,⟨Iq 25 (.fad 17 T1),[]⟩,⟨Iq 26 (Lt 4 T25),[21]⟩,⟨Iq 27 (.call 11 [T26]),[22,20]⟩,⟨Iq 28 (.bslice 4 1 7 [Zf] [(0,T6),(1,T9),(2,T12),(3,T16),(4,T20),(5,T24),(6,T27)]),[2,5,8,12,16,20,23]⟩,⟨Im 2 T28,[24,23,0,1,2,3,4,5,6,7,8,9,10,11,12,13,14,15,16,17,18,19,20,21,22,23,24]⟩] [0,1,3,0,8,31,0,64,255,0,0,1024,4095,0,0,16384,65535,0,0,262144,1048575,0,2097152,8388607,16777215,33554431])
 .ret)))
def ge57 : FE := ⟨29, y57, [.t 2]⟩
theorem oks57 : FOk Tryz.prog 57 ge57 := FOk.mk1 Tryz.func57
def y58:XC:=(Zq (Rg [Iq 2 (.mv Kf)])
 (Zq (Rg [Im 3 T0,Im 2 T3])
 .ret))
def ge58 : FE := ⟨4, y58, [.t 2]⟩
theorem oks58 : FOk Tryz.prog 58 ge58 := FOk.mk1 Tryz.func58
def y59:XC:=wrongX 6 102 127 [Ze,(.int .u8 0),Zf,Zs,Zf,Zs]
def ge59 : FE := ⟨42, y59, [.t 10]⟩
theorem oks59 : FOk Tryz.prog 59 ge59 := FOk.mk1 Tryz.func59
def y60:XC:=(Zq (Rg [Iq 1 (.box 102 T0),Iq 2 (.mv Kf)])
 (Zq (Zq (Rg [Iq 3 (.fad 0 T1),Iq 4 (Lo T3),Iq 5 (.call 9 [T4]),Iq 6 (.un .not T5)])
 (.cond T6 (Zq (Rg [Iq 2 (.mv Kf)])
 .ret)
 .skip))
 (Zq (Zq (Rg [Iq 7 (.fad 1 T1),Iq 8 (Lo T7)])
 (.block 0 (Zq (Rg [Iq 10 (.bin .eql T8 (.k (.int .u8 4))),Im 9 T10])
 (.cond T9 (Zq (Rg [Iq 11 (.fad 2 T1),Iq 12 (Lt 4 T11),Iq 13 (.call 13 [T12]),Im 2 T13])
 .ret)
 (Zq (Rg [Iq 15 (.bin .eql T8 (.k (.int .u8 5))),Im 14 T15])
 (.cond T14 (Zq (Rg [Iq 16 (.fad 2 T1),Iq 17 (Lt 4 T16),Iq 18 (.call 11 [T17]),Im 2 T18])
 .ret)
 (Zq (Rg [Iq 20 (.bin .eql T8 (.k (.int .u8 6))),Im 19 T20])
 (.cond T19 (Zq (.draw [⟨Iq 21 (.fad 2 T1),[]⟩,⟨Iq 22 (Lt 4 T21),[0]⟩,⟨Iq 23 (.call 37 [T22,(Ki 1)]),[1]⟩,⟨Im 24 T23,[2,2]⟩,⟨Iw 25 24 (.fad 2 T1),[3]⟩,⟨Iw 26 24 (Lt 4 T25),[4,3]⟩,⟨Iw 27 24 (.call 46 [T26]),[5,3,3]⟩,⟨Iw 28 24 (.bin .geq T27 (Ki 0)),[6,3]⟩,⟨Iq 29 (.pick T24 T28 Kf),[3,7]⟩,⟨Im 30 T29,[8,6]⟩,⟨Iw 31 30 (.fad 2 T1),[9]⟩,⟨Iw 32 30 (Lt 4 T31),[10,9]⟩,⟨Iw 33 30 (.call 38 [(Ki 40)]),[9,9]⟩,⟨Iw 34 30 (.call 40 [T32,T33]),[11,12,12,9]⟩,⟨Iw 35 30 (.bin .leq T34 (Ki 0)),[13,9]⟩,⟨Iq 36 (.pick T30 T35 Kf),[9,14]⟩,⟨Im 2 T36,[15,13,0,1,2,3,4,5,6,7,8,9,10,11,12,13,14,15]⟩] [0,1,3,7,15,31,63,127,255,511,1023,2047,1023,8191,16383,32767,65535])
 .ret)
 .skip))))))))
 (Zq (Rg [Iq 37 (.fad 1 T1),Iq 38 (Lo T37),Iq 39 (.bin .geq T38 (.k (.int .u8 1))),Im 40 T39,Iw 41 40 (.fad 1 T1),Iw 42 40 (Lo T41),Iw 43 40 (.bin .leq T42 (.k (.int .u8 11))),Iq 44 (.pick T40 T43 Kf),Im 45 T44,Iw 46 45 (.fad 2 T1),Iw 47 45 (Lt 4 T46),Iw 48 45 (.call 100 [T47]),Iq 49 (.pick T45 T48 Kf),Im 50 T49,Iw 51 50 (.fad 2 T1),Iw 52 50 (Lt 4 T51),Iw 53 50 (.call 46 [T52]),Iw 54 50 (.bin .eql T53 (Ki 0)),Iq 55 (.pick T50 T54 Kf),Im 2 T55])
 .ret))))
def ge60 : FE := ⟨56, y60, [.t 2]⟩
theorem oks60 : FOk Tryz.prog 60 ge60 := FOk.mk1 Tryz.func60
def y61:XC:=wrongX 6 92 127 [Zi,Zs,Zs,Zs,Zs,Zs]
def ge61 : FE := ⟨42, y61, [.t 10]⟩
theorem oks61 : FOk Tryz.prog 61 ge61 := FOk.mk1 Tryz.func61
def y62:XC:=(Zq (Rg [Iq 1 (.box 92 T0),Iq 2 (.mv Kf)])
 (Zq (Rg [Iq 3 (.fad 0 T1),Iq 4 (Lo T3),Iq 5 (.bin .geq T4 (Ki 1)),Im 6 T5,Iw 7 6 (.fad 0 T1),Iw 8 6 (Lo T7),Iw 9 6 (.bin .leq T8 (Ki 9999)),Iq 10 (.pick T6 T9 Kf),Im 2 T10])
 .ret))
def ge62 : FE := ⟨11, y62, [.t 2]⟩
theorem oks62 : FOk Tryz.prog 62 ge62 := FOk.mk1 Tryz.func62
def y63:XC:=(Zq (Rg [Iq 2 (.box 92 T0),Iq 4 (.mv (.k (.pointer none)))])
 (Zq (Zq (.draw [⟨Im 7 T1,[]⟩,⟨Iq 8 (.fad 1 T2),[]⟩,⟨Iq 9 (Lo T8),[1]⟩,⟨Iq 10 (.call 117 [(.k (.int .u8 7)),T7,T9,(Ki 4096),(.f 118)]),[0,2]⟩,⟨Im 11 T1,[]⟩,⟨Iq 12 (.fad 2 T2),[]⟩,⟨Iq 13 (Lo T12),[5]⟩,⟨Iq 14 (.call 119 [(.k (.int .u8 8)),T11,T13,(Ki 4096),(.f 120)]),[4,6,3]⟩,⟨Im 15 T1,[]⟩,⟨Iq 16 (.fad 3 T2),[]⟩,⟨Iq 17 (Lo T16),[9]⟩,⟨Iq 18 (.call 121 [(.k (.int .u8 9)),T15,T17,(Ki 4096),(.f 122)]),[8,10,7]⟩,⟨Im 19 T1,[]⟩,⟨Iq 20 (.fad 4 T2),[]⟩,⟨Iq 21 (Lo T20),[13]⟩,⟨Iq 22 (.call 123 [(.k (.int .u8 10)),T19,T21,(Ki 4096),(.f 124)]),[12,14,11]⟩,⟨Im 23 T1,[]⟩,⟨Iq 24 (.fad 5 T2),[]⟩,⟨Iq 25 (Lo T24),[17]⟩,⟨Iq 26 (.call 125 [(.k (.int .u8 11)),T23,T25,(Ki 4096),(.f 126)]),[16,18,15]⟩,⟨Iq 27 (.bslice 113 1 5 [(.pointer none)] [(0,T10),(1,T14),(2,T18),(3,T22),(4,T26)]),[3,7,11,15,19]⟩,⟨Iq 28 (.len false T27),[20]⟩,⟨Iq 29 (.mv (Ki 0)),[]⟩] [0,0,2,7,0,0,32,127,0,0,512,2047,0,0,8192,32767,0,0,131072,524287,1048575,2097151,0])
 (.block 0 (.loop (Zq (Rg [Iq 30 (.bin .lss T29 T28)])
 (Zq (.cond T30 .skip
 (.exit 0))
 (Zq (.block 1 (Zq (Rg [Iq 31 (.iad 1 T27 T29),Iq 32 (Lo T31),Im 6 T32])
 (Zq (Rg [Im 33 T6,Iq 34 (.cmpn .ptr true T33 (.k (.pointer none)))])
 (.cond T34 (Zq (Rg [Im 35 T6,Im 4 T35])
 .ret)
 .skip))))
 (Rg [Iq 36 (.bin .add T29 (Ki 1)),Im 29 T36])))))))
 (Zq (Rg [Iq 4 (.mv (.k (.pointer none)))])
 .ret)))
def ge63 : FE := ⟨37, y63, [.t 4]⟩
theorem oks63 : FOk Tryz.prog 63 ge63 := FOk.mk1 Tryz.func63
def y75:XC:=(Zq (Rg [Iq 2 (.box 28 T0),Iq 3 (.box 28 T1),Iq 4 (.alloc 30 [Zf,Zs,Zf,Zs]),Iq 5 (.mv (Ki 0))])
 (Zq (Zq (Rg [Iq 13 (Lt 2 T3),Iq 14 (.call 113 [T13]),Iq 15 (.bin .eql T14 (Ki 0))])
 (.cond T15 (Zq (Rg [Iq 16 (.call 146 []),Is (.store 4 T4 T16),Iq 5 (.mv (Ki 20))])
 .ret)
 .skip))
 (Zq (Zq (Rg [Iq 17 (Lt 2 T3),Iq 18 (.call 113 [T17]),Iq 19 (.bin .lss T18 (Ki 0))])
 (.cond T19 (Zq (Rg [Iq 20 (Lt 2 T2),Iq 21 (.call 115 [T20]),Is (.store 2 T2 T21)])
 (Rg [Iq 22 (Lt 2 T3),Iq 23 (.call 115 [T22]),Is (.store 2 T3 T23)]))
 .skip))
 (Zq (Rg [Iq 24 (Lt 2 T2),Iq 25 (Lt 2 T3),Iq 26 (.call 147 [T24,T25]),Iq 6 (.alloc 28 [Zf,Zs]),Is (.store 2 T6 T26)])
 (Zq (Rg [Iq 28 (Lt 2 T2),Iq 29 (Lt 2 T6),Iq 30 (.call 111 [T28,T29]),Im 27 T30,Iq 31 (.ext T27 0),Iq 32 (.ext T27 1),Iq 33 (.ext T27 2),Iq 7 (.alloc 28 [Zf,Zs]),Iq 8 (.alloc 28 [Zf,Zs]),Is (.store 2 T7 T31),Is (.store 2 T8 T32),Im 9 T33])
 (Zq (Rg [Iq 35 (Lt 2 T3),Iq 36 (Lt 2 T6),Iq 37 (.call 111 [T35,T36]),Im 34 T37,Iq 38 (.ext T34 0),Iq 39 (.ext T34 1),Iq 40 (.ext T34 2),Iq 10 (.alloc 28 [Zf,Zs]),Iq 11 (.alloc 28 [Zf,Zs]),Is (.store 2 T10 T38),Is (.store 2 T11 T39),Im 12 T40])
 (Zq (Rg [Iq 41 (Lt 2 T7),Iq 42 (Lt 2 T10),Iq 43 (.build [Zf,Zs,Zf,Zs] [(0,2,T41),(2,2,T42)]),Is (.store 4 T4 T43),Iq 5 (.mv (Ki 0))])
 .ret)))))))
def ge75 : FE := ⟨44, y75, [.c 4 true 4, .t 5]⟩
theorem oks75 : FOk Tryz.prog 75 ge75 := FOk.mk1 Tryz.func75
def y76:XC:=(Zq (Rg [Iq 2 (.alloc 28 [Zf,Zs])])
 (Zq (Rg [Im 5 T0,Iq 6 (.bin .rem T5 (Ki 4294967296)),Im 7 T0,Iq 8 (.bin .quo T7 (Ki 4294967296)),Im 3 T6,Im 4 T8])
 (Zq (Rg [Im 9 T0,Iq 10 (.bin .lss T9 (Ki 0)),Im 11 T3,Im 12 T3,Iq 13 (.un .neg T12),Iq 14 (.mx false T11 T13),Iq 15 (.cvi .u32 T14),Im 16 T4,Im 17 T4,Iq 18 (.un .neg T17),Iq 19 (.mx false T16 T18),Iq 20 (.cvi .u32 T19),Iq 21 (.bslice 221 1 2 [(.int .u32 0)] [(0,T15),(1,T20)]),Iq 22 (.call 148 [T10,T21]),Is (.store 2 T2 T22)])
 .ret)))
def ge76 : FE := ⟨23, y76, [.c 2 true 2]⟩
theorem oks76 : FOk Tryz.prog 76 ge76 := FOk.mk1 Tryz.func76
def y79:XC:=(Zq (Rg [Iq 2 (.box 26 T0),Iq 3 (.box 26 T1),Iq 4 (.alloc 26 [Zf,Zs,Zf,Zs])])
 (Zq (Zq (Rg [Iq 5 (.fad 2 T2),Iq 6 (Lt 2 T5),Iq 7 (.fad 2 T3),Iq 8 (Lt 2 T7),Iq 9 (.call 107 [T6,T8]),Iq 10 (.bin .eql T9 (Ki 0))])
 (.cond T10 (Zq (.draw [⟨Iq 11 (.fad 0 T2),[]⟩,⟨Iq 12 (Lt 2 T11),[0]⟩,⟨Iq 13 (.fad 0 T3),[]⟩,⟨Iq 14 (Lt 2 T13),[2]⟩,⟨Iq 15 (.call 153 [T12,T14]),[1,3]⟩,⟨Iq 16 (.fad 2 T2),[]⟩,⟨Iq 17 (Lt 2 T16),[5]⟩,⟨Iq 18 (.call 105 [T15,T17]),[4,6,4]⟩,⟨Is (.store 4 T4 T18),[7,7,0,1,2,3,4,5,6,7]⟩] [0,1,0,4,15,0,32,127,255])
 .ret)
 .skip))
 (Zq (.draw [⟨Iq 19 (.fad 0 T2),[]⟩,⟨Iq 20 (Lt 2 T19),[0]⟩,⟨Iq 21 (.fad 2 T3),[]⟩,⟨Iq 22 (Lt 2 T21),[2]⟩,⟨Iq 23 (.call 106 [T20,T22]),[1,3]⟩,⟨Iq 24 (.fad 0 T3),[]⟩,⟨Iq 25 (Lt 2 T24),[5]⟩,⟨Iq 26 (.fad 2 T2),[]⟩,⟨Iq 27 (Lt 2 T26),[7]⟩,⟨Iq 28 (.call 106 [T25,T27]),[6,8,4]⟩,⟨Iq 29 (.call 153 [T23,T28]),[4,9,9]⟩,⟨Iq 30 (.fad 2 T2),[]⟩,⟨Iq 31 (Lt 2 T30),[11]⟩,⟨Iq 32 (.fad 2 T3),[]⟩,⟨Iq 33 (Lt 2 T32),[13]⟩,⟨Iq 34 (.call 106 [T31,T33]),[12,14,10]⟩,⟨Iq 35 (.call 105 [T29,T34]),[10,15,15]⟩,⟨Is (.store 4 T4 T35),[16,16,0,1,2,3,4,5,6,7,8,9,10,11,12,13,14,15,16]⟩] [0,1,0,4,15,0,32,0,128,511,1023,0,2048,0,8192,32767,65535,131071])
 .ret)))
def ge79 : FE := ⟨36, y79, [.c 4 true 4]⟩
theorem oks79 : FOk Tryz.prog 79 ge79 := FOk.mk1 Tryz.func79
def y80:XC:=(Zq (Rg [Iq 1 (.box 26 T0),Iq 2 (.alloc 26 [Zf,Zs,Zf,Zs])])
 (Zq (Zq (Rg [Iq 3 (Lt 4 T1),Iq 4 (.call 100 [T3]),Iq 5 (.un .not T4)])
 (.cond T5 (Zq (Rg [Iq 6 (.build [Zf,Zs] []),Iq 7 (.call 104 []),Iq 8 (.build [Zf,Zs,Zf,Zs] [(0,2,T6),(2,2,T7)]),Is (.store 4 T2 T8)])
 .ret)
 .skip))
 (Zq (Rg [Iq 9 (Lt 4 T1),Is (.store 4 T2 T9)])
 .ret)))
def ge80 : FE := ⟨10, y80, [.c 2 true 4]⟩
theorem oks80 : FOk Tryz.prog 80 ge80 := FOk.mk1 Tryz.func80
def y81:XC:=(Zq (Rg [Iq 1 (.box 24 T0),Iq 2 (.alloc 24 [Zf,Zs])])
 (Zq (Rg [Iq 4 (Lt 2 T1),Iq 5 (.call 154 [T4]),Iq 6 (.call 155 [T5]),Iq 3 (.alloc 228 [Zf,Zs]),Is (.store 2 T3 T6)])
 (Zq (.draw [⟨Iq 7 (.fad 0 T3),[]⟩,⟨Iq 8 (.fad 0 T7),[0]⟩,⟨Iq 9 (Lo T8),[1]⟩,⟨Iq 10 (.fad 0 T3),[]⟩,⟨Iq 11 (.fad 1 T10),[3]⟩,⟨Iq 12 (Lo T11),[4]⟩,⟨Iq 13 (.call 156 [T12]),[5]⟩,⟨Iq 14 (.build [Zf,Zs] [(0,1,T9),(1,1,T13)]),[2,6]⟩,⟨Is (.store 2 T2 T14),[7,6,0,1,2,3,4,5,6,7]⟩] [0,1,3,0,8,24,56,127,255])
 .ret)))
def ge81 : FE := ⟨15, y81, [.c 2 true 2]⟩
theorem oks81 : FOk Tryz.prog 81 ge81 := FOk.mk1 Tryz.func81
def y82:XC:=(Zq (Rg [Iq 1 (.box 24 T0),Iq 2 (.alloc 24 [Zf,Zs])])
 (Zq (Rg [Iq 3 (Lt 2 T1),Iq 4 (.call 154 [T3]),Iq 5 (.fld true 2 0 T4),Iq 6 (.fld false 1 1 T5),Iq 7 (.call 156 [T6]),Iq 8 (.build [Zf,Zs] [(1,1,T7)]),Is (.store 2 T2 T8)])
 .ret))
def ge82 : FE := ⟨9, y82, [.c 2 true 2]⟩
theorem oks82 : FOk Tryz.prog 82 ge82 := FOk.mk1 Tryz.func82
def y83:XC:=(Zq (Rg [Iq 0 (.alloc 41 [Ze,Ze,Zs,Zf,Zs,Zf,Zs,Zf,Zs,Zf,Zs,Zi,Zi,Zf,Zs,Zf,Zs,Zf,Zs,Zf,Zs,Zi,Zs,Zs,Zs])])
 (Zq (Rg [Iq 1 (.call 84 [(Ki 0)]),Iq 2 (.call 85 [(Ki 2500)]),Iq 3 (.build [Zf,Zs,Zf,Zs,Zf,Zs,Zf,Zs] [(0,4,T1),(4,4,T2)]),Iq 4 (.bslice 98 8 1 [Zf,Zs,Zf,Zs,Zf,Zs,Zf,Zs] [(0,T3)]),Iq 5 (.call 85 [(Ki 7500)]),Iq 6 (.call 85 [(Ki 5000)]),Iq 7 (.call 85 [(Ki 3000)]),Iq 8 (.call 84 [(Ki 0)]),Iq 9 (.bslice 9 1 1 [Ze] [(0,(.k (.string ⟨#[80]⟩)))]),Iq 10 (.build [Zi,Zs,Zs,Zs,Zs,Zs] [(0,1,(Ki 2020))]),Iq 11 (.bslice 92 6 1 [Zi,Zs,Zs,Zs,Zs,Zs] [(0,T10)]),Iq 12 (.build [Ze,Ze,Zs,Zf,Zs,Zf,Zs,Zf,Zs,Zf,Zs,Zi,Zi,Zf,Zs,Zf,Zs,Zf,Zs,Zf,Zs,Zi,Zs,Zs,Zs] [(0,1,(.k (.string ⟨#[83]⟩))),(1,1,(.k (.string ⟨#[80]⟩))),(2,1,T4),(3,4,T5),(7,4,T6),(11,1,(Ki 1)),(12,1,(Ki 2)),(13,4,T7),(17,4,T8),(21,1,(Ki 1)),(23,1,T9),(24,1,T11)]),Is (.store 25 T0 T12)])
 .ret))
def ge83 : FE := ⟨13, y83, [.c 0 true 25]⟩
theorem oks83 : FOk Tryz.prog 83 ge83 := FOk.mk1 Tryz.func83
def y84:XC:=(Zq (Rg [Iq 2 (.alloc 26 [Zf,Zs,Zf,Zs])])
 (Zq (Rg [Im 3 T0,Iq 4 (.call 26 [T3,(Ki 100)]),Is (.store 4 T2 T4)])
 .ret))
def ge84 : FE := ⟨5, y84, [.c 2 true 4]⟩
theorem oks84 : FOk Tryz.prog 84 ge84 := FOk.mk1 Tryz.func84
def y85:XC:=(Zq (Rg [Iq 2 (.alloc 26 [Zf,Zs,Zf,Zs])])
 (Zq (Rg [Im 3 T0,Iq 4 (.call 26 [T3,(Ki 10000)]),Is (.store 4 T2 T4)])
 .ret))
def ge85 : FE := ⟨5, y85, [.c 2 true 4]⟩
theorem oks85 : FOk Tryz.prog 85 ge85 := FOk.mk1 Tryz.func85
def y86:XC:=(Zq (Rg [Iq 0 (.mv (.k Zs))])
 (Zq (Rg [Iq 2 (.call 26 [(Ki 0),(Ki 1)]),Iq 1 (.alloc 26 [Zf,Zs,Zf,Zs]),Is (.store 4 T1 T2)])
 (Zq (.draw [⟨Iq 3 (Lt 4 T1),[]⟩,⟨Iq 4 (.build [Ze,(.int .u8 0),Zf,Zs,Zf,Zs] [(0,1,(.k (.string ⟨#[115,97,108,101,115]⟩))),(1,1,(.k (.int .u8 1))),(2,4,T3)]),[0]⟩,⟨Iq 5 (Lt 4 T1),[]⟩,⟨Iq 6 (.build [Ze,(.int .u8 0),Zf,Zs,Zf,Zs] [(0,1,(.k (.string ⟨#[99,111,115,116]⟩))),(1,1,(.k (.int .u8 2))),(2,4,T5)]),[2]⟩,⟨Iq 7 (Lt 4 T1),[]⟩,⟨Iq 8 (.build [Ze,(.int .u8 0),Zf,Zs,Zf,Zs] [(0,1,(.k (.string ⟨#[102,114,101,101]⟩))),(1,1,(.k (.int .u8 3))),(2,4,T7)]),[4]⟩,⟨Iq 9 (.call 85 [(Ki 5000)]),[]⟩,⟨Iq 10 (.build [Ze,(.int .u8 0),Zf,Zs,Zf,Zs] [(0,1,(.k (.string ⟨#[109,101,97,108,115]⟩))),(1,1,(.k (.int .u8 4))),(2,4,T9)]),[6]⟩,⟨Iq 11 (.call 84 [(Ki 10000)]),[6]⟩,⟨Iq 12 (.build [Ze,(.int .u8 0),Zf,Zs,Zf,Zs] [(0,1,(.k (.string ⟨#[103,105,102,116,115]⟩))),(1,1,(.k (.int .u8 5))),(2,4,T11)]),[8]⟩,⟨Iq 13 (.call 26 [(Ki 2),(Ki 1)]),[8]⟩,⟨Iq 14 (.build [Ze,(.int .u8 0),Zf,Zs,Zf,Zs] [(0,1,(.k (.string ⟨#[97,100,115]⟩))),(1,1,(.k (.int .u8 6))),(2,4,T13)]),[10]⟩,⟨Iq 15 (Lt 4 T1),[]⟩,⟨Iq 16 (.build [Ze,(.int .u8 0),Zf,Zs,Zf,Zs] [(0,1,(.k (.string ⟨#[100,101,112]⟩))),(1,1,(.k (.int .u8 7))),(2,4,T15)]),[12]⟩,⟨Iq 17 (Lt 4 T1),[]⟩,⟨Iq 18 (.build [Ze,(.int .u8 0),Zf,Zs,Zf,Zs] [(0,1,(.k (.string ⟨#[105,110,116,45,105,110]⟩))),(1,1,(.k (.int .u8 8))),(2,4,T17)]),[14]⟩,⟨Iq 19 (Lt 4 T1),[]⟩,⟨Iq 20 (.build [Ze,(.int .u8 0),Zf,Zs,Zf,Zs] [(0,1,(.k (.string ⟨#[105,110,116,45,111,117,116]⟩))),(1,1,(.k (.int .u8 9))),(2,4,T19)]),[16]⟩,⟨Iq 21 (Lt 4 T1),[]⟩,⟨Iq 22 (.build [Ze,(.int .u8 0),Zf,Zs,Zf,Zs] [(0,1,(.k (.string ⟨#[100,105,118]⟩))),(1,1,(.k (.int .u8 10))),(2,4,T21)]),[18]⟩,⟨Iq 23 (Lt 4 T1),[]⟩,⟨Iq 24 (.build [Ze,(.int .u8 0),Zf,Zs,Zf,Zs] [(0,1,(.k (.string ⟨#[100,105,115,116]⟩))),(1,1,(.k (.int .u8 11))),(2,4,T23)]),[20]⟩,⟨Iq 25 (.bslice 102 6 11 [Ze,(.int .u8 0),Zf,Zs,Zf,Zs] [(0,T4),(1,T6),(2,T8),(3,T10),(4,T12),(5,T14),(6,T16),(7,T18),(8,T20),(9,T22),(10,T24)]),[1,3,5,7,9,11,13,15,17,19,21]⟩,⟨Im 0 T25,[22,10,0,1,2,3,4,5,6,7,8,9,10,11,12,13,14,15,16,17,18,19,20,21,22]⟩] [0,1,0,4,0,16,0,64,64,320,320,1344,0,4096,0,16384,0,65536,0,262144,0,1048576,4194303,8388607])
 .ret)))
def ge86 : FE := ⟨26, y86, [.t 0]⟩
theorem oks86 : FOk Tryz.prog 86 ge86 := FOk.mk1 Tryz.func86
def y87:XC:=(Zq (Rg [Iq 0 (.alloc 92 [Zi,Zs,Zs,Zs,Zs,Zs])])
 (Zq (Rg [Iq 2 (.build [Zi,Zs,Zs,Zs,Zs,Zs] [(0,1,(Ki 2020))]),Iq 1 (.alloc 92 [Zi,Zs,Zs,Zs,Zs,Zs]),Is (.store 6 T1 T2)])
 (Zq (Rg [Iq 3 (.call 85 [(Ki 10000)]),Iq 4 (.build [Ze,Ze,Zf,Zs,Zf,Zs] [(0,1,(.k (.string ⟨#[80]⟩))),(1,1,(.k (.string ⟨#[65]⟩))),(2,4,T3)]),Iq 5 (.call 85 [(Ki 5000)]),Iq 6 (.build [Ze,Ze,Zf,Zs,Zf,Zs] [(0,1,(.k (.string ⟨#[65]⟩))),(1,1,(.k (.string ⟨#[66]⟩))),(2,4,T5)]),Iq 7 (.call 85 [(Ki 3000)]),Iq 8 (.build [Ze,Ze,Zf,Zs,Zf,Zs] [(0,1,(.k (.string ⟨#[80]⟩))),(1,1,(.k (.string ⟨#[66]⟩))),(2,4,T7)]),Iq 9 (.call 85 [(Ki 4000)]),Iq 10 (.build [Ze,Ze,Zf,Zs,Zf,Zs] [(0,1,(.k (.string ⟨#[80]⟩))),(1,1,(.k (.string ⟨#[67]⟩))),(2,4,T9)]),Iq 11 (.call 85 [(Ki 10000)]),Iq 12 (.build [Ze,Ze,Zf,Zs,Zf,Zs] [(0,1,(.k (.string ⟨#[67]⟩))),(1,1,(.k (.string ⟨#[68]⟩))),(2,4,T11)]),Iq 13 (.bslice 172 6 5 [Ze,Ze,Zf,Zs,Zf,Zs] [(0,T4),(1,T6),(2,T8),(3,T10),(4,T12)]),Iq 14 (.fad 1 T1),Is (.store 1 T14 T13)])
 (Zq (Rg [Iq 15 (.call 84 [(Ki 100000)]),Iq 16 (.build [Ze,Ze,Zf,Zs,Zf,Zs] [(0,1,(.k (.string ⟨#[80]⟩))),(1,1,(.k (.string ⟨#[115,97,108,101,115]⟩))),(2,4,T15)]),Iq 17 (.call 84 [(Ki 40000)]),Iq 18 (.build [Ze,Ze,Zf,Zs,Zf,Zs] [(0,1,(.k (.string ⟨#[80]⟩))),(1,1,(.k (.string ⟨#[99,111,115,116]⟩))),(2,4,T17)]),Iq 19 (.call 84 [(Ki 20000)]),Iq 20 (.build [Ze,Ze,Zf,Zs,Zf,Zs] [(0,1,(.k (.string ⟨#[80]⟩))),(1,1,(.k (.string ⟨#[105,110,116,45,111,117,116]⟩))),(2,4,T19)]),Iq 21 (.call 84 [(Ki 50000)]),Iq 22 (.build [Ze,Ze,Zf,Zs,Zf,Zs] [(0,1,(.k (.string ⟨#[65]⟩))),(1,1,(.k (.string ⟨#[115,97,108,101,115]⟩))),(2,4,T21)]),Iq 23 (.call 84 [(Ki 90000)]),Iq 24 (.build [Ze,Ze,Zf,Zs,Zf,Zs] [(0,1,(.k (.string ⟨#[65]⟩))),(1,1,(.k (.string ⟨#[99,111,115,116]⟩))),(2,4,T23)]),Iq 25 (.call 84 [(Ki 4001)]),Iq 26 (.build [Ze,Ze,Zf,Zs,Zf,Zs] [(0,1,(.k (.string ⟨#[65]⟩))),(1,1,(.k (.string ⟨#[109,101,97,108,115]⟩))),(2,4,T25)]),Iq 27 (.call 84 [(Ki 9000)]),Iq 28 (.build [Ze,Ze,Zf,Zs,Zf,Zs] [(0,1,(.k (.string ⟨#[65]⟩))),(1,1,(.k (.string ⟨#[97,100,115]⟩))),(2,4,T27)]),Iq 29 (.call 84 [(Ki 30000)]),Iq 30 (.build [Ze,Ze,Zf,Zs,Zf,Zs] [(0,1,(.k (.string ⟨#[66]⟩))),(1,1,(.k (.string ⟨#[115,97,108,101,115]⟩))),(2,4,T29)]),Iq 31 (.call 84 [(Ki 3000)]),Iq 32 (.build [Ze,Ze,Zf,Zs,Zf,Zs] [(0,1,(.k (.string ⟨#[66]⟩))),(1,1,(.k (.string ⟨#[100,101,112]⟩))),(2,4,T31)]),Iq 33 (.call 84 [(Ki 2000)]),Iq 34 (.build [Ze,Ze,Zf,Zs,Zf,Zs] [(0,1,(.k (.string ⟨#[66]⟩))),(1,1,(.k (.string ⟨#[105,110,116,45,105,110]⟩))),(2,4,T33)]),Iq 35 (.call 84 [(Ki 25000)]),Iq 36 (.build [Ze,Ze,Zf,Zs,Zf,Zs] [(0,1,(.k (.string ⟨#[67]⟩))),(1,1,(.k (.string ⟨#[99,111,115,116]⟩))),(2,4,T35)]),Iq 37 (.call 84 [(Ki 5000)]),Iq 38 (.build [Ze,Ze,Zf,Zs,Zf,Zs] [(0,1,(.k (.string ⟨#[67]⟩))),(1,1,(.k (.string ⟨#[115,97,108,101,115]⟩))),(2,4,T37)]),Iq 39 (.call 84 [(Ki 777)]),Iq 40 (.build [Ze,Ze,Zf,Zs,Zf,Zs] [(0,1,(.k (.string ⟨#[68]⟩))),(1,1,(.k (.string ⟨#[102,114,101,101]⟩))),(2,4,T39)]),Iq 41 (.bslice 174 6 13 [Ze,Ze,Zf,Zs,Zf,Zs] [(0,T16),(1,T18),(2,T20),(3,T22),(4,T24),(5,T26),(6,T28),(7,T30),(8,T32),(9,T34),(10,T36),(11,T38),(12,T40)]),Iq 42 (.fad 2 T1),Is (.store 1 T42 T41)])
 (Zq (Rg [Iq 43 (.call 157 [(.k (.string ⟨#[71,49]⟩)),(.k (.int .u8 1)),(.k (.string ⟨#[65]⟩)),(.k (.string ⟨#[80]⟩)),(.k (.string ⟨#[115,97,108,101,115]⟩)),(.k (.string ⟨#[99,111,115,116]⟩)),(Ki 12000)]),Iq 44 (.call 157 [(.k (.string ⟨#[76,49]⟩)),(.k (.int .u8 3)),(.k (.string ⟨#[66]⟩)),(.k (.string ⟨#[80]⟩)),(.k (.string ⟨#[105,110,116,45,105,110]⟩)),(.k (.string ⟨#[105,110,116,45,111,117,116]⟩)),(Ki 2000)]),Iq 45 (.app 176 10 144 [Zf,Ze,(.int .u8 0),Ze,Ze,Ze,Zf,Zs,Zf,Zs] T43 T44),Iq 46 (.fad 3 T1),Is (.store 1 T46 T45)])
 (Zq (Rg [Iq 47 (.call 84 [(Ki 3000)]),Iq 48 (.call 85 [(Ki 5000)]),Iq 49 (.build [Ze,Zf,Zs,Zf,Zs,Zf,Zs,Zf,Zs] [(0,1,(.k (.string ⟨#[71,49]⟩))),(1,4,T47),(5,4,T48)]),Iq 50 (.bslice 178 9 1 [Ze,Zf,Zs,Zf,Zs,Zf,Zs,Zf,Zs] [(0,T49)]),Iq 51 (.fad 4 T1),Is (.store 1 T51 T50)])
 (Zq (Rg [Iq 52 (Lt 6 T1),Is (.store 6 T0 T52)])
 .ret)))))))
def ge87 : FE := ⟨53, y87, [.c 0 true 6]⟩
theorem oks87 : FOk Tryz.prog 87 ge87 := FOk.mk1 Tryz.func87
def y88:XC:=(Zq (Rg [Iq 0 (.alloc 92 [Zi,Zs,Zs,Zs,Zs,Zs])])
 (Zq (Rg [Iq 2 (.build [Zi,Zs,Zs,Zs,Zs,Zs] [(0,1,(Ki 2021))]),Iq 1 (.alloc 92 [Zi,Zs,Zs,Zs,Zs,Zs]),Is (.store 6 T1 T2)])
 (Zq (Rg [Iq 3 (.call 85 [(Ki 10000)]),Iq 4 (.build [Ze,Ze,Zf,Zs,Zf,Zs] [(0,1,(.k (.string ⟨#[80]⟩))),(1,1,(.k (.string ⟨#[65]⟩))),(2,4,T3)]),Iq 5 (.call 85 [(Ki 5000)]),Iq 6 (.build [Ze,Ze,Zf,Zs,Zf,Zs] [(0,1,(.k (.string ⟨#[65]⟩))),(1,1,(.k (.string ⟨#[66]⟩))),(2,4,T5)]),Iq 7 (.call 85 [(Ki 3000)]),Iq 8 (.build [Ze,Ze,Zf,Zs,Zf,Zs] [(0,1,(.k (.string ⟨#[80]⟩))),(1,1,(.k (.string ⟨#[66]⟩))),(2,4,T7)]),Iq 9 (.call 85 [(Ki 8000)]),Iq 10 (.build [Ze,Ze,Zf,Zs,Zf,Zs] [(0,1,(.k (.string ⟨#[80]⟩))),(1,1,(.k (.string ⟨#[67]⟩))),(2,4,T9)]),Iq 11 (.call 85 [(Ki 10000)]),Iq 12 (.build [Ze,Ze,Zf,Zs,Zf,Zs] [(0,1,(.k (.string ⟨#[67]⟩))),(1,1,(.k (.string ⟨#[68]⟩))),(2,4,T11)]),Iq 13 (.bslice 172 6 5 [Ze,Ze,Zf,Zs,Zf,Zs] [(0,T4),(1,T6),(2,T8),(3,T10),(4,T12)]),Iq 14 (.fad 1 T1),Is (.store 1 T14 T13)])
 (Zq (Rg [Iq 15 (.call 84 [(Ki 150000)]),Iq 16 (.build [Ze,Ze,Zf,Zs,Zf,Zs] [(0,1,(.k (.string ⟨#[80]⟩))),(1,1,(.k (.string ⟨#[99,111,115,116]⟩))),(2,4,T15)]),Iq 17 (.call 84 [(Ki 20000)]),Iq 18 (.build [Ze,Ze,Zf,Zs,Zf,Zs] [(0,1,(.k (.string ⟨#[80]⟩))),(1,1,(.k (.string ⟨#[115,97,108,101,115]⟩))),(2,4,T17)]),Iq 19 (.call 84 [(Ki 5000)]),Iq 20 (.build [Ze,Ze,Zf,Zs,Zf,Zs] [(0,1,(.k (.string ⟨#[80]⟩))),(1,1,(.k (.string ⟨#[100,105,115,116]⟩))),(2,4,T19)]),Iq 21 (.call 84 [(Ki 1000)]),Iq 22 (.build [Ze,Ze,Zf,Zs,Zf,Zs] [(0,1,(.k (.string ⟨#[65]⟩))),(1,1,(.k (.string ⟨#[100,105,118]⟩))),(2,4,T21)]),Iq 23 (.call 84 [(Ki 1000)]),Iq 24 (.build [Ze,Ze,Zf,Zs,Zf,Zs] [(0,1,(.k (.string ⟨#[66]⟩))),(1,1,(.k (.string ⟨#[100,105,115,116]⟩))),(2,4,T23)]),Iq 25 (.call 84 [(Ki 60000)]),Iq 26 (.build [Ze,Ze,Zf,Zs,Zf,Zs] [(0,1,(.k (.string ⟨#[67]⟩))),(1,1,(.k (.string ⟨#[115,97,108,101,115]⟩))),(2,4,T25)]),Iq 27 (.call 84 [(Ki 25000)]),Iq 28 (.build [Ze,Ze,Zf,Zs,Zf,Zs] [(0,1,(.k (.string ⟨#[68]⟩))),(1,1,(.k (.string ⟨#[103,105,102,116,115]⟩))),(2,4,T27)]),Iq 29 (.call 84 [(Ki 12345)]),Iq 30 (.build [Ze,Ze,Zf,Zs,Zf,Zs] [(0,1,(.k (.string ⟨#[68]⟩))),(1,1,(.k (.string ⟨#[115,97,108,101,115]⟩))),(2,4,T29)]),Iq 31 (.bslice 174 6 8 [Ze,Ze,Zf,Zs,Zf,Zs] [(0,T16),(1,T18),(2,T20),(3,T22),(4,T24),(5,T26),(6,T28),(7,T30)]),Iq 32 (.fad 2 T1),Is (.store 1 T32 T31)])
 (Zq (Rg [Iq 33 (.call 157 [(.k (.string ⟨#[86,49]⟩)),(.k (.int .u8 4)),(.k (.string ⟨#[65]⟩)),(.k (.string ⟨#[66]⟩)),(.k (.string ⟨#[100,105,118]⟩)),(.k (.string ⟨#[100,105,115,116]⟩)),(Ki 1000)]),Iq 34 (.call 157 [(.k (.string ⟨#[83,49]⟩)),(.k (.int .u8 2)),(.k (.string ⟨#[67]⟩)),(.k (.string ⟨#[68]⟩)),(.k (.string ⟨#[115,97,108,101,115]⟩)),(.k (.string ⟨#[103,105,102,116,115]⟩)),(Ki 5000)]),Iq 35 (.app 176 10 144 [Zf,Ze,(.int .u8 0),Ze,Ze,Ze,Zf,Zs,Zf,Zs] T33 T34),Iq 36 (.fad 3 T1),Is (.store 1 T36 T35)])
 (Zq (Rg [Iq 37 (.call 85 [(Ki 2500)]),Iq 38 (.build [Ze,Zf,Zs,Zf,Zs] [(0,1,(.k (.string ⟨#[71,49]⟩))),(1,4,T37)]),Iq 39 (.bslice 143 5 1 [Ze,Zf,Zs,Zf,Zs] [(0,T38)]),Iq 40 (.fad 5 T1),Is (.store 1 T40 T39)])
 (Zq (Rg [Iq 41 (Lt 6 T1),Is (.store 6 T0 T41)])
 .ret)))))))
def ge88 : FE := ⟨42, y88, [.c 0 true 6]⟩
theorem oks88 : FOk Tryz.prog 88 ge88 := FOk.mk1 Tryz.func88
def y89:XC:=(Zq (Rg [Iq 0 (.alloc 92 [Zi,Zs,Zs,Zs,Zs,Zs])])
 (Zq (Rg [Iq 2 (.build [Zi,Zs,Zs,Zs,Zs,Zs] [(0,1,(Ki 2022))]),Iq 1 (.alloc 92 [Zi,Zs,Zs,Zs,Zs,Zs]),Is (.store 6 T1 T2)])
 (Zq (Rg [Iq 3 (.call 85 [(Ki 7400)]),Iq 4 (.build [Ze,Ze,Zf,Zs,Zf,Zs] [(0,1,(.k (.string ⟨#[80]⟩))),(1,1,(.k (.string ⟨#[65]⟩))),(2,4,T3)]),Iq 5 (.call 85 [(Ki 8000)]),Iq 6 (.build [Ze,Ze,Zf,Zs,Zf,Zs] [(0,1,(.k (.string ⟨#[80]⟩))),(1,1,(.k (.string ⟨#[67]⟩))),(2,4,T5)]),Iq 7 (.call 85 [(Ki 9999)]),Iq 8 (.build [Ze,Ze,Zf,Zs,Zf,Zs] [(0,1,(.k (.string ⟨#[67]⟩))),(1,1,(.k (.string ⟨#[68]⟩))),(2,4,T7)]),Iq 9 (.bslice 172 6 3 [Ze,Ze,Zf,Zs,Zf,Zs] [(0,T4),(1,T6),(2,T8)]),Iq 10 (.fad 1 T1),Is (.store 1 T10 T9)])
 (Zq (Rg [Iq 11 (.call 84 [(Ki 300000)]),Iq 12 (.build [Ze,Ze,Zf,Zs,Zf,Zs] [(0,1,(.k (.string ⟨#[80]⟩))),(1,1,(.k (.string ⟨#[115,97,108,101,115]⟩))),(2,4,T11)]),Iq 13 (.call 84 [(Ki 9000)]),Iq 14 (.build [Ze,Ze,Zf,Zs,Zf,Zs] [(0,1,(.k (.string ⟨#[80]⟩))),(1,1,(.k (.string ⟨#[105,110,116,45,111,117,116]⟩))),(2,4,T13)]),Iq 15 (.call 84 [(Ki 10000)]),Iq 16 (.build [Ze,Ze,Zf,Zs,Zf,Zs] [(0,1,(.k (.string ⟨#[65]⟩))),(1,1,(.k (.string ⟨#[115,97,108,101,115]⟩))),(2,4,T15)]),Iq 17 (.call 84 [(Ki 70001)]),Iq 18 (.build [Ze,Ze,Zf,Zs,Zf,Zs] [(0,1,(.k (.string ⟨#[67]⟩))),(1,1,(.k (.string ⟨#[115,97,108,101,115]⟩))),(2,4,T17)]),Iq 19 (.call 84 [(Ki 8000)]),Iq 20 (.build [Ze,Ze,Zf,Zs,Zf,Zs] [(0,1,(.k (.string ⟨#[68]⟩))),(1,1,(.k (.string ⟨#[99,111,115,116]⟩))),(2,4,T19)]),Iq 21 (.call 84 [(.k (.int .i64 (-100)))]),Iq 22 (.build [Ze,Ze,Zf,Zs,Zf,Zs] [(0,1,(.k (.string ⟨#[68]⟩))),(1,1,(.k (.string ⟨#[109,101,97,108,115]⟩))),(2,4,T21)]),Iq 23 (.bslice 174 6 6 [Ze,Ze,Zf,Zs,Zf,Zs] [(0,T12),(1,T14),(2,T16),(3,T18),(4,T20),(5,T22)]),Iq 24 (.fad 2 T1),Is (.store 1 T24 T23)])
 (Zq (Rg [Iq 25 (.call 85 [(Ki 7500)]),Iq 26 (.build [Ze,Zf,Zs,Zf,Zs] [(0,1,(.k (.string ⟨#[71,49]⟩))),(1,4,T25)]),Iq 27 (.bslice 143 5 1 [Ze,Zf,Zs,Zf,Zs] [(0,T26)]),Iq 28 (.fad 5 T1),Is (.store 1 T28 T27)])
 (Zq (Rg [Iq 29 (Lt 6 T1),Is (.store 6 T0 T29)])
 .ret))))))
def ge89 : FE := ⟨30, y89, [.c 0 true 6]⟩
theorem oks89 : FOk Tryz.prog 89 ge89 := FOk.mk1 Tryz.func89
def y90:XC:=(Zq (Rg [Iq 4 (.mv (Ki 0))])
 (Zq (Rg [Im 5 T0,Im 6 T1,Iq 7 (.call 158 [T5,T6]),Im 4 T7])
 .ret))
def ge90 : FE := ⟨8, y90, [.t 4]⟩
theorem oks90 : FOk Tryz.prog 90 ge90 := FOk.mk1 Tryz.func90
def y93:XC:=(Zq (Rg [Iq 2 (.alloc 148 [Zf,Zf,Zf,Zf,Zf,Zf,Zf,Zf,Zf,Zf,Zf,Zf,Zf,Zf,Zf,Zf,Zf,Zf,Zf,Zf,Zf,Zf,Zf,Zf,Zf,Zf,Zf,Zf,Zf,Zf,Zf,Zf,Zf,Zf,Zf,Zf,Zf,Zf,Zf,Zf,Zf,Zf,Zf,Zf,Zf,Zf,Zf,Zf,Zf,Zf,Zf,Zf,Zf,Zf,Zf,Zf,Zf,Zf,Zf,Zf,Zf,Zf,Zf,Zf,Zf,Zf,Zf,Zf,Zf,Zf,Zf,Zf,Zf,Zf,Zf,Zf,Zf,Zf,Zf,Zf,Zf,Zf,Zf,Zf,Zf,Zf,Zf,Zf,Zf,Zf,Zf,Zf,Zf,Zf,Zf,Zf,Zf,Zf,Zf,Zf,Zf,Zf,Zf,Zf,Zf,Zf,Zf,Zf,Zf,Zf,Zf,Zf,Zf,Zf,Zf,Zf,Zf,Zf,Zf,Zf,Zf,Zf,Zf,Zf,Zf,Zf,Zf,Zf,Zf,Zf,Zf,Zf,Zf,Zf,Zf,Zf,Zf,Zf,Zf,Zf,Zf,Zf,Zf,Zf,Zf,Zf,Zf,Zf,Zf,Zf,Zf,Zf,Zf,Zf,Zf,Zf,Zf,Zf,Zf,Zf,Zf,Zf,Zf,Zf,Zf,Zf,Zf,Zf,Zf,Zf,Zf,Zf,Zf,Zf,Zf,Zf,Zf,Zf,Zf,Zf,Zf,Zf,Zf,Zf,Zf,Zf,Zf,Zf,Zf,Zf,Zf,Zf,Zf,Zf,Zf,Zf,Zf,Zf,Zf,Zf,Zf,Zf,Zf,Zf,Zf,Zf,Zf,Zf,Zf,Zf,Zf,Zf,Zf,Zf,Zf,Zf,Zf,Zf,Zf,Zf,Zf,Zf,Zf,Zf,Zf,Zf,Zf,Zf,Zf,Zf,Zf,Zf,Zf,Zf,Zf,Zf,Zf,Zf,Zf,Zf,Zf,Zf,Zf,Zf,Zf,Zf,Zf,Zf,Zf,Zf,Zf,Zf,Zf,Zf,Zf,Zf]),Iq 3 (.mv Kf)])
 (Zq (Zq (Rg [Iq 4 (.mv (Ki 0))])
 (.block 0 (.loop (Zq (Zq (Rg [Im 6 T4,Im 7 T0,Iq 8 (.len true T7),Iq 9 (.bin .lss T6 T8)])
 (.cond T9 .skip
 (.exit 0)))
 (Zq (.block 1 (Zq (Rg [Im 12 T0,Im 13 T4,Iq 14 (.ixs T12 T13),Im 5 T14])
 (Zq (Zq (Rg [Im 15 T5,Iq 16 (.bin .geq T15 (.k (.int .u8 128)))])
 (.cond T16 (Zq (Rg [Iq 17 (Lt 256 T2),Is (.store 256 T2 T17),Iq 3 (.mv Kf)])
 .ret)
 .skip))
 (Rg [Im 18 T5,Iq 19 (.iaa 256 1 T2 T18),Is (.store 1 T19 Kt)]))))
 (Rg [Im 10 T4,Iq 11 (.bin .add T10 (Ki 1)),Im 4 T11]))))))
 (Zq (Rg [Iq 20 (Lt 256 T2),Is (.store 256 T2 T20),Iq 3 (.mv Kt)])
 .ret)))
def ge93 : FE := ⟨21, y93, [.c 2 true 256, .t 3]⟩
theorem oks93 : FOk Tryz.prog 93 ge93 := FOk.mk1 Tryz.func93
def y94:XC:=(Zq (Rg [Iq 4 (.mv (.k Ze))])
 (Zq (.block 0 (.loop (Zq (Zq (Rg [Im 5 T0,Iq 6 (.len true T5),Iq 7 (.bin .gtr T6 (Ki 0))])
 (.cond T7 .skip
 (.exit 0)))
 (.block 1 (Zq (Zq (Rg [Im 8 T1,Im 9 T0,Iq 10 (.ixs T9 (Ki 0)),Iq 11 (.call 159 [T8,T10]),Iq 12 (.un .not T11)])
 (.cond T12 (.exit 0)
 .skip))
 (Rg [Im 13 T0,Iq 14 (.slcS T13 (some (Ki 1)) none),Im 0 T14]))))))
 (Zq (Rg [Im 15 T0,Im 4 T15])
 .ret)))
def ge94 : FE := ⟨16, y94, [.t 4]⟩
theorem oks94 : FOk Tryz.prog 94 ge94 := FOk.mk1 Tryz.func94
def y95:XC:=(Zq (Rg [Iq 4 (.mv (.k Ze))])
 (Zq (.block 0 (.loop (Zq (Zq (Rg [Im 5 T0,Iq 6 (.len true T5),Iq 7 (.bin .gtr T6 (Ki 0))])
 (.cond T7 .skip
 (.exit 0)))
 (.block 1 (Zq (Zq (Rg [Im 8 T1,Im 9 T0,Im 10 T0,Iq 11 (.len true T10),Iq 12 (.bin .sub T11 (Ki 1)),Iq 13 (.ixs T9 T12),Iq 14 (.call 159 [T8,T13]),Iq 15 (.un .not T14)])
 (.cond T15 (.exit 0)
 .skip))
 (Rg [Im 16 T0,Im 17 T0,Iq 18 (.len true T17),Iq 19 (.bin .sub T18 (Ki 1)),Iq 20 (.slcS T16 none (some T19)),Im 0 T20]))))))
 (Zq (Rg [Im 21 T0,Im 4 T21])
 .ret)))
def ge95 : FE := ⟨22, y95, [.t 4]⟩
theorem oks95 : FOk Tryz.prog 95 ge95 := FOk.mk1 Tryz.func95
def y98:XC:=(Zq (Rg [Iq 4 (.mv (Ki 0))])
 (Zq (Rg [Im 5 T0,Im 6 T1,Iq 7 (.call 162 [T5,T6,Kt]),Im 4 T7])
 .ret))
def ge98 : FE := ⟨8, y98, [.t 4]⟩
theorem oks98 : FOk Tryz.prog 98 ge98 := FOk.mk1 Tryz.func98
def y99:XC:=(Zq (Rg [Iq 4 (.mv (Ki 0))])
 (.block 0 (Zq (Rg [Im 161 T1,Iq 162 (.bin .leq (.k (.int .i32 0)) T161),Im 163 T162,Iw 164 163 (.mv T1),Iw 165 163 (.bin .lss T164 (.k (.int .i32 128))),Iq 166 (.pick T163 T165 Kf),Im 160 T166])
 (.cond T160 (Zq (Rg [Im 167 T0,Im 168 T1,Iq 169 (.cvi .u8 T168),Iq 170 (.call 32 [T167,T169]),Im 4 T170])
 .ret)
 (Zq (Rg [Im 172 T1,Iq 173 (.bin .eql T172 (.k (.int .i32 65533))),Im 171 T173])
 (.cond T171 (Zq (Zq (Rg [Im 174 T0,Iq 175 (.rngS T174)])
 (.block 9 (.loop (Zq (Rg [Iq 176 (.nxtS T175),Iq 177 (.ext T176 0)])
 (Zq (.cond T177 .skip
 (.exit 9))
 (.block 10 (Zq (Rg [Iq 178 (.ext T176 1),Iq 179 (.ext T176 2),Im 5 T178,Im 6 T179])
 (Zq (Rg [Im 180 T6,Iq 181 (.bin .eql T180 (.k (.int .i32 65533)))])
 (.cond T181 (Zq (Rg [Im 182 T5,Im 4 T182])
 .ret)
 .skip)))))))))
 (Zq (Rg [Iq 4 (.mv (.k (.int .i64 (-1))))])
 .ret))
 (Zq (Rg [Im 184 T1,Iq 185 (.call 163 [T184]),Iq 186 (.un .not T185),Im 183 T186])
 (.cond T183 (Zq (Rg [Iq 4 (.mv (.k (.int .i64 (-1))))])
 .ret)
 .bad))))))))
def ge99 : FE := ⟨187, y99, [.t 4]⟩
theorem oks99 : FOk Tryz.prog 99 ge99 := FOk.mk1 Tryz.func99
def y100:XC:=(Zq (Rg [Iq 1 (.box 26 T0),Iq 2 (.mv Kf)])
 (Zq (Rg [Iq 3 (.fad 0 T1),Iq 4 (Lt 2 T3),Iq 5 (.call 166 [T4]),Im 6 T5,Iw 7 6 (.fad 2 T1),Iw 8 6 (Lt 2 T7),Iw 9 6 (.call 166 [T8]),Iq 10 (.pick T6 T9 Kf),Im 11 T10,Iw 12 11 (.fad 2 T1),Iw 13 11 (Lt 2 T12),Iw 14 11 (.call 103 [T13]),Iw 15 11 (.bin .gtr T14 (Ki 0)),Iq 16 (.pick T11 T15 Kf),Im 17 T16,Iw 18 17 (.fad 0 T1),Iw 19 17 (Lt 2 T18),Iw 20 17 (.fad 2 T1),Iw 21 17 (Lt 2 T20),Iw 22 17 (.call 167 [T19,T21]),Iw 23 17 (.call 104 []),Iw 24 17 (.call 107 [T22,T23]),Iw 25 17 (.bin .eql T24 (Ki 0)),Iq 26 (.pick T17 T25 Kf),Im 2 T26])
 .ret))
def ge100 : FE := ⟨27, y100, [.t 2]⟩
theorem oks100 : FOk Tryz.prog 100 ge100 := FOk.mk1 Tryz.func100
def y101:XC:=(Zq (Rg [Iq 2 (.box 24 T0),Iq 3 (.box 24 T1),Iq 4 (.alloc 24 [Zf,Zs]),Iq 5 (.alloc 24 [Zf,Zs]),Iq 6 (.mv (Ki 0))])
 (Zq (.draw [⟨Iq 11 (Lt 2 T2),[]⟩,⟨Iq 12 (.call 154 [T11]),[0]⟩,⟨Iq 13 (Lt 2 T3),[]⟩,⟨Iq 14 (.call 154 [T13]),[2,1]⟩,⟨Iq 7 (.alloc 228 [Zf,Zs]),[]⟩,⟨Iq 8 (.alloc 228 [Zf,Zs]),[]⟩,⟨Is (.store 2 T7 T12),[4,1,3,0,1,4,5]⟩,⟨Is (.store 2 T8 T14),[5,3,6,0,1,2,3,4,5,6]⟩] [0,1,0,7,0,0,63,127])
 (Zq (Rg [Iq 16 (.fad 0 T7),Iq 17 (.fad 1 T16),Iq 18 (Lo T17),Iq 19 (.fad 0 T8),Iq 20 (.fad 1 T19),Iq 21 (Lo T20),Iq 22 (.call 168 [T18,T21]),Im 15 T22,Iq 23 (.ext T15 0),Iq 24 (.ext T15 1),Iq 25 (.ext T15 2),Im 9 T23,Im 10 T24,Im 6 T25])
 (Zq (Zq (Rg [Im 26 T6,Iq 27 (.bin .neq T26 (Ki 0))])
 (.cond T27 (Zq (Rg [Iq 28 (.build [Zf,Zs] []),Iq 29 (.build [Zf,Zs] []),Is (.store 2 T4 T28),Is (.store 2 T5 T29),Iq 6 (.mv (Ki 20))])
 .ret)
 .skip))
 (Zq (Zq (Rg [Iq 30 (.fad 0 T7),Iq 31 (.fad 0 T30),Iq 32 (Lo T31),Iq 33 (.fad 0 T8),Iq 34 (.fad 0 T33),Iq 35 (Lo T34),Iq 36 (.binB .neq T32 T35),Im 37 T36,Iw 38 37 (.mv T10),Iw 39 37 (.len false T38),Iw 40 37 (.bin .gtr T39 (Ki 0)),Iq 41 (.pick T37 T40 Kf)])
 (.cond T41 (Zq (Rg [Im 42 T9,Iq 43 (.bslice 221 1 1 [(.int .u32 0)] [(0,(.k (.int .u32 1)))]),Iq 44 (.call 169 [T42,T43]),Im 9 T44])
 (Rg [Iq 46 (.fad 0 T8),Iq 47 (.fad 1 T46),Iq 48 (Lo T47),Im 49 T10,Iq 50 (.call 170 [T48,T49]),Im 45 T50,Iq 51 (.ext T45 0),Iq 52 (.ext T45 1),Im 10 T51]))
 .skip))
 (Zq (.draw [⟨Iq 53 (.fad 0 T7),[]⟩,⟨Iq 54 (.fad 0 T53),[0]⟩,⟨Iq 55 (Lo T54),[1]⟩,⟨Iq 56 (.fad 0 T8),[]⟩,⟨Iq 57 (.fad 0 T56),[3]⟩,⟨Iq 58 (Lo T57),[4]⟩,⟨Iq 59 (.binB .neq T55 T58),[2,5]⟩,⟨Im 60 T9,[]⟩,⟨Iq 61 (.call 171 [T59,T60]),[6,7]⟩,⟨Iq 62 (.fad 0 T8),[]⟩,⟨Iq 63 (.fad 0 T62),[9]⟩,⟨Iq 64 (Lo T63),[10]⟩,⟨Im 65 T10,[]⟩,⟨Iq 66 (.call 171 [T64,T65]),[11,12,8]⟩,⟨Is (.store 2 T4 T61),[8,13,0,1,2,3,4,5,6,7,8]⟩,⟨Is (.store 2 T5 T66),[13,14,0,1,2,3,4,5,6,7,8,9,10,11,12,13,14]⟩,⟨Iq 6 (.mv (Ki 0)),[15,0,1,2,3,4,5,6,7,8,9,10,11,12,13,14,15]⟩] [0,1,3,0,8,24,63,0,255,0,512,1536,0,8191,16383,32767,65535])
 .ret))))))
def ge101 : FE := ⟨67, y101, [.c 4 true 2, .c 5 true 2, .t 6]⟩
theorem oks101 : FOk Tryz.prog 101 ge101 := FOk.mk1 Tryz.func101
def y102:XC:=(Zq (Rg [Iq 2 (.alloc 24 [Zf,Zs])])
 (Zq (Rg [Im 4 T0,Iq 5 (.cvi .u64 T4),Im 3 T5])
 (Zq (Zq (Rg [Im 6 T0,Iq 7 (.bin .lss T6 (Ki 0))])
 (.cond T7 (Rg [Im 8 T3,Iq 9 (.un .neg T8),Im 3 T9])
 .skip))
 (Zq (Rg [Im 10 T0,Iq 11 (.bin .lss T10 (Ki 0)),Im 12 T3,Iq 13 (.cvi .u32 T12),Im 14 T3,Iq 15 (.bin .shr T14 (.k (.int .u64 32))),Iq 16 (.cvi .u32 T15),Iq 17 (.bslice 221 1 2 [(.int .u32 0)] [(0,T13),(1,T16)]),Iq 18 (.call 172 [T17]),Iq 19 (.call 171 [T11,T18]),Is (.store 2 T2 T19)])
 .ret))))
def ge102 : FE := ⟨20, y102, [.c 2 true 2]⟩
theorem oks102 : FOk Tryz.prog 102 ge102 := FOk.mk1 Tryz.func102
def y103:XC:=(Zq (Rg [Iq 1 (.box 24 T0),Iq 2 (.mv (Ki 0))])
 (Zq (Zq (Rg [Iq 4 (Lt 2 T1),Iq 5 (.call 154 [T4]),Iq 3 (.alloc 228 [Zf,Zs]),Is (.store 2 T3 T5)])
 (.block 0 (Zq (Rg [Iq 7 (.fad 0 T3),Iq 8 (.fad 0 T7),Iq 9 (Lo T8),Im 6 T9])
 (.cond T6 (Zq (Rg [Iq 2 (.mv (.k (.int .i64 (-1))))])
 .ret)
 (Zq (Rg [Iq 11 (.fad 0 T3),Iq 12 (.fad 1 T11),Iq 13 (Lo T12),Iq 14 (.len false T13),Iq 15 (.bin .gtr T14 (Ki 0)),Im 10 T15])
 (.cond T10 (Zq (Rg [Iq 2 (.mv (Ki 1))])
 .ret)
 .skip))))))
 (Zq (Rg [Iq 2 (.mv (Ki 0))])
 .ret)))
def ge103 : FE := ⟨16, y103, [.t 2]⟩
theorem oks103 : FOk Tryz.prog 103 ge103 := FOk.mk1 Tryz.func103
def y104:XC:=(Zq (Rg [Iq 0 (.alloc 24 [Zf,Zs])])
 (Zq (Rg [Iq 1 (.call 102 [(Ki 1)]),Is (.store 2 T0 T1)])
 .ret))
def ge104 : FE := ⟨2, y104, [.c 0 true 2]⟩
theorem oks104 : FOk Tryz.prog 104 ge104 := FOk.mk1 Tryz.func104
end Go.Proofs.YtcnpoojdochapaaGreatDoor
