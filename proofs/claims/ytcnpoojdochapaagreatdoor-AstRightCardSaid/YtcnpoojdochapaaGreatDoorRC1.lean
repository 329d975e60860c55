/- The code of the functions that are walked through (1). -/
import Derived.Test.YtcnpoojdochapaaGreatDoorChecked
import Derived.KernelRfl
import Derived.WalkKit
import Derived.Orders
import Derived.Test.YtcnpoojdochapaaGreatDoorRA5
set_option linter.unusedVariables false
set_option maxRecDepth 100000
namespace Go.Proofs.YtcnpoojdochapaaGreatDoor
open Go.CE Go.RowKit
abbrev K0 : Nat := 18446744073709551616
abbrev Iq (d : Nat) (o : jM) : I := ⟨some d, none, o⟩
abbrev Iv (d g : Nat) (o : jM) : I := ⟨some d, some (g, false), o⟩
abbrev Iw (d g : Nat) (o : jM) : I := ⟨some d, some (g, true), o⟩
abbrev Is (o : jM) : I := ⟨none, none, o⟩
abbrev Im (d : Nat) (x : Go.Eng.Od) : I := ⟨some d, none, .mv x⟩
abbrev Kf : Go.Eng.Od := .k (.bool false)
abbrev Kt : Go.Eng.Od := .k (.bool true)
abbrev Ki (n : Int) : Go.Eng.Od := .k (.int .i64 n)
abbrev Zf : Value := .bool false
abbrev Zs : Value := .slice none 0 0
abbrev Zi : Value := .int .i64 0
abbrev Ze : Value := .string ⟨#[]⟩
abbrev Zq (a b : XC) : XC := .seq a b
abbrev Rg (l : List I) : XC := .region l
abbrev Lt (s : Nat) (x : Go.Eng.Od) : jM := .load true s x
abbrev Lo (x : Go.Eng.Od) : jM := .load false 1 x
abbrev T0 : Go.Eng.Od := .t 0
abbrev T1 : Go.Eng.Od := .t 1
abbrev T2 : Go.Eng.Od := .t 2
abbrev T3 : Go.Eng.Od := .t 3
abbrev T4 : Go.Eng.Od := .t 4
abbrev T5 : Go.Eng.Od := .t 5
abbrev T6 : Go.Eng.Od := .t 6
abbrev T7 : Go.Eng.Od := .t 7
abbrev T8 : Go.Eng.Od := .t 8
abbrev T9 : Go.Eng.Od := .t 9
abbrev pU : Go.Eng.Od := .t 10
abbrev pO : Go.Eng.Od := .t 11
abbrev qC : Go.Eng.Od := .t 12
abbrev uY : Go.Eng.Od := .t 13
abbrev uE : Go.Eng.Od := .t 14
abbrev vB : Go.Eng.Od := .t 15
abbrev xJ : Go.Eng.Od := .t 16
abbrev yM : Go.Eng.Od := .t 17
abbrev wO : Go.Eng.Od := .t 18
abbrev yB : Go.Eng.Od := .t 19
abbrev zK : Go.Eng.Od := .t 20
abbrev Ce : Go.Eng.Od := .t 21
abbrev By : Go.Eng.Od := .t 22
abbrev Eh : Go.Eng.Od := .t 23
abbrev Dp : Go.Eng.Od := .t 24
abbrev Ef : Go.Eng.Od := .t 25
abbrev Ho : Go.Eng.Od := .t 26
abbrev Ed : Go.Eng.Od := .t 27
abbrev J9 : Go.Eng.Od := .t 28
abbrev J1 : Go.Eng.Od := .t 29
abbrev Kz : Go.Eng.Od := .t 30
abbrev Lp : Go.Eng.Od := .t 31
abbrev Lq : Go.Eng.Od := .t 32
abbrev Pm : Go.Eng.Od := .t 33
abbrev O1 : Go.Eng.Od := .t 34
abbrev Ro : Go.Eng.Od := .t 35
abbrev Yf : Go.Eng.Od := .t 36
abbrev T37 : Go.Eng.Od := .t 37
abbrev T38 : Go.Eng.Od := .t 38
abbrev T39 : Go.Eng.Od := .t 39
abbrev T40 : Go.Eng.Od := .t 40
abbrev T41 : Go.Eng.Od := .t 41
abbrev T42 : Go.Eng.Od := .t 42
abbrev T43 : Go.Eng.Od := .t 43
abbrev T44 : Go.Eng.Od := .t 44
abbrev T45 : Go.Eng.Od := .t 45
abbrev T46 : Go.Eng.Od := .t 46
abbrev T47 : Go.Eng.Od := .t 47
abbrev T48 : Go.Eng.Od := .t 48
abbrev T49 : Go.Eng.Od := .t 49
abbrev T50 : Go.Eng.Od := .t 50
abbrev T51 : Go.Eng.Od := .t 51
abbrev T52 : Go.Eng.Od := .t 52
abbrev T53 : Go.Eng.Od := .t 53
abbrev T54 : Go.Eng.Od := .t 54
abbrev T55 : Go.Eng.Od := .t 55
abbrev T56 : Go.Eng.Od := .t 56
abbrev T57 : Go.Eng.Od := .t 57
abbrev T58 : Go.Eng.Od := .t 58
abbrev T59 : Go.Eng.Od := .t 59
abbrev T60 : Go.Eng.Od := .t 60
abbrev T61 : Go.Eng.Od := .t 61
abbrev T62 : Go.Eng.Od := .t 62
abbrev T63 : Go.Eng.Od := .t 63
abbrev T64 : Go.Eng.Od := .t 64
abbrev T65 : Go.Eng.Od := .t 65
abbrev T66 : Go.Eng.Od := .t 66
abbrev T67 : Go.Eng.Od := .t 67
abbrev T68 : Go.Eng.Od := .t 68
abbrev T69 : Go.Eng.Od := .t 69
abbrev T70 : Go.Eng.Od := .t 70
abbrev T71 : Go.Eng.Od := .t 71
abbrev T72 : Go.Eng.Od := .t 72
abbrev T73 : Go.Eng.Od := .t 73
abbrev T74 : Go.Eng.Od := .t 74
abbrev T75 : Go.Eng.Od := .t 75
abbrev T76 : Go.Eng.Od := .t 76
abbrev T77 : Go.Eng.Od := .t 77
abbrev T78 : Go.Eng.Od := .t 78
abbrev T79 : Go.Eng.Od := .t 79
abbrev T80 : Go.Eng.Od := .t 80
abbrev T81 : Go.Eng.Od := .t 81
abbrev T82 : Go.Eng.Od := .t 82
abbrev T83 : Go.Eng.Od := .t 83
abbrev T84 : Go.Eng.Od := .t 84
abbrev T85 : Go.Eng.Od := .t 85
abbrev T86 : Go.Eng.Od := .t 86
abbrev T87 : Go.Eng.Od := .t 87
abbrev T88 : Go.Eng.Od := .t 88
abbrev T89 : Go.Eng.Od := .t 89
abbrev T90 : Go.Eng.Od := .t 90
abbrev T91 : Go.Eng.Od := .t 91
abbrev T92 : Go.Eng.Od := .t 92
abbrev T93 : Go.Eng.Od := .t 93
abbrev T94 : Go.Eng.Od := .t 94
abbrev T95 : Go.Eng.Od := .t 95
abbrev T96 : Go.Eng.Od := .t 96
abbrev T97 : Go.Eng.Od := .t 97
abbrev T98 : Go.Eng.Od := .t 98
abbrev T99 : Go.Eng.Od := .t 99
abbrev aVJ : Go.Eng.Od := .t 100
abbrev aVC : Go.Eng.Od := .t 101
abbrev aVK : Go.Eng.Od := .t 102
abbrev aVy : Go.Eng.Od := .t 103
abbrev aVH : Go.Eng.Od := .t 104
abbrev aWi : Go.Eng.Od := .t 105
abbrev aWg : Go.Eng.Od := .t 106
abbrev aVe : Go.Eng.Od := .t 107
abbrev aX7 : Go.Eng.Od := .t 108
abbrev aW4 : Go.Eng.Od := .t 109
abbrev aXK : Go.Eng.Od := .t 110
abbrev aXZ : Go.Eng.Od := .t 111
abbrev aXe : Go.Eng.Od := .t 112
abbrev aXB : Go.Eng.Od := .t 113
abbrev aXM : Go.Eng.Od := .t 114
abbrev aXb : Go.Eng.Od := .t 115
abbrev aXx : Go.Eng.Od := .t 116
abbrev aXJ : Go.Eng.Od := .t 117
abbrev aWJ : Go.Eng.Od := .t 118
abbrev aYk : Go.Eng.Od := .t 119
abbrev aXU : Go.Eng.Od := .t 120
abbrev aYl : Go.Eng.Od := .t 121
abbrev aWf : Go.Eng.Od := .t 122
abbrev aXN : Go.Eng.Od := .t 123
abbrev aWn : Go.Eng.Od := .t 124
abbrev aXG : Go.Eng.Od := .t 125
abbrev aWN : Go.Eng.Od := .t 126
abbrev aXS : Go.Eng.Od := .t 127
abbrev aZh : Go.Eng.Od := .t 128
abbrev aXH : Go.Eng.Od := .t 129
abbrev aWw : Go.Eng.Od := .t 130
abbrev aXQ : Go.Eng.Od := .t 131
abbrev aYL : Go.Eng.Od := .t 132
abbrev aY7 : Go.Eng.Od := .t 133
abbrev aYR : Go.Eng.Od := .t 134
abbrev aZi : Go.Eng.Od := .t 135
abbrev bBU : Go.Eng.Od := .t 136
abbrev bCP : Go.Eng.Od := .t 137
abbrev bB8 : Go.Eng.Od := .t 138
abbrev bB4 : Go.Eng.Od := .t 139
abbrev bBX : Go.Eng.Od := .t 140
abbrev bAB : Go.Eng.Od := .t 141
abbrev bC2 : Go.Eng.Od := .t 142
abbrev bCk : Go.Eng.Od := .t 143
abbrev bCd : Go.Eng.Od := .t 144
abbrev bBF : Go.Eng.Od := .t 145
abbrev bDn : Go.Eng.Od := .t 146
abbrev bFq : Go.Eng.Od := .t 147
abbrev bDt : Go.Eng.Od := .t 148
abbrev bFM : Go.Eng.Od := .t 149
abbrev bK9 : Go.Eng.Od := .t 150
abbrev bJl : Go.Eng.Od := .t 151
abbrev bQD : Go.Eng.Od := .t 152
abbrev bMt : Go.Eng.Od := .t 153
abbrev bP9 : Go.Eng.Od := .t 154
abbrev bNG : Go.Eng.Od := .t 155
abbrev bOR : Go.Eng.Od := .t 156
abbrev bQ3 : Go.Eng.Od := .t 157
abbrev bPW : Go.Eng.Od := .t 158
abbrev bTB : Go.Eng.Od := .t 159
abbrev bPK : Go.Eng.Od := .t 160
abbrev bO7 : Go.Eng.Od := .t 161
abbrev bON : Go.Eng.Od := .t 162
abbrev bO9 : Go.Eng.Od := .t 163
abbrev bOx : Go.Eng.Od := .t 164
abbrev bQd : Go.Eng.Od := .t 165
abbrev bOT : Go.Eng.Od := .t 166
abbrev bOu : Go.Eng.Od := .t 167
abbrev bQY : Go.Eng.Od := .t 168
abbrev bM0 : Go.Eng.Od := .t 169
abbrev bN2 : Go.Eng.Od := .t 170
abbrev bPr : Go.Eng.Od := .t 171
abbrev bMx : Go.Eng.Od := .t 172
abbrev bM2 : Go.Eng.Od := .t 173
abbrev bQc : Go.Eng.Od := .t 174
abbrev bQJ : Go.Eng.Od := .t 175
abbrev bHY : Go.Eng.Od := .t 176
abbrev bNW : Go.Eng.Od := .t 177
abbrev bNf : Go.Eng.Od := .t 178
abbrev bPL : Go.Eng.Od := .t 179
abbrev bNk : Go.Eng.Od := .t 180
abbrev bPA : Go.Eng.Od := .t 181
abbrev bMD : Go.Eng.Od := .t 182
abbrev bMr : Go.Eng.Od := .t 183
abbrev bOs : Go.Eng.Od := .t 184
abbrev bMs : Go.Eng.Od := .t 185
abbrev bOJ : Go.Eng.Od := .t 186
abbrev bRk : Go.Eng.Od := .t 187
abbrev bSr : Go.Eng.Od := .t 188
abbrev bTe : Go.Eng.Od := .t 189
abbrev bRn : Go.Eng.Od := .t 190
abbrev bTi : Go.Eng.Od := .t 191
abbrev bTd : Go.Eng.Od := .t 192
abbrev bSN : Go.Eng.Od := .t 193
abbrev bSk : Go.Eng.Od := .t 194
abbrev bRs : Go.Eng.Od := .t 195
abbrev bUt : Go.Eng.Od := .t 196
abbrev bRI : Go.Eng.Od := .t 197
abbrev bUn : Go.Eng.Od := .t 198
abbrev bSG : Go.Eng.Od := .t 199
abbrev bRN : Go.Eng.Od := .t 200
abbrev bR2 : Go.Eng.Od := .t 201
abbrev bT4 : Go.Eng.Od := .t 202
abbrev bTY : Go.Eng.Od := .t 203
abbrev bSU : Go.Eng.Od := .t 204
abbrev bRL : Go.Eng.Od := .t 205
abbrev bTM : Go.Eng.Od := .t 206
abbrev bST : Go.Eng.Od := .t 207
abbrev bTS : Go.Eng.Od := .t 208
abbrev bSx : Go.Eng.Od := .t 209
abbrev bRH : Go.Eng.Od := .t 210
abbrev bTD : Go.Eng.Od := .t 211
abbrev bS3 : Go.Eng.Od := .t 212
abbrev bRJ : Go.Eng.Od := .t 213
abbrev bSS : Go.Eng.Od := .t 214
abbrev bSp : Go.Eng.Od := .t 215
abbrev bTb : Go.Eng.Od := .t 216
abbrev bSI : Go.Eng.Od := .t 217
abbrev bS7 : Go.Eng.Od := .t 218
abbrev bSR : Go.Eng.Od := .t 219
abbrev bRZ : Go.Eng.Od := .t 220
abbrev bUe : Go.Eng.Od := .t 221
abbrev bS2 : Go.Eng.Od := .t 222
abbrev bRy : Go.Eng.Od := .t 223
abbrev bRC : Go.Eng.Od := .t 224
abbrev bTU : Go.Eng.Od := .t 225
abbrev bUp : Go.Eng.Od := .t 226
abbrev bTs : Go.Eng.Od := .t 227
abbrev bRA : Go.Eng.Od := .t 228
abbrev bS8 : Go.Eng.Od := .t 229
abbrev bSC : Go.Eng.Od := .t 230
abbrev bTr : Go.Eng.Od := .t 231
abbrev bRM : Go.Eng.Od := .t 232
abbrev bVF : Go.Eng.Od := .t 233
abbrev bW4 : Go.Eng.Od := .t 234
abbrev bVA : Go.Eng.Od := .t 235
abbrev bXs : Go.Eng.Od := .t 236
abbrev bVL : Go.Eng.Od := .t 237
abbrev bUL : Go.Eng.Od := .t 238
abbrev bWo : Go.Eng.Od := .t 239
abbrev bU0 : Go.Eng.Od := .t 240
abbrev bWW : Go.Eng.Od := .t 241
abbrev bUT : Go.Eng.Od := .t 242
abbrev bWx : Go.Eng.Od := .t 243
abbrev bWG : Go.Eng.Od := .t 244
abbrev bVf : Go.Eng.Od := .t 245
abbrev bWK : Go.Eng.Od := .t 246
abbrev bU4 : Go.Eng.Od := .t 247
abbrev bWr : Go.Eng.Od := .t 248
abbrev bXj : Go.Eng.Od := .t 249
abbrev bWM : Go.Eng.Od := .t 250
abbrev bVN : Go.Eng.Od := .t 251
abbrev bUP : Go.Eng.Od := .t 252
abbrev bWy : Go.Eng.Od := .t 253
abbrev bUO : Go.Eng.Od := .t 254
abbrev bWL : Go.Eng.Od := .t 255
abbrev bXy : Go.Eng.Od := .t 256
abbrev bVD : Go.Eng.Od := .t 257
abbrev bWj : Go.Eng.Od := .t 258
abbrev bVa : Go.Eng.Od := .t 259
abbrev bW5 : Go.Eng.Od := .t 260
abbrev bXG : Go.Eng.Od := .t 261
abbrev bUD : Go.Eng.Od := .t 262
abbrev bXM : Go.Eng.Od := .t 263
abbrev bXl : Go.Eng.Od := .t 264
abbrev bVZ : Go.Eng.Od := .t 265
abbrev bVI : Go.Eng.Od := .t 266
abbrev bWv : Go.Eng.Od := .t 267
abbrev bV2 : Go.Eng.Od := .t 268
abbrev bWZ : Go.Eng.Od := .t 269
abbrev bWP : Go.Eng.Od := .t 270
abbrev bWO : Go.Eng.Od := .t 271
abbrev bXp : Go.Eng.Od := .t 272
abbrev bUS : Go.Eng.Od := .t 273
abbrev bUK : Go.Eng.Od := .t 274
abbrev bXA : Go.Eng.Od := .t 275
abbrev bXq : Go.Eng.Od := .t 276
abbrev bVe : Go.Eng.Od := .t 277
abbrev bWD : Go.Eng.Od := .t 278
abbrev bXk : Go.Eng.Od := .t 279
abbrev bVx : Go.Eng.Od := .t 280
abbrev bUF : Go.Eng.Od := .t 281
abbrev bVy : Go.Eng.Od := .t 282
abbrev bUN : Go.Eng.Od := .t 283
abbrev bWh : Go.Eng.Od := .t 284
abbrev bXh : Go.Eng.Od := .t 285
abbrev bVR : Go.Eng.Od := .t 286
abbrev bWe : Go.Eng.Od := .t 287
abbrev bVV : Go.Eng.Od := .t 288
abbrev bXD : Go.Eng.Od := .t 289
abbrev bVd : Go.Eng.Od := .t 290
abbrev bVk : Go.Eng.Od := .t 291
abbrev bVU : Go.Eng.Od := .t 292
theorem iI.mk1 {P : Program} {f : Nat} {fn : Func} {e : FE} (hf : P.funcs[f]? = some fn) (hn : fn.ntmps = e.n := by rfl) (hb : fn.body.isSome = true := by rfl) (hname : (fn.name != "runtime.NumGoroutine") = true := by rfl)
    (hic : IC.ofS P e.n (fn.body.getD .skip) = e.x.ic := by kernel_rfl) (hr : fn.results.toList.map (RR.of P) = e.ts.map some := by kernel_rfl) (hok : e.x.ok = true := by kernel_rfl) : iI P f e := by
  obtain ⟨c, hc⟩ := Option.isSome_iff_exists.1 hb
  exact ⟨fn, c, hf, hn, hc, hname, by rw [hc] at hic; exact hic, hr, hok⟩
theorem aC {P : Program} {f : Nat} {e : FE} {l : List (Nat × FE)} (h : iI P f e) (g : ∀ p, p ∈ l → iI P p.1 p.2) : ∀ p, p ∈ (f, e) :: l → iI P p.1 p.2 := by
  intro p hp
  rcases List.mem_cons.1 hp with rfl | hp
  · exact h
  · exact g p hp
def y4:XC:=(Zq (Rg [Iq 1 (.box 41 T0),Iq 2 (.mv Kf)])
 (Zq (Zq (Rg [Iq 8 (Lt 25 T1),Iq 9 (.call 15 [T8]),Iq 10 (.un .not T9)])
 (.cond pU (Zq (Rg [Iq 11 (.call 7 []),Im 2 pO])
 .ret)
 .skip))
 (Zq (Rg [Iq 12 (Lt 25 T1),Iq 13 (.call 16 [qC]),Iq 3 (.alloc 47 [Ze,Ze,Zs,Zf,Zs,Zf,Zs,Zf,Zs,Zf,Zs,Zi,Zi,Zf,Zs,Zf,Zs,Zf,Zs,Zf,Zs,Zi,Zs,Zs,Zs]),Is (.store 25 T3 uY)])
 (Zq (Rg [Iq 15 (Lt 25 T1),Iq 16 (.call 17 [vB]),Im 14 xJ,Iq 17 (.ext uE 0),Iq 18 (.ext uE 1),Iq 4 (.alloc 50 [(.int .u8 0),Zi,Zi]),Is (.store 3 T4 yM),Im 5 wO])
 (Zq (Rg [Iq 20 (Lt 25 T3),Iq 21 (.call 18 [zK]),Im 19 Ce,Iq 22 (.ext yB 0),Iq 23 (.ext yB 1),Iq 6 (.alloc 54 [(.int .u8 0),Zi,Zi]),Is (.store 3 T6 By),Im 7 Eh])
 (Zq (.draw [⟨Iq 24 (.fad 0 T4),[]⟩,⟨Iq 25 (Lo Dp),[0]⟩,⟨Iq 26 (.fad 0 T6),[]⟩,⟨Iq 27 (Lo Ho),[2]⟩,⟨Iq 28 (.bin .eql Ef Ed),[1,3]⟩,⟨Im 29 J9,[4]⟩,⟨Iw 30 29 (.fad 1 T4),[5]⟩,⟨Iw 31 29 (Lo Kz),[6,5]⟩,⟨Iw 32 29 (.fad 1 T6),[5]⟩,⟨Iw 33 29 (Lo Lq),[8,5]⟩,⟨Iw 34 29 (.bin .eql Lp Pm),[7,9,5]⟩,⟨Iq 35 (.pick J1 O1 Kf),[5,10]⟩,⟨Im 36 Ro,[11,5]⟩,⟨Iw 37 36 (.fad 2 T4),[12]⟩,⟨Iw 38 36 (Lo T37),[13,12]⟩,⟨Iw 39 36 (.fad 2 T6),[12]⟩,⟨Iw 40 36 (Lo T39),[15,12]⟩,⟨Iw 41 36 (.bin .eql T38 T40),[14,16,12]⟩,⟨Iq 42 (.pick Yf T41 Kf),[12,17]⟩,⟨Im 43 T42,[18,12]⟩,⟨Iw 44 43 (.mv T5),[19]⟩,⟨Iw 45 43 (.mv T7),[19]⟩,⟨Iw 46 43 (.bin .eql T44 T45),[20,21,19]⟩,⟨Iq 47 (.pick T43 T46 Kf),[19,22]⟩,⟨Im 48 T47,[23,19]⟩,⟨Iw 49 48 (Lt 25 T1),[24]⟩,⟨Iw 50 48 (.call 16 [T49]),[25,24,24]⟩,⟨Iw 51 48 (Lt 25 T3),[24]⟩,⟨Iw 52 48 (.call 19 [T50,T51]),[26,27,26,24]⟩,⟨Iq 53 (.pick T48 T52 Kf),[24,28]⟩,⟨Im 54 T53,[29,28]⟩,⟨Iw 55 54 (.call 7 []),[30,30]⟩,⟨Iq 56 (.pick T54 T55 Kf),[30,31]⟩,⟨Im 2 T56,[32,31,0,1,2,3,4,5,6,7,8,9,10,11,12,13,14,15,16,17,18,19,20,21,22,23,24,25,26,27,28,29,30,31,32]⟩] [0,1,0,4,15,31,63,127,63,319,1023,2047,4095,8191,16383,8191,40959,131071,262143,524287,1048575,1048575,4194303,8388607,16777215,33554431,67108863,33554431,268435455,536870911,1073741823,2147483647,4294967295,8589934591])
 .ret))))))
def ge4 : FE := ⟨57, y4, [.t 2]⟩
theorem bVT : iI Tryz.prog 4 ge4 := iI.mk1 Tryz.func4
def y7:XC:=(Zq (Rg [Iq 0 (.mv Kf)])
 (Zq (Rg [Iq 4 (.call 30 []),Iq 5 (.call 17 [T4]),Im 3 T5,Iq 6 (.ext T3 0),Iq 7 (.ext T3 1),Iq 1 (.alloc 50 [(.int .u8 0),Zi,Zi]),Is (.store 3 T1 T6),Im 2 T7])
 (Zq (Rg [Iq 8 (.call 9 [(.k (.string ⟨#[97,45,49]⟩))]),Im 9 T8,Iw 10 9 (.call 9 [(.k (.string ⟨#[49,97]⟩))]),Iw 11 9 (.un .not pU),Iq 12 (.pick T9 pO Kf),Im 13 qC,Iw 14 13 (.call 26 [(Ki 5),(Ki 2)]),Iw 15 13 (.call 11 [uE]),Iq 16 (.pick uY vB Kf),Im 17 xJ,Iw 18 17 (.call 26 [(Ki 1),(Ki 3)]),Iw 19 17 (.call 11 [wO]),Iw 20 17 (.un .not yB),Iq 21 (.pick yM zK Kf),Im 22 Ce,Iw 23 22 (.call 26 [(Ki 3),(Ki 8)]),Iw 24 22 (.call 13 [Eh]),Iq 25 (.pick By Dp Kf),Im 26 Ef,Iw 27 26 (.call 26 [(Ki 1),(Ki 3)]),Iw 28 26 (.call 13 [Ed]),Iw 29 26 (.un .not J9),Iq 30 (.pick Ho J1 Kf),Im 31 Kz,Iw 32 31 (.mv T2),Iw 33 31 (.bin .eql Lq (Ki 0)),Iq 34 (.pick Lp Pm Kf),Im 0 O1])
 .ret)))
def ge7 : FE := ⟨35, y7, [.t 0]⟩
theorem bWm : iI Tryz.prog 7 ge7 := iI.mk1 Tryz.func7
def y8:XC:=(Zq (Rg [Iq 1 (.box 26 T0),Iq 2 (.alloc 30 [Zf,Zs,Zf,Zs])])
 (Zq (.draw [⟨Iq 3 (.fad 0 T1),[]⟩,⟨Iq 4 (.fad 0 T3),[0]⟩,⟨Iq 5 (Lo T4),[1]⟩,⟨Iq 6 (.fad 0 T1),[]⟩,⟨Iq 7 (.fad 1 T6),[3]⟩,⟨Iq 8 (Lo T7),[4]⟩,⟨Iq 9 (.call 31 [T8]),[5]⟩,⟨Iq 10 (.build [Zf,Zs] [(0,1,T5),(1,1,T9)]),[2,6]⟩,⟨Iq 11 (.fad 2 T1),[]⟩,⟨Iq 12 (.fad 0 pO),[8]⟩,⟨Iq 13 (Lo qC),[9]⟩,⟨Iq 14 (.fad 2 T1),[]⟩,⟨Iq 15 (.fad 1 uE),[11]⟩,⟨Iq 16 (Lo vB),[12]⟩,⟨Iq 17 (.call 31 [xJ]),[13,6]⟩,⟨Iq 18 (.build [Zf,Zs] [(0,1,uY),(1,1,yM)]),[10,14]⟩,⟨Iq 19 (.build [Zf,Zs,Zf,Zs] [(0,2,pU),(2,2,wO)]),[7,15]⟩,⟨Is (.store 4 T2 yB),[16,14,0,1,2,3,4,5,6,7,8,9,10,11,12,13,14,15,16]⟩] [0,1,3,0,8,24,56,127,0,256,768,0,2048,6144,14456,32632,65535,131071])
 .ret))
def ge8 : FE := ⟨20, y8, [.c 2 true 4]⟩
theorem bVm : iI Tryz.prog 8 ge8 := iI.mk1 Tryz.func8
def y9:XC:=(Zq (Rg [Iq 2 (.mv Kf)])
 (Zq (Rg [Im 3 T0,Iq 4 (.bin .neq T3 (.k Ze)),Im 5 T4,Iw 6 5 (.mv T0),Iw 7 5 (.len true T6),Iw 8 5 (.bin .leq T7 (Ki 32)),Iq 9 (.pick T5 T8 Kf),Im 10 T9,Iw 11 10 (.mv T0),Iw 12 10 (.ixs pO (Ki 0)),Iw 13 10 (.call 32 [(.k (.string ⟨#[97,98,99,100,101,102,103,104,105,106,107,108,109,110,111,112,113,114,115,116,117,118,119,120,121,122,65,66,67,68,69,70,71,72,73,74,75,76,77,78,79,80,81,82,83,84,85,86,87,88,89,90]⟩)),qC]),Iw 14 10 (.bin .geq uY (Ki 0)),Iq 15 (.pick pU uE Kf),Im 16 vB,Iw 17 16 (.mv T0),Iw 18 16 (.call 33 [yM,(.k (.string ⟨#[97,98,99,100,101,102,103,104,105,106,107,108,109,110,111,112,113,114,115,116,117,118,119,120,121,122,65,66,67,68,69,70,71,72,73,74,75,76,77,78,79,80,81,82,83,84,85,86,87,88,89,90,48,49,50,51,52,53,54,55,56,57,95,45]⟩))]),Iw 19 16 (.bin .eql wO (.k Ze)),Iq 20 (.pick xJ yB Kf),Im 21 zK,Iw 22 21 (.mv T0),Iw 23 21 (.call 34 [By,(.f 35)]),Iw 24 21 (.un .not Eh),Iq 25 (.pick Ce Dp Kf),Im 2 Ef])
 .ret))
def ge9 : FE := ⟨26, y9, [.t 2]⟩
theorem bXx : iI Tryz.prog 9 ge9 := iI.mk1 Tryz.func9
def y10:XC:=(Zq (Rg [Iq 2 (.mv Kf)])
 (Zq (Zq (Rg [Iq 3 (.mv (Ki 0))])
 (.block 0 (.loop (Zq (Zq (Rg [Im 6 T3,Im 7 T0,Iq 8 (.len true T7),Iq 9 (.bin .lss T6 T8)])
 (.cond T9 .skip
 (.exit 0)))
 (Zq (.block 1 (Zq (Rg [Im 12 T0,Im 13 T3,Iq 14 (.ixs qC uY),Im 4 uE])
 (Zq (Rg [Im 15 T4,Iq 16 (.bin .geq vB (.k (.int .u8 97))),Im 17 xJ,Iw 18 17 (.mv T4),Iw 19 17 (.bin .leq wO (.k (.int .u8 122))),Iq 20 (.pick yM yB Kf),Im 21 zK,Iv 22 21 (.mv T4),Iv 23 21 (.bin .geq By (.k (.int .u8 65))),Iv 24 21 (.mv Eh),Iw 25 24 (.mv T4),Iw 26 24 (.bin .leq Ef (.k (.int .u8 90))),Iv 27 21 (.pick Dp Ho Kf),Iq 28 (.pick Ce Kt Ed),Im 5 J9])
 (Zq (Rg [Im 29 T5,Iq 30 (.un .not J1),Im 31 Kz,Iw 32 31 (.mv T3),Iw 33 31 (.bin .eql Lq (Ki 0)),Iw 34 31 (.mv Pm),Iv 35 34 (.mv T4),Iv 36 34 (.bin .geq Ro (.k (.int .u8 48))),Iv 37 34 (.mv Yf),Iw 38 37 (.mv T4),Iw 39 37 (.bin .leq T38 (.k (.int .u8 57))),Iv 40 34 (.pick T37 T39 Kf),Iv 41 34 (.un .not T40),Iv 42 34 (.mv T41),Iw 43 42 (.mv T4),Iw 44 42 (.bin .neq T43 (.k (.int .u8 95))),Iv 45 34 (.pick T42 T44 Kf),Iv 46 34 (.mv T45),Iw 47 46 (.mv T4),Iw 48 46 (.bin .neq T47 (.k (.int .u8 45))),Iv 49 34 (.pick T46 T48 Kf),Iw 50 31 (.pick O1 Kt T49),Iq 51 (.pick Lp T50 Kf)])
 (.cond T51 (Zq (Rg [Iq 2 (.mv Kf)])
 .ret)
 .skip)))))
 (Rg [Im 10 T3,Iq 11 (.bin .add pU (Ki 1)),Im 3 pO]))))))
 (Zq (Rg [Im 52 T0,Iq 53 (.len true T52),Iq 54 (.bin .gtr T53 (Ki 0)),Im 55 T54,Iw 56 55 (.mv T0),Iw 57 55 (.len true T56),Iw 58 55 (.bin .leq T57 (Ki 32)),Iq 59 (.pick T55 T58 Kf),Im 2 T59])
 .ret)))
def bMp : FE := ⟨60, y10, [.t 2]⟩
theorem bTn : iI Tryz.prog 10 bMp := iI.mk1 Tryz.func10
def y11:XC:=(Zq (Rg [Iq 1 (.box 26 T0),Iq 2 (.mv Kf)])
 (Zq (Zq (Rg [Iq 4 (Lt 4 T1),Iq 5 (.call 37 [T4,(Ki 100)]),Iq 6 (.un .not T5)])
 (.cond T6 (Zq (Rg [Iq 2 (.mv Kf)])
 .ret)
 .skip))
 (Zq (Rg [Iq 7 (.call 38 [(Ki 1000000000000000)]),Iq 3 (.alloc 26 [Zf,Zs,Zf,Zs]),Is (.store 4 T3 T7)])
 (Zq (Rg [Iq 8 (Lt 4 T3),Iq 9 (Lt 4 T3),Iq 10 (.call 39 [T8,T9]),Is (.store 4 T3 pU)])
 (Zq (.draw [⟨Iq 11 (Lt 4 T1),[]⟩,⟨Iq 12 (Lt 4 T1),[]⟩,⟨Iq 13 (.call 28 [qC]),[1]⟩,⟨Iq 14 (.bslice 26 4 1 [Zf,Zs,Zf,Zs] [(0,uY)]),[2]⟩,⟨Iq 15 (.call 41 [pO,uE]),[0,3,2]⟩,⟨Iq 16 (Lt 4 T3),[]⟩,⟨Iq 17 (.call 40 [vB,xJ]),[4,5,4]⟩,⟨Iq 18 (.bin .lss yM (Ki 0)),[6]⟩,⟨Im 2 wO,[7,6,0,1,2,3,4,5,6,7]⟩] [0,0,2,6,15,0,63,127,255])
 .ret)))))
def bOB : FE := ⟨19, y11, [.t 2]⟩
theorem bSV : iI Tryz.prog 11 bOB := iI.mk1 Tryz.func11
def y12:XC:=(Zq (Rg [Iq 1 (.box 30 T0),Iq 2 (.mv Kf)])
 (Zq (Rg [Iq 4 (.call 42 [(Ki 1000000000000000)]),Iq 3 (.alloc 30 [Zf,Zs,Zf,Zs]),Is (.store 4 T3 T4)])
 (Zq (Rg [Iq 5 (Lt 4 T3),Iq 6 (Lt 4 T3),Iq 7 (.call 25 [T5,T6]),Is (.store 4 T3 T7)])
 (Zq (.draw [⟨Iq 8 (Lt 4 T1),[]⟩,⟨Iq 9 (.call 43 [T8,(Ki 100)]),[0]⟩,⟨Im 10 T9,[1,1]⟩,⟨Iw 11 10 (Lt 4 T1),[2]⟩,⟨Iw 12 10 (Lt 4 T3),[2]⟩,⟨Iw 13 10 (.call 44 [pO,qC]),[3,4,2,2]⟩,⟨Iw 14 10 (.bin .lss uY (Ki 0)),[5,2]⟩,⟨Iq 15 (.pick pU uE Kf),[2,6]⟩,⟨Im 16 vB,[7,5]⟩,⟨Iw 17 16 (Lt 4 T1),[8]⟩,⟨Iw 18 16 (.call 45 [yM]),[9,8,8]⟩,⟨Iw 19 16 (Lt 4 T3),[8]⟩,⟨Iw 20 16 (.call 44 [wO,yB]),[10,11,10,8]⟩,⟨Iw 21 16 (.bin .lss zK (Ki 0)),[12,8]⟩,⟨Iq 22 (.pick xJ Ce Kf),[8,13]⟩,⟨Im 2 By,[14,12,0,1,2,3,4,5,6,7,8,9,10,11,12,13,14]⟩] [0,1,3,7,7,31,63,127,255,511,1023,511,4095,8191,16383,32767])
 .ret))))
def bMF : FE := ⟨23, y12, [.t 2]⟩
theorem bS9 : iI Tryz.prog 12 bMF := iI.mk1 Tryz.func12
def y13:XC:=(Zq (Rg [Iq 1 (.box 26 T0),Iq 2 (.mv Kf)])
 (Zq (.draw [⟨Iq 3 (Lt 4 T1),[]⟩,⟨Iq 4 (.call 37 [T3,(Ki 1000000)]),[0]⟩,⟨Im 5 T4,[1,1]⟩,⟨Iw 6 5 (Lt 4 T1),[2]⟩,⟨Iw 7 5 (.call 46 [T6]),[3,2,2]⟩,⟨Iw 8 5 (.bin .geq T7 (Ki 0)),[4,2]⟩,⟨Iq 9 (.pick T5 T8 Kf),[2,5]⟩,⟨Im 10 T9,[6,4]⟩,⟨Iw 11 10 (Lt 4 T1),[7]⟩,⟨Iw 12 10 (.call 38 [(Ki 1)]),[7,7]⟩,⟨Iw 13 10 (.call 40 [pO,qC]),[8,9,9,7]⟩,⟨Iw 14 10 (.bin .leq uY (Ki 0)),[10,7]⟩,⟨Iq 15 (.pick pU uE Kf),[7,11]⟩,⟨Im 2 vB,[12,10,0,1,2,3,4,5,6,7,8,9,10,11,12]⟩] [0,1,3,7,15,31,63,127,255,255,1023,2047,4095,8191])
 .ret))
def bQ9 : FE := ⟨16, y13, [.t 2]⟩
theorem bTF : iI Tryz.prog 13 bQ9 := iI.mk1 Tryz.func13
def y14:XC:=(Zq (Rg [Iq 1 (.box 30 T0),Iq 2 (.mv Kf)])
 (Zq (.draw [⟨Iq 3 (Lt 4 T1),[]⟩,⟨Iq 4 (.call 43 [T3,(Ki 1000000)]),[0]⟩,⟨Im 5 T4,[1,1]⟩,⟨Iw 6 5 (Lt 4 T1),[2]⟩,⟨Iw 7 5 (.call 47 [T6]),[3,2,2]⟩,⟨Iw 8 5 (.bin .geq T7 (Ki 0)),[4,2]⟩,⟨Iq 9 (.pick T5 T8 Kf),[2,5]⟩,⟨Im 10 T9,[6,4]⟩,⟨Iw 11 10 (Lt 4 T1),[7]⟩,⟨Iw 12 10 (.call 42 [(Ki 1)]),[7,7]⟩,⟨Iw 13 10 (.call 44 [pO,qC]),[8,9,9,7]⟩,⟨Iw 14 10 (.bin .leq uY (Ki 0)),[10,7]⟩,⟨Iq 15 (.pick pU uE Kf),[7,11]⟩,⟨Im 2 vB,[12,10,0,1,2,3,4,5,6,7,8,9,10,11,12]⟩] [0,1,3,7,15,31,63,127,255,255,1023,2047,4095,8191])
 .ret))
def bNL : FE := ⟨16, y14, [.t 2]⟩
theorem bSj : iI Tryz.prog 14 bNL := iI.mk1 Tryz.func14
def y15:XC:=(Zq (Rg [Iq 1 (.box 41 T0),Iq 2 (.mv Kf)])
 (Zq (Zq (Rg [Iq 5 (.fad 2 T1),Iq 6 (Lo T5),Iq 7 (.len false T6),Iq 8 (.bin .gtr T7 (Ki 20)),Im 9 T8,Iv 10 9 (.fad 22 T1),Iv 11 9 (Lo pU),Iv 12 9 (.len false pO),Iv 13 9 (.bin .gtr qC (Ki 70)),Iq 14 (.pick T9 Kt uY),Im 15 uE,Iv 16 15 (.fad 23 T1),Iv 17 15 (Lo xJ),Iv 18 15 (.len false yM),Iv 19 15 (.bin .gtr wO (Ki 260)),Iq 20 (.pick vB Kt yB),Im 21 zK,Iv 22 21 (.fad 24 T1),Iv 23 21 (Lo By),Iv 24 21 (.len false Eh),Iv 25 21 (.bin .gtr Dp (Ki 45)),Iq 26 (.pick Ce Kt Ef)])
 (.cond Ho (Zq (Rg [Iq 2 (.mv Kf)])
 .ret)
 .skip))
 (Zq (Zq (Rg [Iq 3 (.mv (Ki 0))])
 (.block 0 (.loop (Zq (Zq (Rg [Im 27 T3,Iq 28 (.fad 24 T1),Iq 29 (Lo J9),Iq 30 (.len false J1),Iq 31 (.bin .lss Ed Kz)])
 (.cond Lp .skip
 (.exit 0)))
 (Zq (.block 1 (Zq (Rg [Iq 34 (.fad 24 T1),Iq 35 (Lo O1),Im 36 T3,Iq 37 (.iad 6 Ro Yf),Iq 38 (Lt 6 T37),Iq 4 (.alloc 92 [Zi,Zs,Zs,Zs,Zs,Zs]),Is (.store 6 T4 T38)])
 (Zq (Rg [Iq 39 (.fad 1 T4),Iq 40 (Lo T39),Iq 41 (.len false T40),Iq 42 (.bin .gtr T41 (Ki 40)),Im 43 T42,Iv 44 43 (.fad 2 T4),Iv 45 43 (Lo T44),Iv 46 43 (.len false T45),Iv 47 43 (.bin .gtr T46 (Ki 40)),Iq 48 (.pick T43 Kt T47),Im 49 T48,Iv 50 49 (.fad 3 T4),Iv 51 49 (Lo T50),Iv 52 49 (.len false T51),Iv 53 49 (.bin .gtr T52 (Ki 40)),Iq 54 (.pick T49 Kt T53),Im 55 T54,Iv 56 55 (.fad 4 T4),Iv 57 55 (Lo T56),Iv 58 55 (.len false T57),Iv 59 55 (.bin .gtr T58 (Ki 40)),Iq 60 (.pick T55 Kt T59),Im 61 T60,Iv 62 61 (.fad 5 T4),Iv 63 61 (Lo T62),Iv 64 61 (.len false T63),Iv 65 61 (.bin .gtr T64 (Ki 40)),Iq 66 (.pick T61 Kt T65)])
 (.cond T66 (Zq (Rg [Iq 2 (.mv Kf)])
 .ret)
 .skip))))
 (Rg [Im 32 T3,Iq 33 (.bin .add Lq (Ki 1)),Im 3 Pm]))))))
 (Zq (Rg [Iq 67 (Lt 25 T1),Iq 68 (.call 49 [T67]),Iq 69 (.call 48 [T68]),Im 70 T69,Iw 71 70 (Lt 25 T1),Iw 72 70 (.call 51 [T71]),Iw 73 70 (.call 50 [T72]),Iq 74 (.pick T70 T73 Kf),Im 2 T74])
 .ret))))
def bNP : FE := ⟨75, y15, [.t 2]⟩
theorem bSQ : iI Tryz.prog 15 bNP := iI.mk1 Tryz.func15
def y16:XC:=(Zq (Rg [Iq 1 (.box 41 T0),Iq 2 (.alloc 47 [Ze,Ze,Zs,Zf,Zs,Zf,Zs,Zf,Zs,Zf,Zs,Zi,Zi,Zf,Zs,Zf,Zs,Zf,Zs,Zf,Zs,Zi,Zs,Zs,Zs])])
 (Zq (.draw [⟨Iq 8 (.fad 0 T1),[]⟩,⟨Iq 9 (Lo T8),[0]⟩,⟨Iq 10 (.fad 1 T1),[]⟩,⟨Iq 11 (Lo pU),[2]⟩,⟨Iq 12 (.fad 3 T1),[]⟩,⟨Iq 13 (Lt 4 qC),[4]⟩,⟨Iq 14 (.call 8 [uY]),[5]⟩,⟨Iq 15 (.fad 7 T1),[]⟩,⟨Iq 16 (Lt 4 vB),[7]⟩,⟨Iq 17 (.call 8 [xJ]),[8,6]⟩,⟨Iq 18 (.fad 11 T1),[]⟩,⟨Iq 19 (Lo wO),[10]⟩,⟨Iq 20 (.fad 12 T1),[]⟩,⟨Iq 21 (Lo zK),[12]⟩,⟨Iq 22 (.fad 13 T1),[]⟩,⟨Iq 23 (Lt 4 By),[14]⟩,⟨Iq 24 (.call 8 [Eh]),[15,9]⟩,⟨Iq 25 (.fad 17 T1),[]⟩,⟨Iq 26 (Lt 4 Ef),[17]⟩,⟨Iq 27 (.call 8 [Ho]),[18,16]⟩,⟨Iq 28 (.fad 21 T1),[]⟩,⟨Iq 29 (Lo J9),[20]⟩,⟨Iq 30 (.build [Ze,Ze,Zs,Zf,Zs,Zf,Zs,Zf,Zs,Zf,Zs,Zi,Zi,Zf,Zs,Zf,Zs,Zf,Zs,Zf,Zs,Zi,Zs,Zs,Zs] [(0,1,T9),(1,1,pO),(3,4,uE),(7,4,yM),(11,1,yB),(12,1,Ce),(13,4,Dp),(17,4,Ed),(21,1,J1)]),[1,3,6,9,11,13,16,19,21]⟩,⟨Iq 3 (.alloc 47 [Ze,Ze,Zs,Zf,Zs,Zf,Zs,Zf,Zs,Zf,Zs,Zi,Zi,Zf,Zs,Zf,Zs,Zf,Zs,Zf,Zs,Zi,Zs,Zs,Zs]),[]⟩,⟨Is (.store 25 T3 Kz),[23,22,19,0,1,2,3,4,5,6,7,8,9,10,11,12,13,14,15,16,17,18,19,20,21,22,23]⟩] [0,1,0,4,0,16,48,0,128,496,0,1024,0,4096,0,16384,50160,0,131072,508912,0,1048576,4194303,0,16777215])
 (Zq (Rg [Iq 31 (.fad 23 T3),Iq 32 (Lo Lp),Iq 33 (.fad 23 T1),Iq 34 (Lo Pm),Iq 35 (.app 9 1 16 [Ze] Lq O1),Iq 36 (.fad 23 T3),Is (.store 1 Yf Ro)])
 (Zq (Zq (Rg [Iq 4 (.mv (Ki 0))])
 (.block 0 (.loop (Zq (Zq (Rg [Im 37 T4,Iq 38 (.fad 2 T1),Iq 39 (Lo T38),Iq 40 (.len false T39),Iq 41 (.bin .lss T37 T40)])
 (.cond T41 .skip
 (.exit 0)))
 (Zq (.block 1 (.draw [⟨Iq 44 (.fad 2 T3),[]⟩,⟨Iq 45 (Lo T44),[0]⟩,⟨Iq 46 (.fad 2 T1),[]⟩,⟨Iq 47 (Lo T46),[2]⟩,⟨Im 48 T4,[]⟩,⟨Iq 49 (.iad 8 T47 T48),[3,4]⟩,⟨Iq 50 (.fad 0 T49),[5]⟩,⟨Iq 51 (Lt 4 T50),[6]⟩,⟨Iq 52 (.call 8 [T51]),[7]⟩,⟨Iq 53 (.fad 2 T1),[]⟩,⟨Iq 54 (Lo T53),[9]⟩,⟨Im 55 T4,[]⟩,⟨Iq 56 (.iad 8 T54 T55),[10,11]⟩,⟨Iq 57 (.fad 4 T56),[12]⟩,⟨Iq 58 (Lt 4 T57),[13]⟩,⟨Iq 59 (.call 8 [T58]),[14,8]⟩,⟨Iq 60 (.build [Zf,Zs,Zf,Zs,Zf,Zs,Zf,Zs] [(0,4,T52),(4,4,T59)]),[8,15]⟩,⟨Iq 61 (.bslice 100 8 1 [Zf,Zs,Zf,Zs,Zf,Zs,Zf,Zs] [(0,T60)]),[16]⟩,⟨Iq 62 (.app 100 8 128 [Zf,Zs,Zf,Zs,Zf,Zs,Zf,Zs] T45 T61),[1,17,15]⟩,⟨Iq 63 (.fad 2 T3),[0,1,2,3,4,5,6,7,8,9,10,11,12,13,14,15,16,17,18]⟩,⟨Is (.store 1 T63 T62),[19,18,18,0,1,2,3,4,5,6,7,8,9,10,11,12,13,14,15,16,17,18]⟩] [0,1,0,4,0,28,60,124,252,0,512,0,3584,7680,15872,32764,65532,131068,262143,524287,1048575]))
 (Rg [Im 42 T4,Iq 43 (.bin .add T42 (Ki 1)),Im 4 T43]))))))
 (Zq (Zq (Rg [Iq 5 (.mv (Ki 0))])
 (.block 2 (.loop (Zq (Zq (Rg [Im 64 T5,Iq 65 (.fad 22 T1),Iq 66 (Lo T65),Iq 67 (.len false T66),Iq 68 (.bin .lss T64 T67)])
 (.cond T68 .skip
 (.exit 2)))
 (Zq (.block 3 (Zq (Rg [Iq 71 (.fad 22 T1),Iq 72 (Lo T71),Im 73 T5,Iq 74 (.iad 6 T72 T73),Iq 75 (Lt 6 T74),Iq 6 (.alloc 102 [Ze,(.int .u8 0),Zf,Zs,Zf,Zs]),Is (.store 6 T6 T75)])
 (.draw [⟨Iq 76 (.fad 22 T3),[]⟩,⟨Iq 77 (Lo T76),[0]⟩,⟨Iq 78 (.fad 0 T6),[]⟩,⟨Iq 79 (Lo T78),[2]⟩,⟨Iq 80 (.fad 1 T6),[]⟩,⟨Iq 81 (Lo T80),[4]⟩,⟨Iq 82 (.fad 2 T6),[]⟩,⟨Iq 83 (Lt 4 T82),[6]⟩,⟨Iq 84 (.call 8 [T83]),[7]⟩,⟨Iq 85 (.build [Ze,(.int .u8 0),Zf,Zs,Zf,Zs] [(0,1,T79),(1,1,T81),(2,4,T84)]),[3,5,8]⟩,⟨Iq 86 (.bslice 104 6 1 [Ze,(.int .u8 0),Zf,Zs,Zf,Zs] [(0,T85)]),[9]⟩,⟨Iq 87 (.app 104 6 88 [Ze,(.int .u8 0),Zf,Zs,Zf,Zs] T77 T86),[1,10,8]⟩,⟨Iq 88 (.fad 22 T3),[0,1,2,3,4,5,6,7,8,9,10,11]⟩,⟨Is (.store 1 T88 T87),[12,11,11,0,1,2,3,4,5,6,7,8,9,10,11]⟩] [0,1,0,4,0,16,0,64,192,508,1020,2047,4095,8191])))
 (Rg [Im 69 T5,Iq 70 (.bin .add T69 (Ki 1)),Im 5 T70]))))))
 (Zq (Zq (Rg [Iq 7 (.mv (Ki 0))])
 (.block 4 (.loop (Zq (Zq (Rg [Im 89 T7,Iq 90 (.fad 24 T1),Iq 91 (Lo T90),Iq 92 (.len false T91),Iq 93 (.bin .lss T89 T92)])
 (.cond T93 .skip
 (.exit 4)))
 (Zq (.block 5 (.draw [⟨Iq 96 (.fad 24 T3),[]⟩,⟨Iq 97 (Lo T96),[0]⟩,⟨Iq 98 (.fad 24 T1),[]⟩,⟨Iq 99 (Lo T98),[2]⟩,⟨Im 100 T7,[]⟩,⟨Iq 101 (.iad 6 T99 aVJ),[3,4]⟩,⟨Iq 102 (Lt 6 aVC),[5]⟩,⟨Iq 103 (.call 52 [aVK]),[6]⟩,⟨Iq 104 (.bslice 111 6 1 [Zi,Zs,Zs,Zs,Zs,Zs] [(0,aVy)]),[7]⟩,⟨Iq 105 (.app 111 6 128 [Zi,Zs,Zs,Zs,Zs,Zs] T97 aVH),[1,8,7]⟩,⟨Iq 106 (.fad 24 T3),[0,1,2,3,4,5,6,7,8,9]⟩,⟨Is (.store 1 aWg aWi),[10,9,9,0,1,2,3,4,5,6,7,8,9]⟩] [0,1,0,4,0,28,60,124,252,511,1023,2047]))
 (Rg [Im 94 T7,Iq 95 (.bin .add T94 (Ki 1)),Im 7 T95]))))))
 (Zq (Rg [Iq 107 (Lt 25 T3),Is (.store 25 T2 aVe)])
 .ret)))))))
def bP0 : FE := ⟨108, y16, [.c 2 true 25]⟩
theorem bSm : iI Tryz.prog 16 bP0 := iI.mk1 Tryz.func16
def y17:XC:=(Zq (Rg [Iq 1 (.box 41 T0),Iq 2 (.alloc 50 [(.int .u8 0),Zi,Zi]),Iq 3 (.mv (Ki 0))])
 (Zq (Zq (.draw [⟨Iq 9 (.fad 0 T1),[]⟩,⟨Iq 10 (Lo T9),[0]⟩,⟨Iq 11 (.fad 1 T1),[]⟩,⟨Iq 12 (Lo pO),[2]⟩,⟨Iq 13 (.bslice 9 1 2 [Ze] [(0,pU),(1,qC)]),[1,3]⟩,⟨Iq 14 (.call 53 [(.k (.int .u8 1)),(.k (.int .i64 (-1))),uY,(Ki 2),(.f 9)]),[4]⟩,⟨Iq 15 (.fad 2 T1),[]⟩,⟨Iq 16 (Lo vB),[6]⟩,⟨Iq 17 (.call 54 [(.k (.int .u8 2)),(.k (.int .i64 (-1))),xJ,(Ki 16),(.f 55)]),[7,5]⟩,⟨Iq 18 (Lt 25 T1),[]⟩,⟨Iq 19 (.call 57 [wO]),[9,8]⟩,⟨Iq 20 (.call 56 [(.k (.int .u8 3)),(.k (.int .i64 (-1))),yB,(Ki 7),(.f 58)]),[10,10]⟩,⟨Iq 21 (.fad 22 T1),[]⟩,⟨Iq 22 (Lo Ce),[12]⟩,⟨Iq 23 (.call 59 [(.k (.int .u8 4)),(.k (.int .i64 (-1))),By,(Ki 64),(.f 60)]),[13,11]⟩,⟨Iq 24 (.fad 23 T1),[]⟩,⟨Iq 25 (Lo Dp),[15]⟩,⟨Iq 26 (.call 53 [(.k (.int .u8 5)),(.k (.int .i64 (-1))),Ef,(Ki 256),(.f 9)]),[16,14]⟩,⟨Iq 27 (.fad 24 T1),[]⟩,⟨Iq 28 (Lo Ed),[18]⟩,⟨Iq 29 (.call 61 [(.k (.int .u8 6)),(.k (.int .i64 (-1))),J9,(Ki 40),(.f 62)]),[19,17]⟩,⟨Iq 30 (.bslice 113 1 6 [(.pointer none)] [(0,uE),(1,yM),(2,zK),(3,Eh),(4,Ho),(5,J1)]),[5,8,11,14,17,20]⟩,⟨Iq 31 (.len false Kz),[21]⟩,⟨Iq 32 (.mv (Ki 0)),[]⟩] [0,1,0,4,15,31,0,64,255,0,1023,2047,0,4096,16383,0,32768,131071,0,262144,1048575,2097151,4194303,0])
 (.block 0 (.loop (Zq (Rg [Iq 33 (.bin .lss Lq Lp)])
 (Zq (.cond Pm .skip
 (.exit 0))
 (Zq (.block 1 (Zq (Rg [Iq 34 (.iad 1 Kz Lq),Iq 35 (Lo O1),Im 5 Ro])
 (Zq (Rg [Im 36 T5,Iq 37 (.cmpn .ptr true Yf (.k (.pointer none)))])
 (.cond T37 (Zq (.draw [⟨Im 38 T5,[]⟩,⟨Iq 39 (.nilck T38),[0]⟩,⟨Iq 40 (.fad 0 T39),[1]⟩,⟨Iq 41 (Lt 3 T40),[2]⟩,⟨Im 42 T5,[]⟩,⟨Iq 43 (.nilck T42),[4]⟩,⟨Iq 44 (.fad 3 T43),[5]⟩,⟨Iq 45 (Lo T44),[6]⟩,⟨Is (.store 3 T2 T41),[3,0,1,2,3]⟩,⟨Im 3 T45,[7,8,0,1,2,3,4,5,6,7,8]⟩] [0,1,3,7,0,16,48,112,15,511])
 .ret)
 .skip))))
 (Rg [Iq 46 (.bin .add Lq (Ki 1)),Im 32 T46])))))))
 (Zq (Zq (Rg [Iq 47 (.fad 24 T1),Iq 48 (Lo T47),Iq 49 (.len false T48),Iq 50 (.mv (Ki 0))])
 (.block 2 (.loop (Zq (Rg [Iq 51 (.bin .lss T50 T49)])
 (Zq (.cond T51 .skip
 (.exit 2))
 (Zq (.block 3 (Zq (Rg [Im 52 T50,Iq 53 (.iad 6 T48 T50),Iq 54 (Lt 6 T53),Iq 7 (.alloc 92 [Zi,Zs,Zs,Zs,Zs,Zs]),Im 6 T52,Is (.store 6 T7 T54)])
 (Zq (Rg [Iq 55 (Lt 6 T7),Im 56 T6,Iq 57 (.call 63 [T55,T56]),Im 8 T57])
 (Zq (Rg [Im 58 T8,Iq 59 (.cmpn .ptr true T58 (.k (.pointer none)))])
 (.cond T59 (Zq (.draw [⟨Im 60 T8,[]⟩,⟨Iq 61 (.nilck T60),[0]⟩,⟨Iq 62 (.fad 0 T61),[1]⟩,⟨Iq 63 (Lt 3 T62),[2]⟩,⟨Im 64 T8,[]⟩,⟨Iq 65 (.nilck T64),[4]⟩,⟨Iq 66 (.fad 3 T65),[5]⟩,⟨Iq 67 (Lo T66),[6]⟩,⟨Is (.store 3 T2 T63),[3,0,1,2,3]⟩,⟨Im 3 T67,[7,8,0,1,2,3,4,5,6,7,8]⟩] [0,1,3,7,0,16,48,112,15,511])
 .ret)
 .skip)))))
 (Rg [Iq 68 (.bin .add T50 (Ki 1)),Im 50 T68])))))))
 (Zq (Rg [Iq 69 (.build [(.int .u8 0),Zi,Zi] []),Is (.store 3 T2 T69),Iq 3 (.mv (Ki 0))])
 .ret))))
def bQk : FE := ⟨70, y17, [.c 2 true 3, .t 3]⟩
theorem bSh : iI Tryz.prog 17 bQk := iI.mk1 Tryz.func17
def y18:XC:=(Zq (Rg [Iq 1 (.box 47 T0),Iq 2 (.alloc 54 [(.int .u8 0),Zi,Zi]),Iq 3 (.mv (Ki 0))])
 (Zq (Zq (Rg [Iq 13 (.fad 0 T1),Iq 14 (Lo uY),Iq 15 (.call 10 [uE]),Iq 16 (.un .not vB)])
 (.cond xJ (Zq (Rg [Iq 17 (.build [(.int .u8 0),Zi,Zi] [(0,1,(.k (.int .u8 1))),(1,1,(.k (.int .i64 (-1)))),(2,1,(Ki 0))]),Is (.store 3 T2 yM),Iq 3 (.mv (Ki 2))])
 .ret)
 .skip))
 (Zq (Zq (Rg [Iq 18 (.fad 1 T1),Iq 19 (Lo wO),Iq 20 (.call 10 [yB]),Iq 21 (.un .not zK)])
 (.cond Ce (Zq (Rg [Iq 22 (.build [(.int .u8 0),Zi,Zi] [(0,1,(.k (.int .u8 1))),(1,1,(.k (.int .i64 (-1)))),(2,1,(Ki 1))]),Is (.store 3 T2 By),Iq 3 (.mv (Ki 2))])
 .ret)
 .skip))
 (Zq (Rg [Iq 23 (.fad 2 T1),Iq 24 (Lo Eh),Iq 25 (.len false Dp),Iq 26 (.fad 22 T1),Iq 27 (Lo Ho),Iq 28 (.len false Ed),Iq 29 (.fad 23 T1),Iq 30 (Lo J1),Iq 31 (.len false Kz),Iq 32 (.fad 24 T1),Iq 33 (Lo Lq),Iq 34 (.len false Pm),Iq 35 (.bslice 3 1 7 [Zi] [(0,(Ki 0)),(1,(Ki 0)),(2,Ef),(3,(Ki 0)),(4,J9),(5,Lp),(6,O1)]),Im 4 Ro])
 (Zq (Rg [Iq 36 (.bslice 3 1 7 [Zi] [(0,(Ki 0)),(1,(Ki 0)),(2,(Ki 16)),(3,(Ki 0)),(4,(Ki 64)),(5,(Ki 256)),(6,(Ki 40))]),Im 5 Yf])
 (Zq (Zq (Rg [Iq 6 (.mv (Ki 2))])
 (.block 0 (.loop (Zq (Zq (Rg [Im 37 T6,Iq 38 (.bin .leq T37 (Ki 6))])
 (.cond T38 .skip
 (.exit 0)))
 (Zq (.block 1 (Zq (Zq (Rg [Im 41 T6,Iq 42 (.bin .eql T41 (Ki 3)),Im 43 T42,Iw 44 43 (Lt 25 T1),Iw 45 43 (.call 64 [T44]),Iw 46 43 (.bin .lss T45 (Ki 7)),Iq 47 (.pick T43 T46 Kf)])
 (.cond T47 (Zq (Rg [Iq 48 (Lt 25 T1),Iq 49 (.call 64 [T48]),Iq 50 (.build [(.int .u8 0),Zi,Zi] [(0,1,(.k (.int .u8 3))),(1,1,(.k (.int .i64 (-1)))),(2,1,T49)]),Is (.store 3 T2 T50),Iq 3 (.mv (Ki 2))])
 .ret)
 .skip))
 (Zq (Rg [Iq 7 (.mv (Ki 0))])
 (.block 2 (.loop (Zq (Zq (Rg [Im 51 T7,Im 52 T4,Im 53 T6,Iq 54 (.iad 1 T52 T53),Iq 55 (Lo T54),Iq 56 (.bin .lss T51 T55)])
 (.cond T56 .skip
 (.exit 2)))
 (Zq (.block 3 (Zq (Zq (Rg [Im 59 T7,Im 60 T5,Im 61 T6,Iq 62 (.iad 1 T60 T61),Iq 63 (Lo T62),Iq 64 (.bin .eql T59 T63)])
 (.cond T64 (Zq (Rg [Im 65 T6,Iq 66 (.cvi .u8 T65),Im 67 T7,Iq 68 (.build [(.int .u8 0),Zi,Zi] [(0,1,T66),(1,1,(.k (.int .i64 (-1)))),(2,1,T67)]),Is (.store 3 T2 T68),Iq 3 (.mv (Ki 3))])
 .ret)
 .skip))
 (Zq (Rg [Iq 69 (Lt 25 T1),Im 70 T6,Im 71 T7,Iq 72 (.call 65 [T69,T70,T71]),Iq 73 (.un .not T72)])
 (.cond T73 (Zq (Rg [Im 74 T6,Iq 75 (.cvi .u8 T74),Im 76 T7,Iq 77 (.build [(.int .u8 0),Zi,Zi] [(0,1,T75),(1,1,(.k (.int .i64 (-1)))),(2,1,T76)]),Is (.store 3 T2 T77),Iq 3 (.mv (Ki 2))])
 .ret)
 .skip))))
 (Rg [Im 57 T7,Iq 58 (.bin .add T57 (Ki 1)),Im 7 T58]))))))))
 (Rg [Im 39 T6,Iq 40 (.bin .add T39 (Ki 1)),Im 6 T40]))))))
 (Zq (Zq (Rg [Iq 8 (.mv (Ki 0))])
 (.block 4 (.loop (Zq (Zq (Rg [Im 78 T8,Iq 79 (.fad 24 T1),Iq 80 (Lo T79),Iq 81 (.len false T80),Iq 82 (.bin .lss T78 T81)])
 (.cond T82 .skip
 (.exit 4)))
 (Zq (.block 5 (Zq (Rg [Iq 85 (.fad 24 T1),Iq 86 (Lo T85),Im 87 T8,Iq 88 (.iad 6 T86 T87),Iq 89 (Lt 6 T88),Iq 9 (.alloc 111 [Zi,Zs,Zs,Zs,Zs,Zs]),Is (.store 6 T9 T89)])
 (Zq (Rg [Iq 90 (.fad 1 T9),Iq 91 (Lo T90),Iq 92 (.len false T91),Iq 93 (.fad 2 T9),Iq 94 (Lo T93),Iq 95 (.len false T94),Iq 96 (.fad 3 T9),Iq 97 (Lo T96),Iq 98 (.len false T97),Iq 99 (.fad 4 T9),Iq 100 (Lo T99),Iq 101 (.len false aVJ),Iq 102 (.fad 5 T9),Iq 103 (Lo aVK),Iq 104 (.len false aVy),Iq 105 (.bslice 3 1 12 [Zi] [(0,(Ki 0)),(1,(Ki 0)),(2,(Ki 0)),(3,(Ki 0)),(4,(Ki 0)),(5,(Ki 0)),(6,(Ki 0)),(7,T92),(8,T95),(9,T98),(10,aVC),(11,aVH)]),Im 10 aWi])
 (Zq (Rg [Iq 11 (.mv (Ki 7))])
 (.block 6 (.loop (Zq (Zq (Rg [Im 106 pO,Iq 107 (.bin .leq aWg (Ki 11))])
 (.cond aVe .skip
 (.exit 6)))
 (Zq (.block 7 (Zq (Rg [Iq 12 (.mv (Ki 0))])
 (.block 8 (.loop (Zq (Zq (Rg [Im 110 qC,Im 111 pU,Im 112 pO,Iq 113 (.iad 1 aXZ aXe),Iq 114 (Lo aXB),Iq 115 (.bin .lss aXK aXM)])
 (.cond aXb .skip
 (.exit 8)))
 (Zq (.block 9 (Zq (Zq (Rg [Im 118 qC,Iq 119 (.bin .eql aWJ (Ki 4096))])
 (.cond aYk (Zq (Rg [Im 120 pO,Iq 121 (.cvi .u8 aXU),Im 122 T8,Im 123 qC,Iq 124 (.build [(.int .u8 0),Zi,Zi] [(0,1,aYl),(1,1,aWf),(2,1,aXN)]),Is (.store 3 T2 aWn),Iq 3 (.mv (Ki 3))])
 .ret)
 .skip))
 (Zq (Rg [Iq 125 (Lt 6 T9),Im 126 pO,Im 127 qC,Iq 128 (.call 66 [aXG,aWN,aXS]),Iq 129 (.un .not aZh)])
 (.cond aXH (Zq (Rg [Im 130 pO,Iq 131 (.cvi .u8 aWw),Im 132 T8,Im 133 qC,Iq 134 (.build [(.int .u8 0),Zi,Zi] [(0,1,aXQ),(1,1,aYL),(2,1,aY7)]),Is (.store 3 T2 aYR),Iq 3 (.mv (Ki 2))])
 .ret)
 .skip))))
 (Rg [Im 116 qC,Iq 117 (.bin .add aXx (Ki 1)),Im 12 aXJ])))))))
 (Rg [Im 108 pO,Iq 109 (.bin .add aX7 (Ki 1)),Im 11 aW4])))))))))
 (Rg [Im 83 T8,Iq 84 (.bin .add T83 (Ki 1)),Im 8 T84]))))))
 (Zq (Rg [Iq 135 (.build [(.int .u8 0),Zi,Zi] []),Is (.store 3 T2 aZi),Iq 3 (.mv (Ki 0))])
 .ret))))))))
def bPN : FE := ⟨136, y18, [.c 2 true 3, .t 3]⟩
theorem bS0 : iI Tryz.prog 18 bPN := iI.mk1 Tryz.func18
def y19:XC:=(Zq (Rg [Iq 2 (.box 47 T0),Iq 3 (.box 47 T1),Iq 4 (.mv Kf)])
 (Zq (Zq (Rg [Iq 9 (.fad 0 T2),Iq 10 (Lo T9),Iq 11 (.fad 0 T3),Iq 12 (Lo pO),Iq 13 (.bin .neq pU qC),Im 14 uY,Iv 15 14 (.fad 1 T2),Iv 16 14 (Lo vB),Iv 17 14 (.fad 1 T3),Iv 18 14 (Lo yM),Iv 19 14 (.bin .neq xJ wO),Iq 20 (.pick uE Kt yB),Im 21 zK,Iv 22 21 (.fad 2 T2),Iv 23 21 (Lo By),Iv 24 21 (.len false Eh),Iv 25 21 (.fad 2 T3),Iv 26 21 (Lo Ef),Iv 27 21 (.len false Ho),Iv 28 21 (.bin .neq Dp Ed),Iq 29 (.pick Ce Kt J9),Im 30 J1,Iv 31 30 (.fad 22 T2),Iv 32 30 (Lo Lp),Iv 33 30 (.len false Lq),Iv 34 30 (.fad 22 T3),Iv 35 30 (Lo O1),Iv 36 30 (.len false Ro),Iv 37 30 (.bin .neq Pm Yf),Iq 38 (.pick Kz Kt T37),Im 39 T38,Iv 40 39 (.fad 23 T2),Iv 41 39 (Lo T40),Iv 42 39 (.len false T41),Iv 43 39 (.fad 23 T3),Iv 44 39 (Lo T43),Iv 45 39 (.len false T44),Iv 46 39 (.bin .neq T42 T45),Iq 47 (.pick T39 Kt T46),Im 48 T47,Iv 49 48 (.fad 24 T2),Iv 50 48 (Lo T49),Iv 51 48 (.len false T50),Iv 52 48 (.fad 24 T3),Iv 53 48 (Lo T52),Iv 54 48 (.len false T53),Iv 55 48 (.bin .neq T51 T54),Iq 56 (.pick T48 Kt T55)])
 (.cond T56 (Zq (Rg [Iq 4 (.mv Kf)])
 .ret)
 .skip))
 (Zq (Zq (Rg [Iq 57 (.fad 3 T2),Iq 58 (Lt 4 T57),Iq 59 (.fad 3 T3),Iq 60 (Lt 4 T59),Iq 61 (.call 67 [T58,T60]),Iq 62 (.un .not T61),Im 63 T62,Iv 64 63 (.fad 7 T2),Iv 65 63 (Lt 4 T64),Iv 66 63 (.fad 7 T3),Iv 67 63 (Lt 4 T66),Iv 68 63 (.call 67 [T65,T67]),Iv 69 63 (.un .not T68),Iq 70 (.pick T63 Kt T69),Im 71 T70,Iv 72 71 (.fad 11 T2),Iv 73 71 (Lo T72),Iv 74 71 (.fad 11 T3),Iv 75 71 (Lo T74),Iv 76 71 (.bin .neq T73 T75),Iq 77 (.pick T71 Kt T76),Im 78 T77,Iv 79 78 (.fad 12 T2),Iv 80 78 (Lo T79),Iv 81 78 (.fad 12 T3),Iv 82 78 (Lo T81),Iv 83 78 (.bin .neq T80 T82),Iq 84 (.pick T78 Kt T83),Im 85 T84,Iv 86 85 (.fad 13 T2),Iv 87 85 (Lt 4 T86),Iv 88 85 (.fad 13 T3),Iv 89 85 (Lt 4 T88),Iv 90 85 (.call 67 [T87,T89]),Iv 91 85 (.un .not T90),Iq 92 (.pick T85 Kt T91),Im 93 T92,Iv 94 93 (.fad 17 T2),Iv 95 93 (Lt 4 T94),Iv 96 93 (.fad 17 T3),Iv 97 93 (Lt 4 T96),Iv 98 93 (.call 67 [T95,T97]),Iv 99 93 (.un .not T98),Iq 100 (.pick T93 Kt T99),Im 101 aVJ,Iv 102 101 (.fad 21 T2),Iv 103 101 (Lo aVK),Iv 104 101 (.fad 21 T3),Iv 105 101 (Lo aVH),Iv 106 101 (.bin .neq aVy aWi),Iq 107 (.pick aVC Kt aWg)])
 (.cond aVe (Zq (Rg [Iq 4 (.mv Kf)])
 .ret)
 .skip))
 (Zq (Zq (Rg [Iq 5 (.mv (Ki 0))])
 (.block 0 (.loop (Zq (Zq (Rg [Im 108 T5,Iq 109 (.fad 2 T2),Iq 110 (Lo aW4),Iq 111 (.len false aXK),Iq 112 (.bin .lss aX7 aXZ)])
 (.cond aXe .skip
 (.exit 0)))
 (Zq (.block 1 (Zq (.draw [⟨Iq 115 (.fad 2 T2),[]⟩,⟨Iq 116 (Lo aXb),[0]⟩,⟨Im 117 T5,[]⟩,⟨Iq 118 (.iad 8 aXx aXJ),[1,2]⟩,⟨Iq 119 (.fad 0 aWJ),[3]⟩,⟨Iq 120 (Lt 4 aYk),[4]⟩,⟨Iq 121 (.fad 2 T3),[]⟩,⟨Iq 122 (Lo aYl),[6]⟩,⟨Im 123 T5,[]⟩,⟨Iq 124 (.iad 8 aWf aXN),[7,8]⟩,⟨Iq 125 (.fad 0 aWn),[9]⟩,⟨Iq 126 (Lt 4 aXG),[10]⟩,⟨Iq 127 (.call 67 [aXU,aWN]),[5,11]⟩,⟨Iq 128 (.un .not aXS),[12]⟩,⟨Im 129 aZh,[13,12]⟩,⟨Iv 130 129 (.fad 2 T2),[14]⟩,⟨Iv 131 129 (Lo aWw),[15,14]⟩,⟨Iv 132 129 (.mv T5),[14]⟩,⟨Iv 133 129 (.iad 8 aXQ aYL),[16,17,14]⟩,⟨Iv 134 129 (.fad 4 aY7),[18,14]⟩,⟨Iv 135 129 (Lt 4 aYR),[19,14]⟩,⟨Iv 136 129 (.fad 2 T3),[14]⟩,⟨Iv 137 129 (Lo bBU),[21,14]⟩,⟨Iv 138 129 (.mv T5),[14]⟩,⟨Iv 139 129 (.iad 8 bCP bB8),[22,23,14]⟩,⟨Iv 140 129 (.fad 4 bB4),[24,14]⟩,⟨Iv 141 129 (Lt 4 bBX),[25,14]⟩,⟨Iv 142 129 (.call 67 [aZi,bAB]),[20,26,14,14]⟩,⟨Iv 143 129 (.un .not bC2),[27,14]⟩,⟨Iq 144 (.pick aXH Kt bCk),[14,28]⟩] [0,1,0,7,15,31,0,64,0,448,960,1984,4095,8191,16383,32767,65535,32767,262143,524287,1048575,32767,2129919,32767,14712831,31490047,65044479,134217727,268435455,536870911])
 (.cond bCd (Zq (Rg [Iq 4 (.mv Kf)])
 .ret)
 .skip)))
 (Rg [Im 113 T5,Iq 114 (.bin .add aXB (Ki 1)),Im 5 aXM]))))))
 (Zq (Zq (Rg [Iq 6 (.mv (Ki 0))])
 (.block 2 (.loop (Zq (Zq (Rg [Im 145 T6,Iq 146 (.fad 22 T2),Iq 147 (Lo bDn),Iq 148 (.len false bFq),Iq 149 (.bin .lss bBF bDt)])
 (.cond bFM .skip
 (.exit 2)))
 (Zq (.block 3 (Zq (.draw [⟨Iq 152 (.fad 22 T2),[]⟩,⟨Iq 153 (Lo bQD),[0]⟩,⟨Im 154 T6,[]⟩,⟨Iq 155 (.iad 6 bMt bP9),[1,2]⟩,⟨Iq 156 (.fad 0 bNG),[3]⟩,⟨Iq 157 (Lo bOR),[4]⟩,⟨Iq 158 (.fad 22 T3),[]⟩,⟨Iq 159 (Lo bPW),[6]⟩,⟨Im 160 T6,[]⟩,⟨Iq 161 (.iad 6 bTB bPK),[7,8]⟩,⟨Iq 162 (.fad 0 bO7),[9]⟩,⟨Iq 163 (Lo bON),[10]⟩,⟨Iq 164 (.bin .neq bQ3 bO9),[5,11]⟩,⟨Im 165 bOx,[12]⟩,⟨Iv 166 165 (.fad 22 T2),[13]⟩,⟨Iv 167 165 (Lo bOT),[14,13]⟩,⟨Iv 168 165 (.mv T6),[13]⟩,⟨Iv 169 165 (.iad 6 bOu bQY),[15,16,13]⟩,⟨Iv 170 165 (.fad 1 bM0),[17,13]⟩,⟨Iv 171 165 (Lo bN2),[18,13]⟩,⟨Iv 172 165 (.fad 22 T3),[13]⟩,⟨Iv 173 165 (Lo bMx),[20,13]⟩,⟨Iv 174 165 (.mv T6),[13]⟩,⟨Iv 175 165 (.iad 6 bM2 bQc),[21,22,13]⟩,⟨Iv 176 165 (.fad 1 bQJ),[23,13]⟩,⟨Iv 177 165 (Lo bHY),[24,13]⟩,⟨Iv 178 165 (.bin .neq bPr bNW),[19,25,13]⟩,⟨Iq 179 (.pick bQd Kt bNf),[13,26]⟩,⟨Im 180 bPL,[27,13]⟩,⟨Iv 181 180 (.fad 22 T2),[28]⟩,⟨Iv 182 180 (Lo bPA),[29,28]⟩,⟨Iv 183 180 (.mv T6),[28]⟩,⟨Iv 184 180 (.iad 6 bMD bMr),[30,31,28]⟩,⟨Iv 185 180 (.fad 2 bOs),[32,28]⟩,⟨Iv 186 180 (Lt 4 bMs),[33,28]⟩,⟨Iv 187 180 (.fad 22 T3),[28]⟩,⟨Iv 188 180 (Lo bRk),[35,28]⟩,⟨Iv 189 180 (.mv T6),[28]⟩,⟨Iv 190 180 (.iad 6 bSr bTe),[36,37,28]⟩,⟨Iv 191 180 (.fad 2 bRn),[38,28]⟩,⟨Iv 192 180 (Lt 4 bTi),[39,28]⟩,⟨Iv 193 180 (.call 67 [bOJ,bTd]),[34,40,28,28]⟩,⟨Iv 194 180 (.un .not bSN),[41,28]⟩,⟨Iq 195 (.pick bNk Kt bSk),[28,42]⟩] [0,1,0,7,15,31,0,64,0,448,960,1984,4095,8191,16383,32767,16383,131071,262143,524287,16383,1064959,16383,7356415,15745023,32522239,67108863,134217727,268435455,536870911,1073741823,536870911,4294967295,8589934591,17179869183,536870911,34896609279,536870911,241055039487,515932946431,1065688760319,2199023255551,4398046511103,8796093022207])
 (.cond bRs (Zq (Rg [Iq 4 (.mv Kf)])
 .ret)
 .skip)))
 (Rg [Im 150 T6,Iq 151 (.bin .add bK9 (Ki 1)),Im 6 bJl]))))))
 (Zq (Zq (Rg [Iq 7 (.mv (Ki 0))])
 (.block 4 (.loop (Zq (Zq (Rg [Im 196 T7,Iq 197 (.fad 23 T2),Iq 198 (Lo bRI),Iq 199 (.len false bUn),Iq 200 (.bin .lss bUt bSG)])
 (.cond bRN .skip
 (.exit 4)))
 (Zq (.block 5 (Zq (.draw [⟨Iq 203 (.fad 23 T2),[]⟩,⟨Iq 204 (Lo bTY),[0]⟩,⟨Im 205 T7,[]⟩,⟨Iq 206 (.iad 1 bSU bRL),[1,2]⟩,⟨Iq 207 (Lo bTM),[3]⟩,⟨Iq 208 (.fad 23 T3),[]⟩,⟨Iq 209 (Lo bTS),[5]⟩,⟨Im 210 T7,[]⟩,⟨Iq 211 (.iad 1 bSx bRH),[6,7]⟩,⟨Iq 212 (Lo bTD),[8]⟩,⟨Iq 213 (.bin .neq bST bS3),[4,9]⟩] [0,1,0,7,15,0,32,0,224,480,1023])
 (.cond bRJ (Zq (Rg [Iq 4 (.mv Kf)])
 .ret)
 .skip)))
 (Rg [Im 201 T7,Iq 202 (.bin .add bR2 (Ki 1)),Im 7 bT4]))))))
 (Zq (Zq (Rg [Iq 8 (.mv (Ki 0))])
 (.block 6 (.loop (Zq (Zq (Rg [Im 214 T8,Iq 215 (.fad 24 T2),Iq 216 (Lo bSp),Iq 217 (.len false bTb),Iq 218 (.bin .lss bSS bSI)])
 (.cond bS7 .skip
 (.exit 6)))
 (Zq (.block 7 (Zq (.draw [⟨Iq 221 (.fad 24 T2),[]⟩,⟨Iq 222 (Lo bUe),[0]⟩,⟨Im 223 T8,[]⟩,⟨Iq 224 (.iad 6 bS2 bRy),[1,2]⟩,⟨Iq 225 (Lt 6 bRC),[3]⟩,⟨Iq 226 (.fad 24 T3),[]⟩,⟨Iq 227 (Lo bUp),[5]⟩,⟨Im 228 T8,[]⟩,⟨Iq 229 (.iad 6 bTs bRA),[6,7]⟩,⟨Iq 230 (Lt 6 bS8),[8]⟩,⟨Iq 231 (.call 68 [bTU,bSC]),[4,9]⟩,⟨Iq 232 (.un .not bTr),[10]⟩] [0,1,0,7,15,0,32,0,224,480,1023,2047])
 (.cond bRM (Zq (Rg [Iq 4 (.mv Kf)])
 .ret)
 .skip)))
 (Rg [Im 219 T8,Iq 220 (.bin .add bSR (Ki 1)),Im 8 bRZ]))))))
 (Zq (Rg [Iq 4 (.mv Kt)])
 .ret))))))))
def bMw : FE := ⟨233, y19, [.t 4]⟩
theorem bUm : iI Tryz.prog 19 bMw := iI.mk1 Tryz.func19
def y23:XC:=(Zq (Rg [Iq 4 (.alloc 30 [Zf,Zs,Zf,Zs]),Iq 5 (.mv (Ki 0))])
 (Zq (Rg [Im 6 T0,Iq 7 (.call 76 [T6]),Im 8 T1,Iq 9 (.call 76 [T8]),Iq 10 (.call 75 [T7,T9]),Iq 11 (.ext pU 0),Iq 12 (.ext pU 1),Is (.store 4 T4 pO),Im 5 qC])
 .ret))
def bMJ : FE := ⟨13, y23, [.c 4 true 4, .t 5]⟩
theorem bSb : iI Tryz.prog 23 bMJ := iI.mk1 Tryz.func23
def y24:XC:=(Zq (Rg [Iq 1 (.box 30 T0),Iq 2 (.alloc 26 [Zf,Zs,Zf,Zs])])
 (Zq (.draw [⟨Iq 3 (.fad 0 T1),[]⟩,⟨Iq 4 (.fad 0 T3),[0]⟩,⟨Iq 5 (Lo T4),[1]⟩,⟨Iq 6 (.fad 0 T1),[]⟩,⟨Iq 7 (.fad 1 T6),[3]⟩,⟨Iq 8 (Lo T7),[4]⟩,⟨Iq 9 (.call 31 [T8]),[5]⟩,⟨Iq 10 (.build [Zf,Zs] [(0,1,T5),(1,1,T9)]),[2,6]⟩,⟨Iq 11 (.fad 2 T1),[]⟩,⟨Iq 12 (.fad 0 pO),[8]⟩,⟨Iq 13 (Lo qC),[9]⟩,⟨Iq 14 (.fad 2 T1),[]⟩,⟨Iq 15 (.fad 1 uE),[11]⟩,⟨Iq 16 (Lo vB),[12]⟩,⟨Iq 17 (.call 31 [xJ]),[13,6]⟩,⟨Iq 18 (.build [Zf,Zs] [(0,1,uY),(1,1,yM)]),[10,14]⟩,⟨Iq 19 (.build [Zf,Zs,Zf,Zs] [(0,2,pU),(2,2,wO)]),[7,15]⟩,⟨Is (.store 4 T2 yB),[16,14,0,1,2,3,4,5,6,7,8,9,10,11,12,13,14,15,16]⟩] [0,1,3,0,8,24,56,127,0,256,768,0,2048,6144,14456,32632,65535,131071])
 .ret))
def bQH : FE := ⟨20, y24, [.c 2 true 4]⟩
theorem bSg : iI Tryz.prog 24 bQH := iI.mk1 Tryz.func24
def y25:XC:=(Zq (Rg [Iq 2 (.box 30 T0),Iq 3 (.box 30 T1),Iq 4 (.alloc 30 [Zf,Zs,Zf,Zs])])
 (Zq (Rg [Iq 7 (Lt 4 T2),Iq 8 (.call 77 [T7]),Is (.store 4 T2 T8)])
 (Zq (Rg [Iq 9 (Lt 4 T3),Iq 10 (.call 77 [T9]),Is (.store 4 T3 pU)])
 (Zq (.draw [⟨Iq 12 (.fad 0 T2),[]⟩,⟨Iq 13 (Lt 2 qC),[0]⟩,⟨Iq 14 (.fad 0 T3),[]⟩,⟨Iq 15 (Lt 2 uE),[2]⟩,⟨Iq 16 (.call 78 [uY,vB]),[1,3]⟩,⟨Iq 17 (.fad 2 T2),[]⟩,⟨Iq 18 (Lt 2 yM),[5]⟩,⟨Iq 19 (.fad 2 T3),[]⟩,⟨Iq 20 (Lt 2 yB),[7]⟩,⟨Iq 21 (.call 78 [wO,zK]),[6,8,4]⟩,⟨Iq 22 (.call 75 [xJ,Ce]),[4,9,9]⟩,⟨Im 11 By,[10]⟩,⟨Iq 23 (.ext pO 0),[11]⟩,⟨Iq 24 (.ext pO 1),[11]⟩,⟨Iq 5 (.alloc 30 [Zf,Zs,Zf,Zs]),[]⟩,⟨Is (.store 4 T5 Eh),[14,12,10,0,1,2,3,4,5,6,7,8,9,10,11,12,14]⟩,⟨Im 6 Dp,[13,15,0,1,2,3,4,5,6,7,8,9,10,11,12,13,14,15]⟩] [0,1,0,4,15,0,32,0,128,511,1023,2047,4095,4095,0,24575,65535])
 (Zq (Rg [Iq 25 (Lt 4 T5),Is (.store 4 T4 Ef)])
 .ret)))))
def bPd : FE := ⟨26, y25, [.c 4 true 4]⟩
theorem bT2 : iI Tryz.prog 25 bPd := iI.mk1 Tryz.func25
def y26:XC:=(Zq (Rg [Iq 4 (.alloc 26 [Zf,Zs,Zf,Zs])])
 (Zq (Rg [Im 8 T0,Im 9 T1,Iq 10 (.call 23 [T8,T9]),Im 7 pU,Iq 11 (.ext T7 0),Iq 12 (.ext T7 1),Iq 5 (.alloc 30 [Zf,Zs,Zf,Zs]),Is (.store 4 T5 pO),Im 6 qC])
 (Zq (Rg [Iq 13 (Lt 4 T5),Iq 14 (.call 24 [uY]),Is (.store 4 T4 uE)])
 .ret)))
def bOy : FE := ⟨15, y26, [.c 4 true 4]⟩
theorem bRS : iI Tryz.prog 26 bOy := iI.mk1 Tryz.func26
def y28:XC:=(Zq (Rg [Iq 1 (.box 26 T0),Iq 2 (.alloc 26 [Zf,Zs,Zf,Zs])])
 (Zq (Rg [Iq 3 (Lt 4 T1),Iq 4 (.call 80 [T3]),Is (.store 4 T1 T4)])
 (Zq (.draw [⟨Iq 5 (.fad 0 T1),[]⟩,⟨Iq 6 (Lt 2 T5),[0]⟩,⟨Iq 7 (.call 81 [T6]),[1]⟩,⟨Iq 8 (.fad 2 T1),[]⟩,⟨Iq 9 (Lt 2 T8),[3]⟩,⟨Iq 10 (.call 82 [T9]),[4,2]⟩,⟨Iq 11 (.build [Zf,Zs,Zf,Zs] [(0,2,T7),(2,2,pU)]),[2,5]⟩,⟨Is (.store 4 T2 pO),[6,5,0,1,2,3,4,5,6]⟩] [0,1,3,0,8,31,63,127])
 .ret)))
def bME : FE := ⟨12, y28, [.c 2 true 4]⟩
theorem bRU : iI Tryz.prog 28 bME := iI.mk1 Tryz.func28
def y30:XC:=(Zq (Rg [Iq 0 (.alloc 41 [Ze,Ze,Zs,Zf,Zs,Zf,Zs,Zf,Zs,Zf,Zs,Zi,Zi,Zf,Zs,Zf,Zs,Zf,Zs,Zf,Zs,Zi,Zs,Zs,Zs])])
 (Zq (Rg [Iq 2 (.call 83 []),Iq 1 (.alloc 41 [Ze,Ze,Zs,Zf,Zs,Zf,Zs,Zf,Zs,Zf,Zs,Zi,Zi,Zf,Zs,Zf,Zs,Zf,Zs,Zf,Zs,Zi,Zs,Zs,Zs]),Is (.store 25 T1 T2)])
 (Zq (Rg [Iq 3 (.fad 0 T1),Is (.store 1 T3 (.k (.string ⟨#[71,114,111,117,112]⟩)))])
 (Zq (Rg [Iq 4 (.call 84 [(Ki 0)]),Iq 5 (.call 85 [(Ki 1000)]),Iq 6 (.build [Zf,Zs,Zf,Zs,Zf,Zs,Zf,Zs] [(0,4,T4),(4,4,T5)]),Iq 7 (.call 84 [(Ki 100000)]),Iq 8 (.call 85 [(Ki 2550)]),Iq 9 (.build [Zf,Zs,Zf,Zs,Zf,Zs,Zf,Zs] [(0,4,T7),(4,4,T8)]),Iq 10 (.bslice 98 8 2 [Zf,Zs,Zf,Zs,Zf,Zs,Zf,Zs] [(0,T6),(1,T9)]),Iq 11 (.fad 2 T1),Is (.store 1 pO pU)])
 (Zq (Rg [Iq 12 (.call 84 [(Ki 5000)]),Iq 13 (.fad 17 T1),Is (.store 4 uY qC)])
 (Zq (Rg [Iq 14 (.call 85 [(Ki 6000)]),Iq 15 (.fad 7 T1),Is (.store 4 vB uE)])
 (Zq (Rg [Iq 16 (.fad 21 T1),Is (.store 1 xJ (Ki 2))])
 (Zq (Rg [Iq 17 (.fad 12 T1),Is (.store 1 yM (Ki 3))])
 (Zq (Rg [Iq 18 (.call 86 []),Iq 19 (.fad 22 T1),Is (.store 1 yB wO)])
 (Zq (Rg [Iq 20 (.bslice 9 1 5 [Ze] [(0,(.k (.string ⟨#[80]⟩))),(1,(.k (.string ⟨#[68]⟩))),(2,(.k (.string ⟨#[65]⟩))),(3,(.k (.string ⟨#[66]⟩))),(4,(.k (.string ⟨#[67]⟩)))]),Iq 21 (.fad 23 T1),Is (.store 1 Ce zK)])
 (Zq (Rg [Iq 22 (.call 87 []),Iq 23 (.call 88 []),Iq 24 (.call 89 []),Iq 25 (.bslice 92 6 3 [Zi,Zs,Zs,Zs,Zs,Zs] [(0,By),(1,Eh),(2,Dp)]),Iq 26 (.fad 24 T1),Is (.store 1 Ho Ef)])
 (Zq (Rg [Iq 27 (Lt 25 T1),Is (.store 25 T0 Ed)])
 .ret))))))))))))
def bQ7 : FE := ⟨28, y30, [.c 0 true 25]⟩
theorem bSf : iI Tryz.prog 30 bQ7 := iI.mk1 Tryz.func30
def y31:XC:=(Zq (Rg [Iq 2 (.mv (.k Zs))])
 (Zq (Rg [Iq 3 (.mv (.k Zs))])
 (Zq (Rg [Im 4 T3,Im 5 T0,Iq 6 (.app 221 1 4 [(.int .u32 0)] T4 T5),Im 2 T6])
 .ret)))
def bOo : FE := ⟨7, y31, [.t 2]⟩
theorem bRi : iI Tryz.prog 31 bOo := iI.mk1 Tryz.func31
def y32:XC:=(Zq (Rg [Iq 4 (.mv (Ki 0))])
 (Zq (Rg [Im 5 T0,Im 6 T1,Iq 7 (.call 90 [T5,T6]),Im 4 T7])
 .ret))
def bQq : FE := ⟨8, y32, [.t 4]⟩
theorem bT7 : iI Tryz.prog 32 bQq := iI.mk1 Tryz.func32
def y33:XC:=(Zq (Rg [Iq 4 (.mv (.k Ze))])
 (Zq (Zq (Rg [Im 7 T0,Iq 8 (.bin .eql T7 (.k Ze)),Im 9 T8,Iv 10 9 (.mv T1),Iv 11 9 (.bin .eql pU (.k Ze)),Iq 12 (.pick T9 Kt pO)])
 (.cond qC (Zq (Rg [Im 13 T0,Im 4 uY])
 .ret)
 .skip))
 (Zq (Zq (Rg [Im 14 T1,Iq 15 (.len true uE),Iq 16 (.bin .eql vB (Ki 1)),Im 17 xJ,Iw 18 17 (.mv T1),Iw 19 17 (.ixs wO (Ki 0)),Iw 20 17 (.bin .lss yB (.k (.int .u8 128))),Iq 21 (.pick yM zK Kf)])
 (.cond Ce (Zq (.draw [⟨Im 22 T0,[]⟩,⟨Im 23 T1,[]⟩,⟨Iq 24 (.ixs Eh (Ki 0)),[1]⟩,⟨Iq 25 (.call 92 [By,Dp]),[0,2]⟩,⟨Im 26 T1,[]⟩,⟨Iq 27 (.ixs Ho (Ki 0)),[4]⟩,⟨Iq 28 (.call 91 [Ef,Ed]),[3,5,3]⟩,⟨Im 4 J9,[6,6,0,1,2,3,4,5,6]⟩] [0,0,2,7,0,16,63,127])
 .ret)
 .skip))
 (Zq (Zq (Rg [Im 30 T1,Iq 31 (.call 93 [Kz]),Im 29 Lp,Iq 32 (.ext J1 0),Iq 33 (.ext J1 1),Iq 5 (.alloc 148 [Zf,Zf,Zf,Zf,Zf,Zf,Zf,Zf,Zf,Zf,Zf,Zf,Zf,Zf,Zf,Zf,Zf,Zf,Zf,Zf,Zf,Zf,Zf,Zf,Zf,Zf,Zf,Zf,Zf,Zf,Zf,Zf,Zf,Zf,Zf,Zf,Zf,Zf,Zf,Zf,Zf,Zf,Zf,Zf,Zf,Zf,Zf,Zf,Zf,Zf,Zf,Zf,Zf,Zf,Zf,Zf,Zf,Zf,Zf,Zf,Zf,Zf,Zf,Zf,Zf,Zf,Zf,Zf,Zf,Zf,Zf,Zf,Zf,Zf,Zf,Zf,Zf,Zf,Zf,Zf,Zf,Zf,Zf,Zf,Zf,Zf,Zf,Zf,Zf,Zf,Zf,Zf,Zf,Zf,Zf,Zf,Zf,Zf,Zf,Zf,Zf,Zf,Zf,Zf,Zf,Zf,Zf,Zf,Zf,Zf,Zf,Zf,Zf,Zf,Zf,Zf,Zf,Zf,Zf,Zf,Zf,Zf,Zf,Zf,Zf,Zf,Zf,Zf,Zf,Zf,Zf,Zf,Zf,Zf,Zf,Zf,Zf,Zf,Zf,Zf,Zf,Zf,Zf,Zf,Zf,Zf,Zf,Zf,Zf,Zf,Zf,Zf,Zf,Zf,Zf,Zf,Zf,Zf,Zf,Zf,Zf,Zf,Zf,Zf,Zf,Zf,Zf,Zf,Zf,Zf,Zf,Zf,Zf,Zf,Zf,Zf,Zf,Zf,Zf,Zf,Zf,Zf,Zf,Zf,Zf,Zf,Zf,Zf,Zf,Zf,Zf,Zf,Zf,Zf,Zf,Zf,Zf,Zf,Zf,Zf,Zf,Zf,Zf,Zf,Zf,Zf,Zf,Zf,Zf,Zf,Zf,Zf,Zf,Zf,Zf,Zf,Zf,Zf,Zf,Zf,Zf,Zf,Zf,Zf,Zf,Zf,Zf,Zf,Zf,Zf,Zf,Zf,Zf,Zf,Zf,Zf,Zf,Zf,Zf,Zf,Zf,Zf,Zf,Zf,Zf,Zf,Zf,Zf,Zf,Zf,Zf,Zf,Zf,Zf,Zf,Zf]),Is (.store 256 T5 Lq),Im 6 Pm])
 (Zq (Rg [Im 34 T6])
 (.cond O1 (Zq (Rg [Im 35 T0,Iq 36 (.call 95 [Ro,T5]),Iq 37 (.call 94 [Yf,T5]),Im 4 T37])
 .ret)
 .skip)))
 (Zq (Rg [Im 38 T0,Im 39 T1,Iq 40 (.call 97 [T38,T39]),Im 41 T1,Iq 42 (.call 96 [T40,T41]),Im 4 T42])
 .ret)))))
def bNK : FE := ⟨43, y33, [.t 4]⟩
theorem bSA : iI Tryz.prog 33 bNK := iI.mk1 Tryz.func33
def y34:XC:=(Zq (Rg [Iq 4 (.mv Kf)])
 (Zq (Rg [Im 5 T0,Im 6 T1,Iq 7 (.call 98 [T5,T6]),Iq 8 (.bin .geq T7 (Ki 0)),Im 4 T8])
 .ret))
def bMZ : FE := ⟨9, y34, [.t 4]⟩
theorem bTf : iI Tryz.prog 34 bMZ := iI.mk1 Tryz.func34
def y35:XC:=(Zq (Rg [Iq 2 (.mv Kf)])
 (Zq (Rg [Im 3 T0,Iq 4 (.call 36 [(.k (.string ⟨#[97,98,99,100,101,102,103,104,105,106,107,108,109,110,111,112,113,114,115,116,117,118,119,120,121,122,65,66,67,68,69,70,71,72,73,74,75,76,77,78,79,80,81,82,83,84,85,86,87,88,89,90,48,49,50,51,52,53,54,55,56,57,95,45]⟩)),T3]),Iq 5 (.un .not T4),Im 2 T5])
 .ret))
def bNQ : FE := ⟨6, y35, [.t 2]⟩
theorem bUs : iI Tryz.prog 35 bNQ := iI.mk1 Tryz.func35
def y36:XC:=(Zq (Rg [Iq 4 (.mv Kf)])
 (Zq (Rg [Im 5 T0,Im 6 T1,Iq 7 (.call 99 [T5,T6]),Iq 8 (.bin .geq T7 (Ki 0)),Im 4 T8])
 .ret))
def bMq : FE := ⟨9, y36, [.t 4]⟩
theorem bTm : iI Tryz.prog 36 bMq := iI.mk1 Tryz.func36
def y37:XC:=(Zq (Rg [Iq 2 (.box 26 T0),Iq 4 (.mv Kf)])
 (Zq (Zq (Rg [Iq 8 (Lt 4 T2),Iq 9 (.call 100 [T8]),Iq 10 (.un .not T9)])
 (.cond pU (Zq (Rg [Iq 4 (.mv Kf)])
 .ret)
 .skip))
 (Zq (.draw [⟨Im 12 T1,[]⟩,⟨Iq 13 (.call 102 [qC]),[0]⟩,⟨Iq 14 (.fad 2 T2),[]⟩,⟨Iq 15 (Lt 2 uE),[2]⟩,⟨Iq 16 (.call 101 [uY,vB]),[1,3,1]⟩,⟨Im 11 xJ,[4]⟩,⟨Iq 17 (.ext pO 0),[5]⟩,⟨Iq 18 (.ext pO 1),[5]⟩,⟨Iq 19 (.ext pO 2),[5]⟩,⟨Iq 5 (.alloc 24 [Zf,Zs]),[]⟩,⟨Iq 6 (.alloc 24 [Zf,Zs]),[]⟩,⟨Is (.store 2 T5 yM),[9,6,4,0,1,2,3,4,5,6,9,10]⟩,⟨Is (.store 2 T6 wO),[10,7,11,0,1,2,3,4,5,6,7,9,10,11]⟩,⟨Im 7 yB,[8,12,0,1,2,3,4,5,6,7,8,9,10,11,12]⟩] [0,1,0,4,15,31,63,63,63,0,0,1663,3839,8191])
 (Zq (Rg [Im 20 T7,Iq 21 (.bin .eql zK (Ki 0)),Im 22 Ce,Iw 23 22 (Lt 2 T6),Iw 24 22 (.call 103 [Eh]),Iw 25 22 (.bin .eql Dp (Ki 0)),Iq 26 (.pick By Ef Kf),Im 4 Ho])
 .ret))))
def bN3 : FE := ⟨27, y37, [.t 4]⟩
theorem bTP : iI Tryz.prog 37 bN3 := iI.mk1 Tryz.func37
def y38:XC:=(Zq (Rg [Iq 2 (.alloc 26 [Zf,Zs,Zf,Zs])])
 (Zq (Rg [Im 3 T0,Iq 4 (.call 102 [T3]),Iq 5 (.call 104 []),Iq 6 (.build [Zf,Zs,Zf,Zs] [(0,2,T4),(2,2,T5)]),Is (.store 4 T2 T6)])
 .ret))
def bPX : FE := ⟨7, y38, [.c 2 true 4]⟩
theorem bRo : iI Tryz.prog 38 bPX := iI.mk1 Tryz.func38
def y39:XC:=(Zq (Rg [Iq 2 (.box 26 T0),Iq 3 (.box 26 T1),Iq 4 (.alloc 26 [Zf,Zs,Zf,Zs])])
 (Zq (.draw [⟨Iq 5 (Lt 4 T2),[]⟩,⟨Iq 6 (.call 80 [T5]),[0]⟩,⟨Iq 7 (Lt 4 T3),[]⟩,⟨Iq 8 (.call 80 [T7]),[2,1]⟩,⟨Is (.store 4 T2 T6),[1,3,0,1]⟩,⟨Is (.store 4 T3 T8),[3,4,0,1,2,3,4]⟩] [0,1,0,7,15,31])
 (Zq (.draw [⟨Iq 9 (.fad 0 T2),[]⟩,⟨Iq 10 (Lt 2 T9),[0]⟩,⟨Iq 11 (.fad 0 T3),[]⟩,⟨Iq 12 (Lt 2 pO),[2]⟩,⟨Iq 13 (.call 106 [pU,qC]),[1,3]⟩,⟨Iq 14 (.fad 2 T2),[]⟩,⟨Iq 15 (Lt 2 uE),[5]⟩,⟨Iq 16 (.fad 2 T3),[]⟩,⟨Iq 17 (Lt 2 xJ),[7]⟩,⟨Iq 18 (.call 106 [vB,yM]),[6,8,4]⟩,⟨Iq 19 (.call 105 [uY,wO]),[4,9,9]⟩,⟨Is (.store 4 T4 yB),[10,10,0,1,2,3,4,5,6,7,8,9,10]⟩] [0,1,0,4,15,0,32,0,128,511,1023,2047])
 .ret)))
def bQx : FE := ⟨20, y39, [.c 4 true 4]⟩
theorem bRF : iI Tryz.prog 39 bQx := iI.mk1 Tryz.func39
def y40:XC:=(Zq (Rg [Iq 2 (.box 26 T0),Iq 3 (.box 26 T1),Iq 4 (.mv (Ki 0))])
 (Zq (.draw [⟨Iq 5 (Lt 4 T2),[]⟩,⟨Iq 6 (.call 80 [T5]),[0]⟩,⟨Iq 7 (Lt 4 T3),[]⟩,⟨Iq 8 (.call 80 [T7]),[2,1]⟩,⟨Is (.store 4 T2 T6),[1,3,0,1]⟩,⟨Is (.store 4 T3 T8),[3,4,0,1,2,3,4]⟩] [0,1,0,7,15,31])
 (Zq (.draw [⟨Iq 9 (.fad 0 T2),[]⟩,⟨Iq 10 (Lt 2 T9),[0]⟩,⟨Iq 11 (.fad 2 T3),[]⟩,⟨Iq 12 (Lt 2 pO),[2]⟩,⟨Iq 13 (.call 106 [pU,qC]),[1,3]⟩,⟨Iq 14 (.fad 0 T3),[]⟩,⟨Iq 15 (Lt 2 uE),[5]⟩,⟨Iq 16 (.fad 2 T2),[]⟩,⟨Iq 17 (Lt 2 xJ),[7]⟩,⟨Iq 18 (.call 106 [vB,yM]),[6,8,4]⟩,⟨Iq 19 (.call 107 [uY,wO]),[4,9,9]⟩,⟨Im 4 yB,[10,10,0,1,2,3,4,5,6,7,8,9,10]⟩] [0,1,0,4,15,0,32,0,128,511,1023,2047])
 .ret)))
def bOe : FE := ⟨20, y40, [.t 4]⟩
theorem bUh : iI Tryz.prog 40 bOe := iI.mk1 Tryz.func40
def y41:XC:=(Zq (Rg [Iq 2 (.box 26 T0),Iq 4 (.alloc 26 [Zf,Zs,Zf,Zs])])
 (Zq (Rg [Iq 5 (Lt 4 T2),Im 6 T1,Iq 7 (.call 108 [T5,T6,(.f 109)]),Is (.store 4 T4 T7)])
 .ret))
def bOn : FE := ⟨8, y41, [.c 4 true 4]⟩
theorem bRK : iI Tryz.prog 41 bOn := iI.mk1 Tryz.func41
def y42:XC:=(Zq (Rg [Iq 2 (.alloc 30 [Zf,Zs,Zf,Zs])])
 (Zq (Rg [Im 3 T0,Iq 4 (.call 76 [T3]),Iq 5 (.call 76 [(Ki 1)]),Iq 6 (.build [Zf,Zs,Zf,Zs] [(0,2,T4),(2,2,T5)]),Is (.store 4 T2 T6)])
 .ret))
def bQ2 : FE := ⟨7, y42, [.c 2 true 4]⟩
theorem bRR : iI Tryz.prog 42 bQ2 := iI.mk1 Tryz.func42
def y43:XC:=(Zq (Rg [Iq 2 (.box 30 T0),Iq 4 (.mv Kf)])
 (Zq (.draw [⟨Im 9 T1,[]⟩,⟨Iq 10 (.call 76 [T9]),[0]⟩,⟨Iq 11 (.fad 2 T2),[]⟩,⟨Iq 12 (Lt 2 pO),[2]⟩,⟨Iq 13 (.call 111 [pU,qC]),[1,3,1]⟩,⟨Im 8 uY,[4]⟩,⟨Iq 14 (.ext T8 0),[5]⟩,⟨Iq 15 (.ext T8 1),[5]⟩,⟨Iq 16 (.ext T8 2),[5]⟩,⟨Iq 5 (.alloc 28 [Zf,Zs]),[]⟩,⟨Iq 6 (.alloc 28 [Zf,Zs]),[]⟩,⟨Is (.store 2 T5 uE),[9,6,4,0,1,2,3,4,5,6,9,10]⟩,⟨Is (.store 2 T6 vB),[10,7,11,0,1,2,3,4,5,6,7,9,10,11]⟩,⟨Im 7 xJ,[8,12,0,1,2,3,4,5,6,7,8,9,10,11,12]⟩] [0,1,0,4,15,31,63,63,63,0,0,1663,3839,8191])
 (Zq (Rg [Iq 17 (Lt 4 T2),Iq 18 (.call 112 [yM]),Im 19 wO,Iw 20 19 (.mv T7),Iw 21 19 (.bin .eql zK (Ki 0)),Iq 22 (.pick yB Ce Kf),Im 23 By,Iw 24 23 (Lt 2 T6),Iw 25 23 (.call 113 [Dp]),Iw 26 23 (.bin .eql Ef (Ki 0)),Iq 27 (.pick Eh Ho Kf),Im 4 Ed])
 .ret)))
def bM6 : FE := ⟨28, y43, [.t 4]⟩
theorem bS6 : iI Tryz.prog 43 bM6 := iI.mk1 Tryz.func43
def y44:XC:=(Zq (Rg [Iq 2 (.box 30 T0),Iq 3 (.box 30 T1),Iq 4 (.mv (Ki 0))])
 (Zq (Rg [Iq 5 (Lt 4 T2),Iq 6 (Lt 4 T3),Iq 7 (.call 114 [T5,T6]),Iq 8 (.call 47 [T7]),Im 4 T8])
 .ret))
def bNR : FE := ⟨9, y44, [.t 4]⟩
theorem bRP : iI Tryz.prog 44 bNR := iI.mk1 Tryz.func44
def y45:XC:=(Zq (Rg [Iq 1 (.box 30 T0),Iq 2 (.alloc 30 [Zf,Zs,Zf,Zs])])
 (Zq (Rg [Iq 3 (Lt 4 T1),Iq 4 (.call 77 [T3]),Is (.store 4 T1 T4)])
 (Zq (.draw [⟨Iq 5 (.fad 0 T1),[]⟩,⟨Iq 6 (Lt 2 T5),[0]⟩,⟨Iq 7 (.call 115 [T6]),[1]⟩,⟨Iq 8 (.fad 2 T1),[]⟩,⟨Iq 9 (Lt 2 T8),[3]⟩,⟨Iq 10 (.build [Zf,Zs,Zf,Zs] [(0,2,T7),(2,2,T9)]),[2,4]⟩,⟨Is (.store 4 T2 pU),[5,2,0,1,2,3,4,5]⟩] [0,1,3,0,8,31,63])
 .ret)))
def bMM : FE := ⟨11, y45, [.c 2 true 4]⟩
theorem bTL : iI Tryz.prog 45 bMM := iI.mk1 Tryz.func45
def y46:XC:=(Zq (Rg [Iq 1 (.box 26 T0),Iq 2 (.mv (Ki 0))])
 (Zq (Rg [Iq 3 (Lt 4 T1),Iq 4 (.call 80 [T3]),Iq 5 (.fld true 2 0 T4),Iq 6 (.call 103 [T5]),Im 2 T6])
 .ret))
def bPM : FE := ⟨7, y46, [.t 2]⟩
theorem bSz : iI Tryz.prog 46 bPM := iI.mk1 Tryz.func46
def y47:XC:=(Zq (Rg [Iq 1 (.box 30 T0),Iq 2 (.mv (Ki 0))])
 (Zq (Rg [Iq 3 (Lt 4 T1),Iq 4 (.call 77 [T3]),Iq 5 (.fld true 2 0 T4),Iq 6 (.call 113 [T5]),Im 2 T6])
 .ret))
def bNw : FE := ⟨7, y47, [.t 2]⟩
theorem bTC : iI Tryz.prog 47 bNw := iI.mk1 Tryz.func47
def y48:XC:=(Zq (Rg [Iq 2 (.mv Kf)])
 (Zq (Zq (Rg [Iq 3 (.mv (Ki 0))])
 (.block 0 (.loop (Zq (Zq (Rg [Im 4 T3,Im 5 T0,Iq 6 (.len false T5),Iq 7 (.bin .lss T4 T6)])
 (.cond T7 .skip
 (.exit 0)))
 (Zq (.block 1 (Zq (Rg [Im 10 T0,Im 11 T3,Iq 12 (.iad 4 pU pO),Iq 13 (.fad 0 qC),Iq 14 (.fad 1 uY),Iq 15 (Lo uE),Iq 16 (.len false vB),Iq 17 (.bin .gtr xJ (Ki 6)),Im 18 yM,Iv 19 18 (.mv T0),Iv 20 18 (.mv T3),Iv 21 18 (.iad 4 yB zK),Iv 22 18 (.fad 2 Ce),Iv 23 18 (.fad 1 By),Iv 24 18 (Lo Eh),Iv 25 18 (.len false Dp),Iv 26 18 (.bin .gtr Ef (Ki 6)),Iq 27 (.pick wO Kt Ho)])
 (.cond Ed (Zq (Rg [Iq 2 (.mv Kf)])
 .ret)
 .skip)))
 (Rg [Im 8 T3,Iq 9 (.bin .add T8 (Ki 1)),Im 3 T9]))))))
 (Zq (Rg [Iq 2 (.mv Kt)])
 .ret)))
def bMK : FE := ⟨28, y48, [.t 2]⟩
theorem bRz : iI Tryz.prog 48 bMK := iI.mk1 Tryz.func48
def y49:XC:=(Zq (Rg [Iq 1 (.box 41 T0),Iq 2 (.mv (.k Zs))])
 (Zq (Rg [Iq 13 (.fad 3 T1),Iq 14 (Lt 4 uY),Iq 15 (.fad 7 T1),Iq 16 (Lt 4 vB),Iq 17 (.fad 13 T1),Iq 18 (Lt 4 yM),Iq 19 (.fad 17 T1),Iq 20 (Lt 4 yB),Iq 21 (.bslice 26 4 4 [Zf,Zs,Zf,Zs] [(0,uE),(1,xJ),(2,wO),(3,zK)]),Im 3 Ce])
 (Zq (Zq (Rg [Iq 4 (.mv (Ki 0))])
 (.block 0 (.loop (Zq (Zq (Rg [Im 22 T4,Iq 23 (.fad 2 T1),Iq 24 (Lo Eh),Iq 25 (.len false Dp),Iq 26 (.bin .lss By Ef)])
 (.cond Ho .skip
 (.exit 0)))
 (Zq (.block 1 (.draw [⟨Im 29 T3,[]⟩,⟨Iq 30 (.fad 2 T1),[]⟩,⟨Iq 31 (Lo Kz),[1]⟩,⟨Im 32 T4,[]⟩,⟨Iq 33 (.iad 8 Lp Lq),[2,3]⟩,⟨Iq 34 (.fad 0 Pm),[4]⟩,⟨Iq 35 (Lt 4 O1),[5]⟩,⟨Iq 36 (.fad 2 T1),[]⟩,⟨Iq 37 (Lo Yf),[7]⟩,⟨Im 38 T4,[]⟩,⟨Iq 39 (.iad 8 T37 T38),[8,9]⟩,⟨Iq 40 (.fad 4 T39),[10]⟩,⟨Iq 41 (Lt 4 T40),[11]⟩,⟨Iq 42 (.bslice 26 4 2 [Zf,Zs,Zf,Zs] [(0,Ro),(1,T41)]),[6,12]⟩,⟨Iq 43 (.app 26 4 64 [Zf,Zs,Zf,Zs] J1 T42),[0,13]⟩,⟨Im 3 T43,[14,14,0,1,2,3,4,5,6,7,8,9,10,11,12,13,14]⟩] [0,0,2,0,14,30,62,0,128,0,896,1920,3968,8190,16383,32767]))
 (Rg [Im 27 T4,Iq 28 (.bin .add Ed (Ki 1)),Im 4 J9]))))))
 (Zq (Zq (Rg [Iq 5 (.mv (Ki 0))])
 (.block 2 (.loop (Zq (Zq (Rg [Im 44 T5,Iq 45 (.fad 22 T1),Iq 46 (Lo T45),Iq 47 (.len false T46),Iq 48 (.bin .lss T44 T47)])
 (.cond T48 .skip
 (.exit 2)))
 (Zq (.block 3 (Rg [Im 51 T3,Iq 52 (.fad 22 T1),Iq 53 (Lo T52),Im 54 T5,Iq 55 (.iad 6 T53 T54),Iq 56 (.fad 2 T55),Iq 57 (Lt 4 T56),Iq 58 (.bslice 26 4 1 [Zf,Zs,Zf,Zs] [(0,T57)]),Iq 59 (.app 26 4 64 [Zf,Zs,Zf,Zs] T51 T58),Im 3 T59]))
 (Rg [Im 49 T5,Iq 50 (.bin .add T49 (Ki 1)),Im 5 T50]))))))
 (Zq (Zq (Rg [Iq 6 (.mv (Ki 0))])
 (.block 4 (.loop (Zq (Zq (Rg [Im 60 T6,Iq 61 (.fad 24 T1),Iq 62 (Lo T61),Iq 63 (.len false T62),Iq 64 (.bin .lss T60 T63)])
 (.cond T64 .skip
 (.exit 4)))
 (Zq (.block 5 (Zq (Rg [Iq 67 (.fad 24 T1),Iq 68 (Lo T67),Im 69 T6,Iq 70 (.iad 6 T68 T69),Iq 71 (Lt 6 T70),Iq 7 (.alloc 92 [Zi,Zs,Zs,Zs,Zs,Zs]),Is (.store 6 T7 T71)])
 (Zq (Zq (Rg [Iq 8 (.mv (Ki 0))])
 (.block 6 (.loop (Zq (Zq (Rg [Im 72 T8,Iq 73 (.fad 1 T7),Iq 74 (Lo T73),Iq 75 (.len false T74),Iq 76 (.bin .lss T72 T75)])
 (.cond T76 .skip
 (.exit 6)))
 (Zq (.block 7 (Rg [Im 79 T3,Iq 80 (.fad 1 T7),Iq 81 (Lo T80),Im 82 T8,Iq 83 (.iad 6 T81 T82),Iq 84 (.fad 2 T83),Iq 85 (Lt 4 T84),Iq 86 (.bslice 26 4 1 [Zf,Zs,Zf,Zs] [(0,T85)]),Iq 87 (.app 26 4 64 [Zf,Zs,Zf,Zs] T79 T86),Im 3 T87]))
 (Rg [Im 77 T8,Iq 78 (.bin .add T77 (Ki 1)),Im 8 T78]))))))
 (Zq (Zq (Rg [Iq 9 (.mv (Ki 0))])
 (.block 8 (.loop (Zq (Zq (Rg [Im 88 T9,Iq 89 (.fad 2 T7),Iq 90 (Lo T89),Iq 91 (.len false T90),Iq 92 (.bin .lss T88 T91)])
 (.cond T92 .skip
 (.exit 8)))
 (Zq (.block 9 (Rg [Im 95 T3,Iq 96 (.fad 2 T7),Iq 97 (Lo T96),Im 98 T9,Iq 99 (.iad 6 T97 T98),Iq 100 (.fad 2 T99),Iq 101 (Lt 4 aVJ),Iq 102 (.bslice 26 4 1 [Zf,Zs,Zf,Zs] [(0,aVC)]),Iq 103 (.app 26 4 64 [Zf,Zs,Zf,Zs] T95 aVK),Im 3 aVy]))
 (Rg [Im 93 T9,Iq 94 (.bin .add T93 (Ki 1)),Im 9 T94]))))))
 (Zq (Zq (Rg [Iq 10 (.mv (Ki 0))])
 (.block 10 (.loop (Zq (Zq (Rg [Im 104 pU,Iq 105 (.fad 3 T7),Iq 106 (Lo aWi),Iq 107 (.len false aWg),Iq 108 (.bin .lss aVH aVe)])
 (.cond aX7 .skip
 (.exit 10)))
 (Zq (.block 11 (Rg [Im 111 T3,Iq 112 (.fad 3 T7),Iq 113 (Lo aXe),Im 114 pU,Iq 115 (.iad 10 aXB aXM),Iq 116 (.fad 6 aXb),Iq 117 (Lt 4 aXx),Iq 118 (.bslice 26 4 1 [Zf,Zs,Zf,Zs] [(0,aXJ)]),Iq 119 (.app 26 4 64 [Zf,Zs,Zf,Zs] aXZ aWJ),Im 3 aYk]))
 (Rg [Im 109 pU,Iq 110 (.bin .add aW4 (Ki 1)),Im 10 aXK]))))))
 (Zq (Zq (Rg [Iq 11 (.mv (Ki 0))])
 (.block 12 (.loop (Zq (Zq (Rg [Im 120 pO,Iq 121 (.fad 4 T7),Iq 122 (Lo aYl),Iq 123 (.len false aWf),Iq 124 (.bin .lss aXU aXN)])
 (.cond aWn .skip
 (.exit 12)))
 (Zq (.block 13 (.draw [⟨Im 127 T3,[]⟩,⟨Iq 128 (.fad 4 T7),[]⟩,⟨Iq 129 (Lo aZh),[1]⟩,⟨Im 130 pO,[]⟩,⟨Iq 131 (.iad 9 aXH aWw),[2,3]⟩,⟨Iq 132 (.fad 1 aXQ),[4]⟩,⟨Iq 133 (Lt 4 aYL),[5]⟩,⟨Iq 134 (.fad 4 T7),[]⟩,⟨Iq 135 (Lo aYR),[7]⟩,⟨Im 136 pO,[]⟩,⟨Iq 137 (.iad 9 aZi bBU),[8,9]⟩,⟨Iq 138 (.fad 5 bCP),[10]⟩,⟨Iq 139 (Lt 4 bB8),[11]⟩,⟨Iq 140 (.bslice 26 4 2 [Zf,Zs,Zf,Zs] [(0,aY7),(1,bB4)]),[6,12]⟩,⟨Iq 141 (.app 26 4 64 [Zf,Zs,Zf,Zs] aXS bBX),[0,13]⟩,⟨Im 3 bAB,[14,14,0,1,2,3,4,5,6,7,8,9,10,11,12,13,14]⟩] [0,0,2,0,14,30,62,0,128,0,896,1920,3968,8190,16383,32767]))
 (Rg [Im 125 pO,Iq 126 (.bin .add aXG (Ki 1)),Im 11 aWN]))))))
 (Zq (Rg [Iq 12 (.mv (Ki 0))])
 (.block 14 (.loop (Zq (Zq (Rg [Im 142 qC,Iq 143 (.fad 5 T7),Iq 144 (Lo bCk),Iq 145 (.len false bCd),Iq 146 (.bin .lss bC2 bBF)])
 (.cond bDn .skip
 (.exit 14)))
 (Zq (.block 15 (Rg [Im 149 T3,Iq 150 (.fad 5 T7),Iq 151 (Lo bK9),Im 152 qC,Iq 153 (.iad 5 bJl bQD),Iq 154 (.fad 1 bMt),Iq 155 (Lt 4 bP9),Iq 156 (.bslice 26 4 1 [Zf,Zs,Zf,Zs] [(0,bNG)]),Iq 157 (.app 26 4 64 [Zf,Zs,Zf,Zs] bFM bOR),Im 3 bQ3]))
 (Rg [Im 147 qC,Iq 148 (.bin .add bFq (Ki 1)),Im 12 bDt]))))))))))))
 (Rg [Im 65 T6,Iq 66 (.bin .add T65 (Ki 1)),Im 6 T66]))))))
 (Zq (Rg [Im 158 T3,Im 2 bPW])
 .ret))))))
def bPf : FE := ⟨159, y49, [.t 2]⟩
theorem bUk : iI Tryz.prog 49 bPf := iI.mk1 Tryz.func49
def y50:XC:=(Zq (Rg [Iq 2 (.mv Kf)])
 (Zq (Zq (Rg [Iq 3 (.mv (Ki 0))])
 (.block 0 (.loop (Zq (Zq (Rg [Im 4 T3,Im 5 T0,Iq 6 (.len false T5),Iq 7 (.bin .lss T4 T6)])
 (.cond T7 .skip
 (.exit 0)))
 (Zq (.block 1 (Zq (Rg [Im 10 T0,Im 11 T3,Iq 12 (.iad 1 pU pO),Iq 13 (Lo qC),Iq 14 (.len true uY),Iq 15 (.bin .gtr uE (Ki 70))])
 (.cond vB (Zq (Rg [Iq 2 (.mv Kf)])
 .ret)
 .skip)))
 (Rg [Im 8 T3,Iq 9 (.bin .add T8 (Ki 1)),Im 3 T9]))))))
 (Zq (Rg [Iq 2 (.mv Kt)])
 .ret)))
def bOc : FE := ⟨16, y50, [.t 2]⟩
theorem bSX : iI Tryz.prog 50 bOc := iI.mk1 Tryz.func50
def y51:XC:=(Zq (Rg [Iq 1 (.box 41 T0),Iq 2 (.mv (.k Zs))])
 (Zq (Rg [Iq 13 (.fad 0 T1),Iq 14 (Lo uY),Iq 15 (.fad 1 T1),Iq 16 (Lo vB),Iq 17 (.bslice 9 1 2 [Ze] [(0,uE),(1,xJ)]),Im 3 yM])
 (Zq (Rg [Im 18 T3,Iq 19 (.fad 23 T1),Iq 20 (Lo yB),Iq 21 (.app 9 1 16 [Ze] wO zK),Im 3 Ce])
 (Zq (Zq (Rg [Iq 4 (.mv (Ki 0))])
 (.block 0 (.loop (Zq (Zq (Rg [Im 22 T4,Iq 23 (.fad 22 T1),Iq 24 (Lo Eh),Iq 25 (.len false Dp),Iq 26 (.bin .lss By Ef)])
 (.cond Ho .skip
 (.exit 0)))
 (Zq (.block 1 (Rg [Im 29 T3,Iq 30 (.fad 22 T1),Iq 31 (Lo Kz),Im 32 T4,Iq 33 (.iad 6 Lp Lq),Iq 34 (.fad 0 Pm),Iq 35 (Lo O1),Iq 36 (.bslice 9 1 1 [Ze] [(0,Ro)]),Iq 37 (.app 9 1 16 [Ze] J1 Yf),Im 3 T37]))
 (Rg [Im 27 T4,Iq 28 (.bin .add Ed (Ki 1)),Im 4 J9]))))))
 (Zq (Zq (Rg [Iq 5 (.mv (Ki 0))])
 (.block 2 (.loop (Zq (Zq (Rg [Im 38 T5,Iq 39 (.fad 24 T1),Iq 40 (Lo T39),Iq 41 (.len false T40),Iq 42 (.bin .lss T38 T41)])
 (.cond T42 .skip
 (.exit 2)))
 (Zq (.block 3 (Zq (Rg [Iq 45 (.fad 24 T1),Iq 46 (Lo T45),Im 47 T5,Iq 48 (.iad 6 T46 T47),Iq 49 (Lt 6 T48),Iq 6 (.alloc 92 [Zi,Zs,Zs,Zs,Zs,Zs]),Is (.store 6 T6 T49)])
 (Zq (Zq (Rg [Iq 7 (.mv (Ki 0))])
 (.block 4 (.loop (Zq (Zq (Rg [Im 50 T7,Iq 51 (.fad 1 T6),Iq 52 (Lo T51),Iq 53 (.len false T52),Iq 54 (.bin .lss T50 T53)])
 (.cond T54 .skip
 (.exit 4)))
 (Zq (.block 5 (.draw [⟨Im 57 T3,[]⟩,⟨Iq 58 (.fad 1 T6),[]⟩,⟨Iq 59 (Lo T58),[1]⟩,⟨Im 60 T7,[]⟩,⟨Iq 61 (.iad 6 T59 T60),[2,3]⟩,⟨Iq 62 (.fad 0 T61),[4]⟩,⟨Iq 63 (Lo T62),[5]⟩,⟨Iq 64 (.fad 1 T6),[]⟩,⟨Iq 65 (Lo T64),[7]⟩,⟨Im 66 T7,[]⟩,⟨Iq 67 (.iad 6 T65 T66),[8,9]⟩,⟨Iq 68 (.fad 1 T67),[10]⟩,⟨Iq 69 (Lo T68),[11]⟩,⟨Iq 70 (.bslice 9 1 2 [Ze] [(0,T63),(1,T69)]),[6,12]⟩,⟨Iq 71 (.app 9 1 16 [Ze] T57 T70),[0,13]⟩,⟨Im 3 T71,[14,14,0,1,2,3,4,5,6,7,8,9,10,11,12,13,14]⟩] [0,0,2,0,14,30,62,0,128,0,896,1920,3968,8190,16383,32767]))
 (Rg [Im 55 T7,Iq 56 (.bin .add T55 (Ki 1)),Im 7 T56]))))))
 (Zq (Zq (Rg [Iq 8 (.mv (Ki 0))])
 (.block 6 (.loop (Zq (Zq (Rg [Im 72 T8,Iq 73 (.fad 2 T6),Iq 74 (Lo T73),Iq 75 (.len false T74),Iq 76 (.bin .lss T72 T75)])
 (.cond T76 .skip
 (.exit 6)))
 (Zq (.block 7 (.draw [⟨Im 79 T3,[]⟩,⟨Iq 80 (.fad 2 T6),[]⟩,⟨Iq 81 (Lo T80),[1]⟩,⟨Im 82 T8,[]⟩,⟨Iq 83 (.iad 6 T81 T82),[2,3]⟩,⟨Iq 84 (.fad 0 T83),[4]⟩,⟨Iq 85 (Lo T84),[5]⟩,⟨Iq 86 (.fad 2 T6),[]⟩,⟨Iq 87 (Lo T86),[7]⟩,⟨Im 88 T8,[]⟩,⟨Iq 89 (.iad 6 T87 T88),[8,9]⟩,⟨Iq 90 (.fad 1 T89),[10]⟩,⟨Iq 91 (Lo T90),[11]⟩,⟨Iq 92 (.bslice 9 1 2 [Ze] [(0,T85),(1,T91)]),[6,12]⟩,⟨Iq 93 (.app 9 1 16 [Ze] T79 T92),[0,13]⟩,⟨Im 3 T93,[14,14,0,1,2,3,4,5,6,7,8,9,10,11,12,13,14]⟩] [0,0,2,0,14,30,62,0,128,0,896,1920,3968,8190,16383,32767]))
 (Rg [Im 77 T8,Iq 78 (.bin .add T77 (Ki 1)),Im 8 T78]))))))
 (Zq (Zq (Rg [Iq 9 (.mv (Ki 0))])
 (.block 8 (.loop (Zq (Zq (Rg [Im 94 T9,Iq 95 (.fad 3 T6),Iq 96 (Lo T95),Iq 97 (.len false T96),Iq 98 (.bin .lss T94 T97)])
 (.cond T98 .skip
 (.exit 8)))
 (Zq (.block 9 (Zq (Rg [Iq 101 (.fad 3 T6),Iq 102 (Lo aVC),Im 103 T9,Iq 104 (.iad 10 aVK aVy),Iq 105 (Lt 10 aVH),Iq 10 (.alloc 176 [Zf,Ze,(.int .u8 0),Ze,Ze,Ze,Zf,Zs,Zf,Zs]),Is (.store 10 pU aWi)])
 (Rg [Im 106 T3,Iq 107 (.fad 1 pU),Iq 108 (Lo aVe),Iq 109 (.fad 3 pU),Iq 110 (Lo aW4),Iq 111 (.fad 4 pU),Iq 112 (Lo aXZ),Iq 113 (.fad 5 pU),Iq 114 (Lo aXB),Iq 115 (.bslice 9 1 4 [Ze] [(0,aX7),(1,aXK),(2,aXe),(3,aXM)]),Iq 116 (.app 9 1 16 [Ze] aWg aXb),Im 3 aXx])))
 (Rg [Im 99 T9,Iq 100 (.bin .add T99 (Ki 1)),Im 9 aVJ]))))))
 (Zq (Zq (Rg [Iq 11 (.mv (Ki 0))])
 (.block 10 (.loop (Zq (Zq (Rg [Im 117 pO,Iq 118 (.fad 4 T6),Iq 119 (Lo aWJ),Iq 120 (.len false aYk),Iq 121 (.bin .lss aXJ aXU)])
 (.cond aYl .skip
 (.exit 10)))
 (Zq (.block 11 (Rg [Im 124 T3,Iq 125 (.fad 4 T6),Iq 126 (Lo aXG),Im 127 pO,Iq 128 (.iad 9 aWN aXS),Iq 129 (.fad 0 aZh),Iq 130 (Lo aXH),Iq 131 (.bslice 9 1 1 [Ze] [(0,aWw)]),Iq 132 (.app 9 1 16 [Ze] aWn aXQ),Im 3 aYL]))
 (Rg [Im 122 pO,Iq 123 (.bin .add aWf (Ki 1)),Im 11 aXN]))))))
 (Zq (Rg [Iq 12 (.mv (Ki 0))])
 (.block 12 (.loop (Zq (Zq (Rg [Im 133 qC,Iq 134 (.fad 5 T6),Iq 135 (Lo aYR),Iq 136 (.len false aZi),Iq 137 (.bin .lss aY7 bBU)])
 (.cond bCP .skip
 (.exit 12)))
 (Zq (.block 13 (Rg [Im 140 T3,Iq 141 (.fad 5 T6),Iq 142 (Lo bAB),Im 143 qC,Iq 144 (.iad 5 bC2 bCk),Iq 145 (.fad 0 bCd),Iq 146 (Lo bBF),Iq 147 (.bslice 9 1 1 [Ze] [(0,bDn)]),Iq 148 (.app 9 1 16 [Ze] bBX bFq),Im 3 bDt]))
 (Rg [Im 138 qC,Iq 139 (.bin .add bB8 (Ki 1)),Im 12 bB4]))))))))))))
 (Rg [Im 43 T5,Iq 44 (.bin .add T43 (Ki 1)),Im 5 T44]))))))
 (Zq (Rg [Im 149 T3,Im 2 bFM])
 .ret))))))
def bOk : FE := ⟨150, y51, [.t 2]⟩
theorem bR1 : iI Tryz.prog 51 bOk := iI.mk1 Tryz.func51
def y52:XC:=(Zq (Rg [Iq 1 (.box 92 T0),Iq 2 (.alloc 111 [Zi,Zs,Zs,Zs,Zs,Zs])])
 (Zq (Rg [Iq 13 (.fad 0 T1),Iq 14 (Lo uY),Iq 15 (.build [Zi,Zs,Zs,Zs,Zs,Zs] [(0,1,uE)]),Iq 3 (.alloc 111 [Zi,Zs,Zs,Zs,Zs,Zs]),Is (.store 6 T3 vB)])
 (Zq (Zq (Rg [Iq 4 (.mv (Ki 0))])
 (.block 0 (.loop (Zq (Zq (Rg [Im 16 T4,Iq 17 (.fad 1 T1),Iq 18 (Lo yM),Iq 19 (.len false wO),Iq 20 (.bin .lss xJ yB)])
 (.cond zK .skip
 (.exit 0)))
 (Zq (.block 1 (Zq (Rg [Iq 23 (.fad 1 T1),Iq 24 (Lo Eh),Im 25 T4,Iq 26 (.iad 6 Dp Ef),Iq 27 (Lt 6 Ho),Iq 5 (.alloc 172 [Ze,Ze,Zf,Zs,Zf,Zs]),Is (.store 6 T5 Ed)])
 (.draw [⟨Iq 28 (.fad 1 T3),[]⟩,⟨Iq 29 (Lo J9),[0]⟩,⟨Iq 30 (.fad 0 T5),[]⟩,⟨Iq 31 (Lo Kz),[2]⟩,⟨Iq 32 (.fad 1 T5),[]⟩,⟨Iq 33 (Lo Lq),[4]⟩,⟨Iq 34 (.fad 2 T5),[]⟩,⟨Iq 35 (Lt 4 O1),[6]⟩,⟨Iq 36 (.call 8 [Ro]),[7]⟩,⟨Iq 37 (.build [Ze,Ze,Zf,Zs,Zf,Zs] [(0,1,Lp),(1,1,Pm),(2,4,Yf)]),[3,5,8]⟩,⟨Iq 38 (.bslice 180 6 1 [Ze,Ze,Zf,Zs,Zf,Zs] [(0,T37)]),[9]⟩,⟨Iq 39 (.app 180 6 96 [Ze,Ze,Zf,Zs,Zf,Zs] J1 T38),[1,10,8]⟩,⟨Iq 40 (.fad 1 T3),[0,1,2,3,4,5,6,7,8,9,10,11]⟩,⟨Is (.store 1 T40 T39),[12,11,11,0,1,2,3,4,5,6,7,8,9,10,11]⟩] [0,1,0,4,0,16,0,64,192,508,1020,2047,4095,8191])))
 (Rg [Im 21 T4,Iq 22 (.bin .add Ce (Ki 1)),Im 4 By]))))))
 (Zq (Zq (Rg [Iq 6 (.mv (Ki 0))])
 (.block 2 (.loop (Zq (Zq (Rg [Im 41 T6,Iq 42 (.fad 2 T1),Iq 43 (Lo T42),Iq 44 (.len false T43),Iq 45 (.bin .lss T41 T44)])
 (.cond T45 .skip
 (.exit 2)))
 (Zq (.block 3 (Zq (Rg [Iq 48 (.fad 2 T1),Iq 49 (Lo T48),Im 50 T6,Iq 51 (.iad 6 T49 T50),Iq 52 (Lt 6 T51),Iq 7 (.alloc 174 [Ze,Ze,Zf,Zs,Zf,Zs]),Is (.store 6 T7 T52)])
 (.draw [⟨Iq 53 (.fad 2 T3),[]⟩,⟨Iq 54 (Lo T53),[0]⟩,⟨Iq 55 (.fad 0 T7),[]⟩,⟨Iq 56 (Lo T55),[2]⟩,⟨Iq 57 (.fad 1 T7),[]⟩,⟨Iq 58 (Lo T57),[4]⟩,⟨Iq 59 (.fad 2 T7),[]⟩,⟨Iq 60 (Lt 4 T59),[6]⟩,⟨Iq 61 (.call 8 [T60]),[7]⟩,⟨Iq 62 (.build [Ze,Ze,Zf,Zs,Zf,Zs] [(0,1,T56),(1,1,T58),(2,4,T61)]),[3,5,8]⟩,⟨Iq 63 (.bslice 182 6 1 [Ze,Ze,Zf,Zs,Zf,Zs] [(0,T62)]),[9]⟩,⟨Iq 64 (.app 182 6 96 [Ze,Ze,Zf,Zs,Zf,Zs] T54 T63),[1,10,8]⟩,⟨Iq 65 (.fad 2 T3),[0,1,2,3,4,5,6,7,8,9,10,11]⟩,⟨Is (.store 1 T65 T64),[12,11,11,0,1,2,3,4,5,6,7,8,9,10,11]⟩] [0,1,0,4,0,16,0,64,192,508,1020,2047,4095,8191])))
 (Rg [Im 46 T6,Iq 47 (.bin .add T46 (Ki 1)),Im 6 T47]))))))
 (Zq (Zq (Rg [Iq 8 (.mv (Ki 0))])
 (.block 4 (.loop (Zq (Zq (Rg [Im 66 T8,Iq 67 (.fad 3 T1),Iq 68 (Lo T67),Iq 69 (.len false T68),Iq 70 (.bin .lss T66 T69)])
 (.cond T70 .skip
 (.exit 4)))
 (Zq (.block 5 (Zq (Rg [Iq 73 (.fad 3 T1),Iq 74 (Lo T73),Im 75 T8,Iq 76 (.iad 10 T74 T75),Iq 77 (Lt 10 T76),Iq 9 (.alloc 176 [Zf,Ze,(.int .u8 0),Ze,Ze,Ze,Zf,Zs,Zf,Zs]),Is (.store 10 T9 T77)])
 (.draw [⟨Iq 78 (.fad 3 T3),[]⟩,⟨Iq 79 (Lo T78),[0]⟩,⟨Iq 80 (.fad 0 T9),[]⟩,⟨Iq 81 (Lo T80),[2]⟩,⟨Iq 82 (.fad 1 T9),[]⟩,⟨Iq 83 (Lo T82),[4]⟩,⟨Iq 84 (.fad 2 T9),[]⟩,⟨Iq 85 (Lo T84),[6]⟩,⟨Iq 86 (.fad 3 T9),[]⟩,⟨Iq 87 (Lo T86),[8]⟩,⟨Iq 88 (.fad 4 T9),[]⟩,⟨Iq 89 (Lo T88),[10]⟩,⟨Iq 90 (.fad 5 T9),[]⟩,⟨Iq 91 (Lo T90),[12]⟩,⟨Iq 92 (.fad 6 T9),[]⟩,⟨Iq 93 (Lt 4 T92),[14]⟩,⟨Iq 94 (.call 8 [T93]),[15]⟩,⟨Iq 95 (.build [Zf,Ze,(.int .u8 0),Ze,Ze,Ze,Zf,Zs,Zf,Zs] [(0,1,T81),(1,1,T83),(2,1,T85),(3,1,T87),(4,1,T89),(5,1,T91),(6,4,T94)]),[3,5,7,9,11,13,16]⟩,⟨Iq 96 (.bslice 184 10 1 [Zf,Ze,(.int .u8 0),Ze,Ze,Ze,Zf,Zs,Zf,Zs] [(0,T95)]),[17]⟩,⟨Iq 97 (.app 184 10 144 [Zf,Ze,(.int .u8 0),Ze,Ze,Ze,Zf,Zs,Zf,Zs] T79 T96),[1,18,16]⟩,⟨Iq 98 (.fad 3 T3),[0,1,2,3,4,5,6,7,8,9,10,11,12,13,14,15,16,17,18,19]⟩,⟨Is (.store 1 T98 T97),[20,19,19,0,1,2,3,4,5,6,7,8,9,10,11,12,13,14,15,16,17,18,19]⟩] [0,1,0,4,0,16,0,64,0,256,0,1024,0,4096,0,16384,49152,131068,262140,524287,1048575,2097151])))
 (Rg [Im 71 T8,Iq 72 (.bin .add T71 (Ki 1)),Im 8 T72]))))))
 (Zq (Zq (Rg [Iq 10 (.mv (Ki 0))])
 (.block 6 (.loop (Zq (Zq (Rg [Im 99 pU,Iq 100 (.fad 4 T1),Iq 101 (Lo aVJ),Iq 102 (.len false aVC),Iq 103 (.bin .lss T99 aVK)])
 (.cond aVy .skip
 (.exit 6)))
 (Zq (.block 7 (Zq (Rg [Iq 106 (.fad 4 T1),Iq 107 (Lo aWg),Im 108 pU,Iq 109 (.iad 9 aVe aX7),Iq 110 (Lt 9 aW4),Iq 11 (.alloc 178 [Ze,Zf,Zs,Zf,Zs,Zf,Zs,Zf,Zs]),Is (.store 9 pO aXK)])
 (.draw [⟨Iq 111 (.fad 4 T3),[]⟩,⟨Iq 112 (Lo aXZ),[0]⟩,⟨Iq 113 (.fad 0 pO),[]⟩,⟨Iq 114 (Lo aXB),[2]⟩,⟨Iq 115 (.fad 1 pO),[]⟩,⟨Iq 116 (Lt 4 aXb),[4]⟩,⟨Iq 117 (.call 8 [aXx]),[5]⟩,⟨Iq 118 (.fad 5 pO),[]⟩,⟨Iq 119 (Lt 4 aWJ),[7]⟩,⟨Iq 120 (.call 8 [aYk]),[8,6]⟩,⟨Iq 121 (.build [Ze,Zf,Zs,Zf,Zs,Zf,Zs,Zf,Zs] [(0,1,aXM),(1,4,aXJ),(5,4,aXU)]),[3,6,9]⟩,⟨Iq 122 (.bslice 186 9 1 [Ze,Zf,Zs,Zf,Zs,Zf,Zs,Zf,Zs] [(0,aYl)]),[10]⟩,⟨Iq 123 (.app 186 9 144 [Ze,Zf,Zs,Zf,Zs,Zf,Zs,Zf,Zs] aXe aWf),[1,11,9]⟩,⟨Iq 124 (.fad 4 T3),[0,1,2,3,4,5,6,7,8,9,10,11,12]⟩,⟨Is (.store 1 aWn aXN),[13,12,12,0,1,2,3,4,5,6,7,8,9,10,11,12]⟩] [0,1,0,4,0,16,48,0,128,496,1020,2044,4095,8191,16383])))
 (Rg [Im 104 pU,Iq 105 (.bin .add aVH (Ki 1)),Im 10 aWi]))))))
 (Zq (Zq (Rg [Iq 12 (.mv (Ki 0))])
 (.block 8 (.loop (Zq (Zq (Rg [Im 125 qC,Iq 126 (.fad 5 T1),Iq 127 (Lo aWN),Iq 128 (.len false aXS),Iq 129 (.bin .lss aXG aZh)])
 (.cond aXH .skip
 (.exit 8)))
 (Zq (.block 9 (.draw [⟨Iq 132 (.fad 5 T3),[]⟩,⟨Iq 133 (Lo aYL),[0]⟩,⟨Iq 134 (.fad 5 T1),[]⟩,⟨Iq 135 (Lo aYR),[2]⟩,⟨Im 136 qC,[]⟩,⟨Iq 137 (.iad 5 aZi bBU),[3,4]⟩,⟨Iq 138 (.fad 0 bCP),[5]⟩,⟨Iq 139 (Lo bB8),[6]⟩,⟨Iq 140 (.fad 5 T1),[]⟩,⟨Iq 141 (Lo bBX),[8]⟩,⟨Im 142 qC,[]⟩,⟨Iq 143 (.iad 5 bAB bC2),[9,10]⟩,⟨Iq 144 (.fad 1 bCk),[11]⟩,⟨Iq 145 (Lt 4 bCd),[12]⟩,⟨Iq 146 (.call 8 [bBF]),[13]⟩,⟨Iq 147 (.build [Ze,Zf,Zs,Zf,Zs] [(0,1,bB4),(1,4,bDn)]),[7,14]⟩,⟨Iq 148 (.bslice 188 5 1 [Ze,Zf,Zs,Zf,Zs] [(0,bFq)]),[15]⟩,⟨Iq 149 (.app 188 5 80 [Ze,Zf,Zs,Zf,Zs] aY7 bDt),[1,16,14]⟩,⟨Iq 150 (.fad 5 T3),[0,1,2,3,4,5,6,7,8,9,10,11,12,13,14,15,16,17]⟩,⟨Is (.store 1 bK9 bFM),[18,17,17,0,1,2,3,4,5,6,7,8,9,10,11,12,13,14,15,16,17]⟩] [0,1,0,4,0,28,60,124,0,256,0,1792,3840,7936,16128,32764,65532,131071,262143,524287]))
 (Rg [Im 130 qC,Iq 131 (.bin .add aWw (Ki 1)),Im 12 aXQ]))))))
 (Zq (Rg [Iq 151 (Lt 6 T3),Is (.store 6 T2 bJl)])
 .ret))))))))
def bNI : FE := ⟨152, y52, [.c 2 true 6]⟩
theorem bTp : iI Tryz.prog 52 bNI := iI.mk1 Tryz.func52
def y53:XC:=aYA 127
def bOv : FE := ⟨42, y53, [.t 10]⟩
theorem bRp : iI Tryz.prog 53 bOv := iI.mk1 Tryz.func53
def y54:XC:=aDv 8 98 127 [Zf,Zs,Zf,Zs,Zf,Zs,Zf,Zs]
def bNq : FE := ⟨42, y54, [.t 10]⟩
theorem bRD : iI Tryz.prog 54 bNq := iI.mk1 Tryz.func54
def y55:XC:=(Zq (Rg [Iq 1 (.box 98 T0),Iq 2 (.mv Kf)])
 (Zq (Rg [Iq 3 (.fad 0 T1),Iq 4 (Lt 4 T3),Iq 5 (.call 11 [T4]),Im 6 T5,Iw 7 6 (.fad 4 T1),Iw 8 6 (Lt 4 T7),Iw 9 6 (.call 13 [T8]),Iq 10 (.pick T6 T9 Kf),Im 2 pU])
 .ret))
def bNl : FE := ⟨11, y55, [.t 2]⟩
theorem bT3 : iI Tryz.prog 55 bNl := iI.mk1 Tryz.func55
def y56:XC:=aYA 127
def bQe : FE := ⟨42, y56, [.t 10]⟩
theorem bRW : iI Tryz.prog 56 bQe := iI.mk1 Tryz.func56
def y57:XC:=(Zq (Rg [Iq 1 (.box 41 T0),Iq 2 (.mv (.k Zs))])
 (Zq (Rg [Iq 3 (.mv (.f 116))])
 (Zq (.draw [⟨Iq 4 (.fad 3 T1),[]⟩,⟨Iq 5 (Lt 4 T4),[0]⟩,⟨Iq 6 (.call 13 [T5]),[1]⟩,⟨Iq 7 (.fad 7 T1),[]⟩,⟨Iq 8 (Lt 4 T7),[3]⟩,⟨Iq 9 (.call 13 [T8]),[4,2]⟩,⟨Iq 10 (.fad 13 T1),[]⟩,⟨Iq 11 (Lt 4 pU),[6]⟩,⟨Iq 12 (.call 13 [pO]),[7,5]⟩,⟨Im 13 T3,[]⟩,⟨Iq 14 (.fad 11 T1),[]⟩,⟨Iq 15 (Lo uE),[10]⟩,⟨Iq 16 (.callv uY [vB,(Ki 3)]),[9,11,8]⟩,⟨Im 17 T3,[]⟩,⟨Iq 18 (.fad 12 T1),[]⟩,⟨Iq 19 (Lo wO),[14]⟩,⟨Iq 20 (.callv yM [yB,(Ki 40)]),[13,15,12]⟩,⟨Im 21 T3,[]⟩,⟨Iq 22 (.fad 21 T1),[]⟩,⟨Iq 23 (Lo By),[18]⟩,⟨Iq 24 (.callv Ce [Eh,(Ki 40)]),[17,19,16]⟩,⟨Iq 25 (.fad 17 T1),[]⟩,⟨Iq 26 (Lt 4 Ef),[21]⟩,⟨Iq 27 (.call 11 [Ho]),[22,20]⟩,⟨Iq 28 (.bslice 4 1 7 [Zf] [(0,T6),(1,T9),(2,qC),(3,xJ),(4,zK),(5,Dp),(6,Ed)]),[2,5,8,12,16,20,23]⟩,⟨Im 2 J9,[24,23,0,1,2,3,4,5,6,7,8,9,10,11,12,13,14,15,16,17,18,19,20,21,22,23,24]⟩] [0,1,3,0,8,31,0,64,255,0,0,1024,4095,0,0,16384,65535,0,0,262144,1048575,0,2097152,8388607,16777215,33554431])
 .ret)))
def bNh : FE := ⟨29, y57, [.t 2]⟩
theorem bSH : iI Tryz.prog 57 bNh := iI.mk1 Tryz.func57
def y58:XC:=(Zq (Rg [Iq 2 (.mv Kf)])
 (Zq (Rg [Im 3 T0,Im 2 T3])
 .ret))
def bOg : FE := ⟨4, y58, [.t 2]⟩
theorem bTv : iI Tryz.prog 58 bOg := iI.mk1 Tryz.func58
def y59:XC:=aDv 6 102 127 [Ze,(.int .u8 0),Zf,Zs,Zf,Zs]
def bOX : FE := ⟨42, y59, [.t 10]⟩
theorem bTh : iI Tryz.prog 59 bOX := iI.mk1 Tryz.func59
def y60:XC:=(Zq (Rg [Iq 1 (.box 102 T0),Iq 2 (.mv Kf)])
 (Zq (Zq (Rg [Iq 3 (.fad 0 T1),Iq 4 (Lo T3),Iq 5 (.call 9 [T4]),Iq 6 (.un .not T5)])
 (.cond T6 (Zq (Rg [Iq 2 (.mv Kf)])
 .ret)
 .skip))
 (Zq (Zq (Rg [Iq 7 (.fad 1 T1),Iq 8 (Lo T7)])
 (.block 0 (Zq (Rg [Iq 10 (.bin .eql T8 (.k (.int .u8 4))),Im 9 pU])
 (.cond T9 (Zq (Rg [Iq 11 (.fad 2 T1),Iq 12 (Lt 4 pO),Iq 13 (.call 13 [qC]),Im 2 uY])
 .ret)
 (Zq (Rg [Iq 15 (.bin .eql T8 (.k (.int .u8 5))),Im 14 vB])
 (.cond uE (Zq (Rg [Iq 16 (.fad 2 T1),Iq 17 (Lt 4 xJ),Iq 18 (.call 11 [yM]),Im 2 wO])
 .ret)
 (Zq (Rg [Iq 20 (.bin .eql T8 (.k (.int .u8 6))),Im 19 zK])
 (.cond yB (Zq (.draw [⟨Iq 21 (.fad 2 T1),[]⟩,⟨Iq 22 (Lt 4 Ce),[0]⟩,⟨Iq 23 (.call 37 [By,(Ki 1)]),[1]⟩,⟨Im 24 Eh,[2,2]⟩,⟨Iw 25 24 (.fad 2 T1),[3]⟩,⟨Iw 26 24 (Lt 4 Ef),[4,3]⟩,⟨Iw 27 24 (.call 46 [Ho]),[5,3,3]⟩,⟨Iw 28 24 (.bin .geq Ed (Ki 0)),[6,3]⟩,⟨Iq 29 (.pick Dp J9 Kf),[3,7]⟩,⟨Im 30 J1,[8,6]⟩,⟨Iw 31 30 (.fad 2 T1),[9]⟩,⟨Iw 32 30 (Lt 4 Lp),[10,9]⟩,⟨Iw 33 30 (.call 38 [(Ki 40)]),[9,9]⟩,⟨Iw 34 30 (.call 40 [Lq,Pm]),[11,12,12,9]⟩,⟨Iw 35 30 (.bin .leq O1 (Ki 0)),[13,9]⟩,⟨Iq 36 (.pick Kz Ro Kf),[9,14]⟩,⟨Im 2 Yf,[15,13,0,1,2,3,4,5,6,7,8,9,10,11,12,13,14,15]⟩] [0,1,3,7,15,31,63,127,255,511,1023,2047,1023,8191,16383,32767,65535])
 .ret)
 .skip))))))))
 (Zq (Rg [Iq 37 (.fad 1 T1),Iq 38 (Lo T37),Iq 39 (.bin .geq T38 (.k (.int .u8 1))),Im 40 T39,Iw 41 40 (.fad 1 T1),Iw 42 40 (Lo T41),Iw 43 40 (.bin .leq T42 (.k (.int .u8 11))),Iq 44 (.pick T40 T43 Kf),Im 45 T44,Iw 46 45 (.fad 2 T1),Iw 47 45 (Lt 4 T46),Iw 48 45 (.call 100 [T47]),Iq 49 (.pick T45 T48 Kf),Im 50 T49,Iw 51 50 (.fad 2 T1),Iw 52 50 (Lt 4 T51),Iw 53 50 (.call 46 [T52]),Iw 54 50 (.bin .eql T53 (Ki 0)),Iq 55 (.pick T50 T54 Kf),Im 2 T55])
 .ret))))
def bMG : FE := ⟨56, y60, [.t 2]⟩
theorem bT0 : iI Tryz.prog 60 bMG := iI.mk1 Tryz.func60
def y61:XC:=aDv 6 92 127 [Zi,Zs,Zs,Zs,Zs,Zs]
def bOb : FE := ⟨42, y61, [.t 10]⟩
theorem bR4 : iI Tryz.prog 61 bOb := iI.mk1 Tryz.func61
def y62:XC:=(Zq (Rg [Iq 1 (.box 92 T0),Iq 2 (.mv Kf)])
 (Zq (Rg [Iq 3 (.fad 0 T1),Iq 4 (Lo T3),Iq 5 (.bin .geq T4 (Ki 1)),Im 6 T5,Iw 7 6 (.fad 0 T1),Iw 8 6 (Lo T7),Iw 9 6 (.bin .leq T8 (Ki 9999)),Iq 10 (.pick T6 T9 Kf),Im 2 pU])
 .ret))
def bPY : FE := ⟨11, y62, [.t 2]⟩
theorem bSv : iI Tryz.prog 62 bPY := iI.mk1 Tryz.func62
def y63:XC:=(Zq (Rg [Iq 2 (.box 92 T0),Iq 4 (.mv (.k (.pointer none)))])
 (Zq (Zq (.draw [⟨Im 7 T1,[]⟩,⟨Iq 8 (.fad 1 T2),[]⟩,⟨Iq 9 (Lo T8),[1]⟩,⟨Iq 10 (.call 117 [(.k (.int .u8 7)),T7,T9,(Ki 4096),(.f 118)]),[0,2]⟩,⟨Im 11 T1,[]⟩,⟨Iq 12 (.fad 2 T2),[]⟩,⟨Iq 13 (Lo qC),[5]⟩,⟨Iq 14 (.call 119 [(.k (.int .u8 8)),pO,uY,(Ki 4096),(.f 120)]),[4,6,3]⟩,⟨Im 15 T1,[]⟩,⟨Iq 16 (.fad 3 T2),[]⟩,⟨Iq 17 (Lo xJ),[9]⟩,⟨Iq 18 (.call 121 [(.k (.int .u8 9)),vB,yM,(Ki 4096),(.f 122)]),[8,10,7]⟩,⟨Im 19 T1,[]⟩,⟨Iq 20 (.fad 4 T2),[]⟩,⟨Iq 21 (Lo zK),[13]⟩,⟨Iq 22 (.call 123 [(.k (.int .u8 10)),yB,Ce,(Ki 4096),(.f 124)]),[12,14,11]⟩,⟨Im 23 T1,[]⟩,⟨Iq 24 (.fad 5 T2),[]⟩,⟨Iq 25 (Lo Dp),[17]⟩,⟨Iq 26 (.call 125 [(.k (.int .u8 11)),Eh,Ef,(Ki 4096),(.f 126)]),[16,18,15]⟩,⟨Iq 27 (.bslice 113 1 5 [(.pointer none)] [(0,pU),(1,uE),(2,wO),(3,By),(4,Ho)]),[3,7,11,15,19]⟩,⟨Iq 28 (.len false Ed),[20]⟩,⟨Iq 29 (.mv (Ki 0)),[]⟩] [0,0,2,7,0,0,32,127,0,0,512,2047,0,0,8192,32767,0,0,131072,524287,1048575,2097151,0])
 (.block 0 (.loop (Zq (Rg [Iq 30 (.bin .lss J1 J9)])
 (Zq (.cond Kz .skip
 (.exit 0))
 (Zq (.block 1 (Zq (Rg [Iq 31 (.iad 1 Ed J1),Iq 32 (Lo Lp),Im 6 Lq])
 (Zq (Rg [Im 33 T6,Iq 34 (.cmpn .ptr true Pm (.k (.pointer none)))])
 (.cond O1 (Zq (Rg [Im 35 T6,Im 4 Ro])
 .ret)
 .skip))))
 (Rg [Iq 36 (.bin .add J1 (Ki 1)),Im 29 Yf])))))))
 (Zq (Rg [Iq 4 (.mv (.k (.pointer none)))])
 .ret)))
def bOz : FE := ⟨37, y63, [.t 4]⟩
theorem bTA : iI Tryz.prog 63 bOz := iI.mk1 Tryz.func63
def y64:XC:=(Zq (Rg [Iq 1 (.box 47 T0),Iq 2 (.mv (Ki 0))])
 (Zq (.draw [⟨Iq 5 (.fad 3 T1),[]⟩,⟨Iq 6 (Lt 4 T5),[0]⟩,⟨Iq 7 (.call 14 [T6]),[1]⟩,⟨Iq 8 (.fad 7 T1),[]⟩,⟨Iq 9 (Lt 4 T8),[3]⟩,⟨Iq 10 (.call 14 [T9]),[4,2]⟩,⟨Iq 11 (.fad 13 T1),[]⟩,⟨Iq 12 (Lt 4 pO),[6]⟩,⟨Iq 13 (.call 14 [qC]),[7,5]⟩,⟨Iq 14 (.fad 11 T1),[]⟩,⟨Iq 15 (Lo uE),[9]⟩,⟨Iq 16 (.bin .geq vB (Ki 0)),[10]⟩,⟨Im 17 xJ,[11,8]⟩,⟨Iw 18 17 (.fad 11 T1),[12]⟩,⟨Iw 19 17 (Lo wO),[13,12]⟩,⟨Iw 20 17 (.bin .leq yB (Ki 3)),[14,12]⟩,⟨Iq 21 (.pick yM zK Kf),[12,15]⟩,⟨Iq 22 (.fad 12 T1),[]⟩,⟨Iq 23 (Lo By),[17]⟩,⟨Iq 24 (.bin .geq Eh (Ki 0)),[18]⟩,⟨Im 25 Dp,[19,12]⟩,⟨Iw 26 25 (.fad 12 T1),[20]⟩,⟨Iw 27 25 (Lo Ho),[21,20]⟩,⟨Iw 28 25 (.bin .leq Ed (Ki 40)),[22,20]⟩,⟨Iq 29 (.pick Ef J9 Kf),[20,23]⟩,⟨Iq 30 (.fad 21 T1),[]⟩,⟨Iq 31 (Lo Kz),[25]⟩,⟨Iq 32 (.bin .geq Lp (Ki 0)),[26]⟩,⟨Im 33 Lq,[27,20]⟩,⟨Iw 34 33 (.fad 21 T1),[28]⟩,⟨Iw 35 33 (Lo O1),[29,28]⟩,⟨Iw 36 33 (.bin .leq Ro (Ki 40)),[30,28]⟩,⟨Iq 37 (.pick Pm Yf Kf),[28,31]⟩,⟨Iq 38 (.fad 17 T1),[]⟩,⟨Iq 39 (Lt 4 T38),[33]⟩,⟨Iq 40 (.call 12 [T39]),[34,28]⟩,⟨Iq 41 (.bslice 4 1 7 [Zf] [(0,T7),(1,pU),(2,uY),(3,Ce),(4,J1),(5,T37),(6,T40)]),[2,5,8,16,24,32,35]⟩,⟨Im 3 T41,[36,35,0,1,2,3,4,5,6,7,8,9,10,11,12,13,14,15,16,17,18,19,20,21,22,23,24,25,26,27,28,29,30,31,32,33,34,35,36]⟩] [0,1,3,0,8,31,0,64,255,0,512,1536,4095,8191,16383,32767,65535,0,131072,393216,925695,1974271,4071423,8265727,16654335,0,33554432,100663296,236855295,505290751,1042161663,2115903487,4263387135,0,8589934592,26275094527,68719476735,137438953471])
 (Zq (Zq (Rg [Iq 4 (.mv (Ki 0))])
 (.block 0 (.loop (Zq (Zq (Rg [Im 42 T4,Iq 43 (.bin .lss T42 (Ki 7))])
 (.cond T43 .skip
 (.exit 0)))
 (Zq (.block 1 (Zq (Rg [Im 46 T3,Im 47 T4,Iq 48 (.iad 1 T46 T47),Iq 49 (Lo T48),Iq 50 (.un .not T49)])
 (.cond T50 (Zq (Rg [Im 51 T4,Im 2 T51])
 .ret)
 .skip)))
 (Rg [Im 44 T4,Iq 45 (.bin .add T44 (Ki 1)),Im 4 T45]))))))
 (Zq (Rg [Iq 2 (.mv (Ki 7))])
 .ret))))
def bPe : FE := ⟨52, y64, [.t 2]⟩
theorem bSE : iI Tryz.prog 64 bPe := iI.mk1 Tryz.func64
def y65:XC:=(Zq (Rg [Iq 3 (.box 47 T0),Iq 6 (.mv Kf)])
 (Zq (Zq (Rg [Im 7 T1])
 (.block 0 (Zq (Rg [Iq 9 (.bin .eql T7 (Ki 2)),Im 8 T9])
 (.cond T8 (Zq (Rg [Iq 10 (.fad 2 T3),Iq 11 (Lo pU),Im 12 T2,Iq 13 (.iad 8 pO qC),Iq 14 (.fad 0 uY),Iq 15 (Lt 4 uE),Iq 16 (.call 12 [vB]),Im 17 xJ,Iw 18 17 (.fad 2 T3),Iw 19 17 (Lo wO),Iw 20 17 (.mv T2),Iw 21 17 (.iad 8 yB zK),Iw 22 17 (.fad 4 Ce),Iw 23 17 (Lt 4 By),Iw 24 17 (.call 14 [Eh]),Iq 25 (.pick yM Dp Kf),Im 6 Ef])
 .ret)
 (Zq (Rg [Iq 27 (.bin .eql T7 (Ki 4)),Im 26 Ed])
 (.cond Ho (Zq (Rg [Iq 28 (.fad 22 T3),Iq 29 (Lo J9),Im 30 T2,Iq 31 (.iad 6 J1 Kz),Iq 32 (Lt 6 Lp),Iq 33 (.call 127 [Lq]),Im 6 Pm])
 .ret)
 (Zq (Rg [Iq 35 (.bin .eql T7 (Ki 5)),Im 34 Ro])
 (.cond O1 (Zq (Rg [Iq 36 (.fad 23 T3),Iq 37 (Lo Yf),Im 38 T2,Iq 39 (.iad 1 T37 T38),Iq 40 (Lo T39),Iq 41 (.call 10 [T40]),Im 6 T41])
 .ret)
 .skip))))))))
 (Zq (Rg [Iq 42 (.fad 24 T3),Iq 43 (Lo T42),Im 44 T2,Iq 45 (.iad 6 T43 T44),Iq 46 (.fad 0 T45),Iq 47 (Lo T46),Iq 48 (.bin .geq T47 (Ki 1)),Im 49 T48,Iw 50 49 (.fad 24 T3),Iw 51 49 (Lo T50),Iw 52 49 (.mv T2),Iw 53 49 (.iad 6 T51 T52),Iw 54 49 (.fad 0 T53),Iw 55 49 (Lo T54),Iw 56 49 (.bin .leq T55 (Ki 9999)),Iq 57 (.pick T49 T56 Kf),Im 6 T57])
 .ret)))
def bQ0 : FE := ⟨58, y65, [.t 6]⟩
theorem bRx : iI Tryz.prog 65 bQ0 := iI.mk1 Tryz.func65
def y66:XC:=(Zq (Rg [Iq 3 (.box 111 T0),Iq 6 (.mv Kf)])
 (Zq (Zq (Rg [Im 8 T1])
 (.block 0 (Zq (Rg [Iq 10 (.bin .eql T8 (Ki 7)),Im 9 pU])
 (.cond T9 (Zq (Rg [Iq 11 (.fad 1 T3),Iq 12 (Lo pO),Im 13 T2,Iq 14 (.iad 6 qC uY),Iq 15 (.fad 0 uE),Iq 16 (Lo vB),Iq 17 (.call 10 [xJ]),Im 18 yM,Iw 19 18 (.fad 1 T3),Iw 20 18 (Lo yB),Iw 21 18 (.mv T2),Iw 22 18 (.iad 6 zK Ce),Iw 23 18 (.fad 1 By),Iw 24 18 (Lo Eh),Iw 25 18 (.call 10 [Dp]),Iq 26 (.pick wO Ef Kf),Im 27 Ho,Iw 28 27 (.fad 1 T3),Iw 29 27 (Lo J9),Iw 30 27 (.mv T2),Iw 31 27 (.iad 6 J1 Kz),Iw 32 27 (.fad 2 Lp),Iw 33 27 (Lt 4 Lq),Iw 34 27 (.call 14 [Pm]),Iq 35 (.pick Ed O1 Kf),Im 6 Ro])
 .ret)
 (Zq (Rg [Iq 37 (.bin .eql T8 (Ki 8)),Im 36 T37])
 (.cond Yf (Zq (Rg [Iq 38 (.fad 2 T3),Iq 39 (Lo T38),Im 40 T2,Iq 41 (.iad 6 T39 T40),Iq 42 (.fad 0 T41),Iq 43 (Lo T42),Iq 44 (.call 10 [T43]),Im 45 T44,Iw 46 45 (.fad 2 T3),Iw 47 45 (Lo T46),Iw 48 45 (.mv T2),Iw 49 45 (.iad 6 T47 T48),Iw 50 45 (.fad 1 T49),Iw 51 45 (Lo T50),Iw 52 45 (.call 10 [T51]),Iq 53 (.pick T45 T52 Kf),Im 54 T53,Iw 55 54 (.fad 2 T3),Iw 56 54 (Lo T55),Iw 57 54 (.mv T2),Iw 58 54 (.iad 6 T56 T57),Iw 59 54 (.fad 2 T58),Iw 60 54 (Lt 4 T59),Iw 61 54 (.call 12 [T60]),Iq 62 (.pick T54 T61 Kf),Im 6 T62])
 .ret)
 (Zq (Rg [Iq 64 (.bin .eql T8 (Ki 9)),Im 63 T64])
 (.cond T63 (Zq (Rg [Iq 65 (.fad 3 T3),Iq 66 (Lo T65),Im 67 T2,Iq 68 (.iad 10 T66 T67),Iq 69 (Lt 10 T68),Iq 7 (.alloc 184 [Zf,Ze,(.int .u8 0),Ze,Ze,Ze,Zf,Zs,Zf,Zs]),Is (.store 10 T7 T69)])
 (Zq (Rg [Iq 70 (.fad 1 T7),Iq 71 (Lo T70),Iq 72 (.call 10 [T71]),Im 73 T72,Iw 74 73 (.fad 2 T7),Iw 75 73 (Lo T74),Iw 76 73 (.bin .geq T75 (.k (.int .u8 1))),Iq 77 (.pick T73 T76 Kf),Im 78 T77,Iw 79 78 (.fad 2 T7),Iw 80 78 (Lo T79),Iw 81 78 (.bin .leq T80 (.k (.int .u8 4))),Iq 82 (.pick T78 T81 Kf),Im 83 T82,Iw 84 83 (.fad 3 T7),Iw 85 83 (Lo T84),Iw 86 83 (.call 10 [T85]),Iq 87 (.pick T83 T86 Kf),Im 88 T87,Iw 89 88 (.fad 4 T7),Iw 90 88 (Lo T89),Iw 91 88 (.call 10 [T90]),Iq 92 (.pick T88 T91 Kf),Im 93 T92,Iw 94 93 (.fad 5 T7),Iw 95 93 (Lo T94),Iw 96 93 (.call 10 [T95]),Iq 97 (.pick T93 T96 Kf),Im 98 T97,Iw 99 98 (.fad 6 T7),Iw 100 98 (Lt 4 T99),Iw 101 98 (.call 12 [aVJ]),Iq 102 (.pick T98 aVC Kf),Im 6 aVK])
 .ret))
 (Zq (Rg [Iq 104 (.bin .eql T8 (Ki 10)),Im 103 aVH])
 (.cond aVy (Zq (Rg [Iq 105 (.fad 4 T3),Iq 106 (Lo aWi),Im 107 T2,Iq 108 (.iad 9 aWg aVe),Iq 109 (.fad 0 aX7),Iq 110 (Lo aW4),Iq 111 (.call 10 [aXK]),Im 112 aXZ,Iw 113 112 (.fad 4 T3),Iw 114 112 (Lo aXB),Iw 115 112 (.mv T2),Iw 116 112 (.iad 9 aXM aXb),Iw 117 112 (.fad 1 aXx),Iw 118 112 (Lt 4 aXJ),Iw 119 112 (.call 12 [aWJ]),Iq 120 (.pick aXe aYk Kf),Im 121 aXU,Iw 122 121 (.fad 4 T3),Iw 123 121 (Lo aWf),Iw 124 121 (.mv T2),Iw 125 121 (.iad 9 aXN aWn),Iw 126 121 (.fad 5 aXG),Iw 127 121 (Lt 4 aWN),Iw 128 121 (.call 14 [aXS]),Iq 129 (.pick aYl aZh Kf),Im 6 aXH])
 .ret)
 .skip))))))))))
 (Zq (Rg [Iq 130 (.fad 5 T3),Iq 131 (Lo aWw),Im 132 T2,Iq 133 (.iad 5 aXQ aYL),Iq 134 (.fad 0 aY7),Iq 135 (Lo aYR),Iq 136 (.call 10 [aZi]),Im 137 bBU,Iw 138 137 (.fad 5 T3),Iw 139 137 (Lo bB8),Iw 140 137 (.mv T2),Iw 141 137 (.iad 5 bB4 bBX),Iw 142 137 (.fad 1 bAB),Iw 143 137 (Lt 4 bC2),Iw 144 137 (.call 14 [bCk]),Iq 145 (.pick bCP bCd Kf),Im 6 bBF])
 .ret)))
def bNT : FE := ⟨146, y66, [.t 6]⟩
theorem bRE : iI Tryz.prog 66 bNT := iI.mk1 Tryz.func66
def y67:XC:=(Zq (Rg [Iq 2 (.box 30 T0),Iq 3 (.box 30 T1),Iq 4 (.mv Kf)])
 (Zq (Rg [Iq 5 (.fad 0 T2),Iq 6 (Lt 2 T5),Iq 7 (.fad 0 T3),Iq 8 (Lt 2 T7),Iq 9 (.call 128 [T6,T8]),Im 10 T9,Iw 11 10 (.fad 2 T2),Iw 12 10 (Lt 2 pO),Iw 13 10 (.fad 2 T3),Iw 14 10 (Lt 2 uY),Iw 15 10 (.call 128 [qC,uE]),Iq 16 (.pick pU vB Kf),Im 4 xJ])
 .ret))
def bQL : FE := ⟨17, y67, [.t 4]⟩
theorem bRj : iI Tryz.prog 67 bQL := iI.mk1 Tryz.func67
def y68:XC:=(Zq (Rg [Iq 2 (.box 111 T0),Iq 3 (.box 111 T1),Iq 4 (.mv Kf)])
 (Zq (Zq (Rg [Iq 16 (.fad 0 T2),Iq 17 (Lo xJ),Iq 18 (.fad 0 T3),Iq 19 (Lo wO),Iq 20 (.bin .neq yM yB),Im 21 zK,Iv 22 21 (.fad 1 T2),Iv 23 21 (Lo By),Iv 24 21 (.len false Eh),Iv 25 21 (.fad 1 T3),Iv 26 21 (Lo Ef),Iv 27 21 (.len false Ho),Iv 28 21 (.bin .neq Dp Ed),Iq 29 (.pick Ce Kt J9),Im 30 J1,Iv 31 30 (.fad 2 T2),Iv 32 30 (Lo Lp),Iv 33 30 (.len false Lq),Iv 34 30 (.fad 2 T3),Iv 35 30 (Lo O1),Iv 36 30 (.len false Ro),Iv 37 30 (.bin .neq Pm Yf),Iq 38 (.pick Kz Kt T37),Im 39 T38,Iv 40 39 (.fad 3 T2),Iv 41 39 (Lo T40),Iv 42 39 (.len false T41),Iv 43 39 (.fad 3 T3),Iv 44 39 (Lo T43),Iv 45 39 (.len false T44),Iv 46 39 (.bin .neq T42 T45),Iq 47 (.pick T39 Kt T46),Im 48 T47,Iv 49 48 (.fad 4 T2),Iv 50 48 (Lo T49),Iv 51 48 (.len false T50),Iv 52 48 (.fad 4 T3),Iv 53 48 (Lo T52),Iv 54 48 (.len false T53),Iv 55 48 (.bin .neq T51 T54),Iq 56 (.pick T48 Kt T55),Im 57 T56,Iv 58 57 (.fad 5 T2),Iv 59 57 (Lo T58),Iv 60 57 (.len false T59),Iv 61 57 (.fad 5 T3),Iv 62 57 (Lo T61),Iv 63 57 (.len false T62),Iv 64 57 (.bin .neq T60 T63),Iq 65 (.pick T57 Kt T64)])
 (.cond T65 (Zq (Rg [Iq 4 (.mv Kf)])
 .ret)
 .skip))
 (Zq (Zq (Rg [Iq 5 (.mv (Ki 0))])
 (.block 0 (.loop (Zq (Zq (Rg [Im 66 T5,Iq 67 (.fad 1 T2),Iq 68 (Lo T67),Iq 69 (.len false T68),Iq 70 (.bin .lss T66 T69)])
 (.cond T70 .skip
 (.exit 0)))
 (Zq (.block 1 (Zq (.draw [⟨Iq 73 (.fad 1 T2),[]⟩,⟨Iq 74 (Lo T73),[0]⟩,⟨Im 75 T5,[]⟩,⟨Iq 76 (.iad 6 T74 T75),[1,2]⟩,⟨Iq 77 (Lt 6 T76),[3]⟩,⟨Iq 78 (.fad 1 T3),[]⟩,⟨Iq 79 (Lo T78),[5]⟩,⟨Im 80 T5,[]⟩,⟨Iq 81 (.iad 6 T79 T80),[6,7]⟩,⟨Iq 82 (Lt 6 T81),[8]⟩,⟨Iq 6 (.alloc 180 [Ze,Ze,Zf,Zs,Zf,Zs]),[]⟩,⟨Iq 7 (.alloc 180 [Ze,Ze,Zf,Zs,Zf,Zs]),[]⟩,⟨Is (.store 6 T6 T77),[10,4,0,1,2,3,4,10,11]⟩,⟨Is (.store 6 T7 T82),[11,9,12,0,1,2,3,4,5,6,7,8,9,10,11,12]⟩] [0,1,0,7,15,0,32,0,224,480,0,0,3103,8191])
 (Zq (Rg [Iq 83 (.fad 0 T6),Iq 84 (Lo T83),Iq 85 (.fad 0 T7),Iq 86 (Lo T85),Iq 87 (.bin .neq T84 T86),Im 88 T87,Iv 89 88 (.fad 1 T6),Iv 90 88 (Lo T89),Iv 91 88 (.fad 1 T7),Iv 92 88 (Lo T91),Iv 93 88 (.bin .neq T90 T92),Iq 94 (.pick T88 Kt T93),Im 95 T94,Iv 96 95 (.fad 2 T6),Iv 97 95 (Lt 4 T96),Iv 98 95 (.fad 2 T7),Iv 99 95 (Lt 4 T98),Iv 100 95 (.call 67 [T97,T99]),Iv 101 95 (.un .not aVJ),Iq 102 (.pick T95 Kt aVC)])
 (.cond aVK (Zq (Rg [Iq 4 (.mv Kf)])
 .ret)
 .skip))))
 (Rg [Im 71 T5,Iq 72 (.bin .add T71 (Ki 1)),Im 5 T72]))))))
 (Zq (Zq (Rg [Iq 8 (.mv (Ki 0))])
 (.block 2 (.loop (Zq (Zq (Rg [Im 103 T8,Iq 104 (.fad 2 T2),Iq 105 (Lo aVH),Iq 106 (.len false aWi),Iq 107 (.bin .lss aVy aWg)])
 (.cond aVe .skip
 (.exit 2)))
 (Zq (.block 3 (Zq (.draw [⟨Iq 110 (.fad 2 T2),[]⟩,⟨Iq 111 (Lo aXK),[0]⟩,⟨Im 112 T8,[]⟩,⟨Iq 113 (.iad 6 aXZ aXe),[1,2]⟩,⟨Iq 114 (Lt 6 aXB),[3]⟩,⟨Iq 115 (.fad 2 T3),[]⟩,⟨Iq 116 (Lo aXb),[5]⟩,⟨Im 117 T8,[]⟩,⟨Iq 118 (.iad 6 aXx aXJ),[6,7]⟩,⟨Iq 119 (Lt 6 aWJ),[8]⟩,⟨Iq 9 (.alloc 182 [Ze,Ze,Zf,Zs,Zf,Zs]),[]⟩,⟨Iq 10 (.alloc 182 [Ze,Ze,Zf,Zs,Zf,Zs]),[]⟩,⟨Is (.store 6 T9 aXM),[10,4,0,1,2,3,4,10,11]⟩,⟨Is (.store 6 pU aYk),[11,9,12,0,1,2,3,4,5,6,7,8,9,10,11,12]⟩] [0,1,0,7,15,0,32,0,224,480,0,0,3103,8191])
 (Zq (Rg [Iq 120 (.fad 0 T9),Iq 121 (Lo aXU),Iq 122 (.fad 0 pU),Iq 123 (Lo aWf),Iq 124 (.bin .neq aYl aXN),Im 125 aWn,Iv 126 125 (.fad 1 T9),Iv 127 125 (Lo aWN),Iv 128 125 (.fad 1 pU),Iv 129 125 (Lo aZh),Iv 130 125 (.bin .neq aXS aXH),Iq 131 (.pick aXG Kt aWw),Im 132 aXQ,Iv 133 132 (.fad 2 T9),Iv 134 132 (Lt 4 aY7),Iv 135 132 (.fad 2 pU),Iv 136 132 (Lt 4 aZi),Iv 137 132 (.call 67 [aYR,bBU]),Iv 138 132 (.un .not bCP),Iq 139 (.pick aYL Kt bB8)])
 (.cond bB4 (Zq (Rg [Iq 4 (.mv Kf)])
 .ret)
 .skip))))
 (Rg [Im 108 T8,Iq 109 (.bin .add aX7 (Ki 1)),Im 8 aW4]))))))
 (Zq (Zq (Rg [Iq 11 (.mv (Ki 0))])
 (.block 4 (.loop (Zq (Zq (Rg [Im 140 pO,Iq 141 (.fad 3 T2),Iq 142 (Lo bAB),Iq 143 (.len false bC2),Iq 144 (.bin .lss bBX bCk)])
 (.cond bCd .skip
 (.exit 4)))
 (Zq (.block 5 (Zq (.draw [⟨Iq 147 (.fad 3 T2),[]⟩,⟨Iq 148 (Lo bFq),[0]⟩,⟨Im 149 pO,[]⟩,⟨Iq 150 (.iad 10 bDt bFM),[1,2]⟩,⟨Iq 151 (Lt 10 bK9),[3]⟩,⟨Iq 152 (.fad 3 T3),[]⟩,⟨Iq 153 (Lo bQD),[5]⟩,⟨Im 154 pO,[]⟩,⟨Iq 155 (.iad 10 bMt bP9),[6,7]⟩,⟨Iq 156 (Lt 10 bNG),[8]⟩,⟨Iq 12 (.alloc 184 [Zf,Ze,(.int .u8 0),Ze,Ze,Ze,Zf,Zs,Zf,Zs]),[]⟩,⟨Iq 13 (.alloc 184 [Zf,Ze,(.int .u8 0),Ze,Ze,Ze,Zf,Zs,Zf,Zs]),[]⟩,⟨Is (.store 10 qC bJl),[10,4,0,1,2,3,4,10,11]⟩,⟨Is (.store 10 uY bOR),[11,9,12,0,1,2,3,4,5,6,7,8,9,10,11,12]⟩] [0,1,0,7,15,0,32,0,224,480,0,0,3103,8191])
 (Zq (Rg [Iq 157 (.fad 0 qC),Iq 158 (Lo bQ3),Iq 159 (.fad 0 uY),Iq 160 (Lo bTB),Iq 161 (.binB .neq bPW bPK),Im 162 bO7,Iv 163 162 (.fad 1 qC),Iv 164 162 (Lo bO9),Iv 165 162 (.fad 1 uY),Iv 166 162 (Lo bQd),Iv 167 162 (.bin .neq bOx bOT),Iq 168 (.pick bON Kt bOu),Im 169 bQY,Iv 170 169 (.fad 2 qC),Iv 171 169 (Lo bN2),Iv 172 169 (.fad 2 uY),Iv 173 169 (Lo bMx),Iv 174 169 (.bin .neq bPr bM2),Iq 175 (.pick bM0 Kt bQc),Im 176 bQJ,Iv 177 176 (.fad 3 qC),Iv 178 176 (Lo bNW),Iv 179 176 (.fad 3 uY),Iv 180 176 (Lo bPL),Iv 181 176 (.bin .neq bNf bNk),Iq 182 (.pick bHY Kt bPA),Im 183 bMD,Iv 184 183 (.fad 4 qC),Iv 185 183 (Lo bOs),Iv 186 183 (.fad 4 uY),Iv 187 183 (Lo bOJ),Iv 188 183 (.bin .neq bMs bRk),Iq 189 (.pick bMr Kt bSr),Im 190 bTe,Iv 191 190 (.fad 5 qC),Iv 192 190 (Lo bTi),Iv 193 190 (.fad 5 uY),Iv 194 190 (Lo bSN),Iv 195 190 (.bin .neq bTd bSk),Iq 196 (.pick bRn Kt bRs),Im 197 bUt,Iv 198 197 (.fad 6 qC),Iv 199 197 (Lt 4 bUn),Iv 200 197 (.fad 6 uY),Iv 201 197 (Lt 4 bRN),Iv 202 197 (.call 67 [bSG,bR2]),Iv 203 197 (.un .not bT4),Iq 204 (.pick bRI Kt bTY)])
 (.cond bSU (Zq (Rg [Iq 4 (.mv Kf)])
 .ret)
 .skip))))
 (Rg [Im 145 pO,Iq 146 (.bin .add bBF (Ki 1)),Im 11 bDn]))))))
 (Zq (Zq (Rg [Iq 14 (.mv (Ki 0))])
 (.block 6 (.loop (Zq (Zq (Rg [Im 205 uE,Iq 206 (.fad 4 T2),Iq 207 (Lo bTM),Iq 208 (.len false bST),Iq 209 (.bin .lss bRL bTS)])
 (.cond bSx .skip
 (.exit 6)))
 (Zq (.block 7 (Zq (.draw [⟨Iq 212 (.fad 4 T2),[]⟩,⟨Iq 213 (Lo bS3),[0]⟩,⟨Im 214 uE,[]⟩,⟨Iq 215 (.iad 9 bRJ bSS),[1,2]⟩,⟨Iq 216 (.fad 0 bSp),[3]⟩,⟨Iq 217 (Lo bTb),[4]⟩,⟨Iq 218 (.fad 4 T3),[]⟩,⟨Iq 219 (Lo bS7),[6]⟩,⟨Im 220 uE,[]⟩,⟨Iq 221 (.iad 9 bSR bRZ),[7,8]⟩,⟨Iq 222 (.fad 0 bUe),[9]⟩,⟨Iq 223 (Lo bS2),[10]⟩,⟨Iq 224 (.bin .neq bSI bRy),[5,11]⟩,⟨Im 225 bRC,[12]⟩,⟨Iv 226 225 (.fad 4 T2),[13]⟩,⟨Iv 227 225 (Lo bUp),[14,13]⟩,⟨Iv 228 225 (.mv uE),[13]⟩,⟨Iv 229 225 (.iad 9 bTs bRA),[15,16,13]⟩,⟨Iv 230 225 (.fad 1 bS8),[17,13]⟩,⟨Iv 231 225 (Lt 4 bSC),[18,13]⟩,⟨Iv 232 225 (.fad 4 T3),[13]⟩,⟨Iv 233 225 (Lo bRM),[20,13]⟩,⟨Iv 234 225 (.mv uE),[13]⟩,⟨Iv 235 225 (.iad 9 bVF bW4),[21,22,13]⟩,⟨Iv 236 225 (.fad 1 bVA),[23,13]⟩,⟨Iv 237 225 (Lt 4 bXs),[24,13]⟩,⟨Iv 238 225 (.call 67 [bTr,bVL]),[19,25,13,13]⟩,⟨Iv 239 225 (.un .not bUL),[26,13]⟩,⟨Iq 240 (.pick bTU Kt bWo),[13,27]⟩,⟨Im 241 bU0,[28,26]⟩,⟨Iv 242 241 (.fad 4 T2),[29]⟩,⟨Iv 243 241 (Lo bUT),[30,29]⟩,⟨Iv 244 241 (.mv uE),[29]⟩,⟨Iv 245 241 (.iad 9 bWx bWG),[31,32,29]⟩,⟨Iv 246 241 (.fad 5 bVf),[33,29]⟩,⟨Iv 247 241 (Lt 4 bWK),[34,29]⟩,⟨Iv 248 241 (.fad 4 T3),[29]⟩,⟨Iv 249 241 (Lo bWr),[36,29]⟩,⟨Iv 250 241 (.mv uE),[29]⟩,⟨Iv 251 241 (.iad 9 bXj bWM),[37,38,29]⟩,⟨Iv 252 241 (.fad 5 bVN),[39,29]⟩,⟨Iv 253 241 (Lt 4 bUP),[40,29]⟩,⟨Iv 254 241 (.call 67 [bU4,bWy]),[35,41,29,29]⟩,⟨Iv 255 241 (.un .not bUO),[42,29]⟩,⟨Iq 256 (.pick bWW Kt bWL),[29,43]⟩] [0,1,0,7,15,31,0,64,0,448,960,1984,4095,8191,16383,32767,16383,131071,262143,524287,16383,1064959,16383,7356415,15745023,32522239,67108863,134217727,268435455,536870911,1073741823,2147483647,1073741823,8589934591,17179869183,34359738367,1073741823,69793218559,1073741823,482110078975,1031865892863,2131377520639,4398046511103,8796093022207,17592186044415])
 (.cond bXy (Zq (Rg [Iq 4 (.mv Kf)])
 .ret)
 .skip)))
 (Rg [Im 210 uE,Iq 211 (.bin .add bRH (Ki 1)),Im 14 bTD]))))))
 (Zq (Zq (Rg [Iq 15 (.mv (Ki 0))])
 (.block 8 (.loop (Zq (Zq (Rg [Im 257 vB,Iq 258 (.fad 5 T2),Iq 259 (Lo bWj),Iq 260 (.len false bVa),Iq 261 (.bin .lss bVD bW5)])
 (.cond bXG .skip
 (.exit 8)))
 (Zq (.block 9 (Zq (.draw [⟨Iq 264 (.fad 5 T2),[]⟩,⟨Iq 265 (Lo bXl),[0]⟩,⟨Im 266 vB,[]⟩,⟨Iq 267 (.iad 5 bVZ bVI),[1,2]⟩,⟨Iq 268 (.fad 0 bWv),[3]⟩,⟨Iq 269 (Lo bV2),[4]⟩,⟨Iq 270 (.fad 5 T3),[]⟩,⟨Iq 271 (Lo bWP),[6]⟩,⟨Im 272 vB,[]⟩,⟨Iq 273 (.iad 5 bWO bXp),[7,8]⟩,⟨Iq 274 (.fad 0 bUS),[9]⟩,⟨Iq 275 (Lo bUK),[10]⟩,⟨Iq 276 (.bin .neq bWZ bXA),[5,11]⟩,⟨Im 277 bXq,[12]⟩,⟨Iv 278 277 (.fad 5 T2),[13]⟩,⟨Iv 279 277 (Lo bWD),[14,13]⟩,⟨Iv 280 277 (.mv vB),[13]⟩,⟨Iv 281 277 (.iad 5 bXk bVx),[15,16,13]⟩,⟨Iv 282 277 (.fad 1 bUF),[17,13]⟩,⟨Iv 283 277 (Lt 4 bVy),[18,13]⟩,⟨Iv 284 277 (.fad 5 T3),[13]⟩,⟨Iv 285 277 (Lo bWh),[20,13]⟩,⟨Iv 286 277 (.mv vB),[13]⟩,⟨Iv 287 277 (.iad 5 bXh bVR),[21,22,13]⟩,⟨Iv 288 277 (.fad 1 bWe),[23,13]⟩,⟨Iv 289 277 (Lt 4 bVV),[24,13]⟩,⟨Iv 290 277 (.call 67 [bUN,bXD]),[19,25,13,13]⟩,⟨Iv 291 277 (.un .not bVd),[26,13]⟩,⟨Iq 292 (.pick bVe Kt bVk),[13,27]⟩] [0,1,0,7,15,31,0,64,0,448,960,1984,4095,8191,16383,32767,16383,131071,262143,524287,16383,1064959,16383,7356415,15745023,32522239,67108863,134217727,268435455])
 (.cond bVU (Zq (Rg [Iq 4 (.mv Kf)])
 .ret)
 .skip)))
 (Rg [Im 262 vB,Iq 263 (.bin .add bUD (Ki 1)),Im 15 bXM]))))))
 (Zq (Rg [Iq 4 (.mv Kt)])
 .ret))))))))
def bOA : FE := ⟨293, y68, [.t 4]⟩
theorem bTw : iI Tryz.prog 68 bOA := iI.mk1 Tryz.func68
def y75:XC:=(Zq (Rg [Iq 2 (.box 28 T0),Iq 3 (.box 28 T1),Iq 4 (.alloc 30 [Zf,Zs,Zf,Zs]),Iq 5 (.mv (Ki 0))])
 (Zq (Zq (Rg [Iq 13 (Lt 2 T3),Iq 14 (.call 113 [uY]),Iq 15 (.bin .eql uE (Ki 0))])
 (.cond vB (Zq (Rg [Iq 16 (.call 146 []),Is (.store 4 T4 xJ),Iq 5 (.mv (Ki 20))])
 .ret)
 .skip))
 (Zq (Zq (Rg [Iq 17 (Lt 2 T3),Iq 18 (.call 113 [yM]),Iq 19 (.bin .lss wO (Ki 0))])
 (.cond yB (Zq (Rg [Iq 20 (Lt 2 T2),Iq 21 (.call 115 [zK]),Is (.store 2 T2 Ce)])
 (Rg [Iq 22 (Lt 2 T3),Iq 23 (.call 115 [By]),Is (.store 2 T3 Eh)]))
 .skip))
 (Zq (Rg [Iq 24 (Lt 2 T2),Iq 25 (Lt 2 T3),Iq 26 (.call 147 [Dp,Ef]),Iq 6 (.alloc 28 [Zf,Zs]),Is (.store 2 T6 Ho)])
 (Zq (Rg [Iq 28 (Lt 2 T2),Iq 29 (Lt 2 T6),Iq 30 (.call 111 [J9,J1]),Im 27 Kz,Iq 31 (.ext Ed 0),Iq 32 (.ext Ed 1),Iq 33 (.ext Ed 2),Iq 7 (.alloc 28 [Zf,Zs]),Iq 8 (.alloc 28 [Zf,Zs]),Is (.store 2 T7 Lp),Is (.store 2 T8 Lq),Im 9 Pm])
 (Zq (Rg [Iq 35 (Lt 2 T3),Iq 36 (Lt 2 T6),Iq 37 (.call 111 [Ro,Yf]),Im 34 T37,Iq 38 (.ext O1 0),Iq 39 (.ext O1 1),Iq 40 (.ext O1 2),Iq 10 (.alloc 28 [Zf,Zs]),Iq 11 (.alloc 28 [Zf,Zs]),Is (.store 2 pU T38),Is (.store 2 pO T39),Im 12 T40])
 (Zq (Rg [Iq 41 (Lt 2 T7),Iq 42 (Lt 2 pU),Iq 43 (.build [Zf,Zs,Zf,Zs] [(0,2,T41),(2,2,T42)]),Is (.store 4 T4 T43),Iq 5 (.mv (Ki 0))])
 .ret)))))))
def bQQ : FE := ⟨44, y75, [.c 4 true 4, .t 5]⟩
theorem bTR : iI Tryz.prog 75 bQQ := iI.mk1 Tryz.func75
def y76:XC:=(Zq (Rg [Iq 2 (.alloc 28 [Zf,Zs])])
 (Zq (Rg [Im 5 T0,Iq 6 (.bin .rem T5 (Ki 4294967296)),Im 7 T0,Iq 8 (.bin .quo T7 (Ki 4294967296)),Im 3 T6,Im 4 T8])
 (Zq (Rg [Im 9 T0,Iq 10 (.bin .lss T9 (Ki 0)),Im 11 T3,Im 12 T3,Iq 13 (.un .neg qC),Iq 14 (.mx false pO uY),Iq 15 (.cvi .u32 uE),Im 16 T4,Im 17 T4,Iq 18 (.un .neg yM),Iq 19 (.mx false xJ wO),Iq 20 (.cvi .u32 yB),Iq 21 (.bslice 221 1 2 [(.int .u32 0)] [(0,vB),(1,zK)]),Iq 22 (.call 148 [pU,Ce]),Is (.store 2 T2 By)])
 .ret)))
def bQW : FE := ⟨23, y76, [.c 2 true 2]⟩
theorem bT5 : iI Tryz.prog 76 bQW := iI.mk1 Tryz.func76
def y77:XC:=(Zq (Rg [Iq 1 (.box 30 T0),Iq 2 (.alloc 30 [Zf,Zs,Zf,Zs])])
 (Zq (Zq (Rg [Iq 3 (Lt 4 T1),Iq 4 (.call 112 [T3]),Iq 5 (.un .not T4)])
 (.cond T5 (Zq (Rg [Iq 6 (.call 146 []),Is (.store 4 T2 T6)])
 .ret)
 .skip))
 (Zq (Rg [Iq 7 (Lt 4 T1),Is (.store 4 T2 T7)])
 .ret)))
def bN5 : FE := ⟨8, y77, [.c 2 true 4]⟩
theorem bTl : iI Tryz.prog 77 bN5 := iI.mk1 Tryz.func77
def y78:XC:=(Zq (Rg [Iq 2 (.box 28 T0),Iq 3 (.box 28 T1),Iq 4 (.alloc 28 [Zf,Zs])])
 (Zq (Rg [Iq 5 (Lt 2 T2),Iq 6 (.call 149 [T5]),Is (.store 2 T2 T6)])
 (Zq (Rg [Iq 7 (Lt 2 T3),Iq 8 (.call 149 [T7]),Is (.store 2 T3 T8)])
 (Zq (.draw [⟨Iq 9 (.fad 0 T2),[]⟩,⟨Iq 10 (Lo T9),[0]⟩,⟨Iq 11 (.fad 0 T3),[]⟩,⟨Iq 12 (Lo pO),[2]⟩,⟨Iq 13 (.binB .neq pU qC),[1,3]⟩,⟨Iq 14 (.fad 1 T2),[]⟩,⟨Iq 15 (Lo uE),[5]⟩,⟨Iq 16 (.call 152 [vB]),[6]⟩,⟨Iq 17 (.fad 1 T3),[]⟩,⟨Iq 18 (Lo yM),[8]⟩,⟨Iq 19 (.call 152 [wO]),[9,7]⟩,⟨Iq 20 (.call 151 [xJ,yB]),[7,10,10]⟩,⟨Iq 21 (.call 150 [zK]),[11,11]⟩,⟨Iq 22 (.call 148 [uY,Ce]),[4,12,12]⟩,⟨Is (.store 2 T4 By),[13,13,0,1,2,3,4,5,6,7,8,9,10,11,12,13]⟩] [0,1,0,4,15,0,32,96,0,256,992,2016,4064,8191,16383])
 .ret))))
def bOW : FE := ⟨23, y78, [.c 4 true 2]⟩
theorem bUc : iI Tryz.prog 78 bOW := iI.mk1 Tryz.func78
def y79:XC:=(Zq (Rg [Iq 2 (.box 26 T0),Iq 3 (.box 26 T1),Iq 4 (.alloc 26 [Zf,Zs,Zf,Zs])])
 (Zq (Zq (Rg [Iq 5 (.fad 2 T2),Iq 6 (Lt 2 T5),Iq 7 (.fad 2 T3),Iq 8 (Lt 2 T7),Iq 9 (.call 107 [T6,T8]),Iq 10 (.bin .eql T9 (Ki 0))])
 (.cond pU (Zq (.draw [⟨Iq 11 (.fad 0 T2),[]⟩,⟨Iq 12 (Lt 2 pO),[0]⟩,⟨Iq 13 (.fad 0 T3),[]⟩,⟨Iq 14 (Lt 2 uY),[2]⟩,⟨Iq 15 (.call 153 [qC,uE]),[1,3]⟩,⟨Iq 16 (.fad 2 T2),[]⟩,⟨Iq 17 (Lt 2 xJ),[5]⟩,⟨Iq 18 (.call 105 [vB,yM]),[4,6,4]⟩,⟨Is (.store 4 T4 wO),[7,7,0,1,2,3,4,5,6,7]⟩] [0,1,0,4,15,0,32,127,255])
 .ret)
 .skip))
 (Zq (.draw [⟨Iq 19 (.fad 0 T2),[]⟩,⟨Iq 20 (Lt 2 yB),[0]⟩,⟨Iq 21 (.fad 2 T3),[]⟩,⟨Iq 22 (Lt 2 Ce),[2]⟩,⟨Iq 23 (.call 106 [zK,By]),[1,3]⟩,⟨Iq 24 (.fad 0 T3),[]⟩,⟨Iq 25 (Lt 2 Dp),[5]⟩,⟨Iq 26 (.fad 2 T2),[]⟩,⟨Iq 27 (Lt 2 Ho),[7]⟩,⟨Iq 28 (.call 106 [Ef,Ed]),[6,8,4]⟩,⟨Iq 29 (.call 153 [Eh,J9]),[4,9,9]⟩,⟨Iq 30 (.fad 2 T2),[]⟩,⟨Iq 31 (Lt 2 Kz),[11]⟩,⟨Iq 32 (.fad 2 T3),[]⟩,⟨Iq 33 (Lt 2 Lq),[13]⟩,⟨Iq 34 (.call 106 [Lp,Pm]),[12,14,10]⟩,⟨Iq 35 (.call 105 [J1,O1]),[10,15,15]⟩,⟨Is (.store 4 T4 Ro),[16,16,0,1,2,3,4,5,6,7,8,9,10,11,12,13,14,15,16]⟩] [0,1,0,4,15,0,32,0,128,511,1023,0,2048,0,8192,32767,65535,131071])
 .ret)))
def bN1 : FE := ⟨36, y79, [.c 4 true 4]⟩
theorem bR7 : iI Tryz.prog 79 bN1 := iI.mk1 Tryz.func79
def y80:XC:=(Zq (Rg [Iq 1 (.box 26 T0),Iq 2 (.alloc 26 [Zf,Zs,Zf,Zs])])
 (Zq (Zq (Rg [Iq 3 (Lt 4 T1),Iq 4 (.call 100 [T3]),Iq 5 (.un .not T4)])
 (.cond T5 (Zq (Rg [Iq 6 (.build [Zf,Zs] []),Iq 7 (.call 104 []),Iq 8 (.build [Zf,Zs,Zf,Zs] [(0,2,T6),(2,2,T7)]),Is (.store 4 T2 T8)])
 .ret)
 .skip))
 (Zq (Rg [Iq 9 (Lt 4 T1),Is (.store 4 T2 T9)])
 .ret)))
def bM3 : FE := ⟨10, y80, [.c 2 true 4]⟩
theorem bSP : iI Tryz.prog 80 bM3 := iI.mk1 Tryz.func80
def y81:XC:=(Zq (Rg [Iq 1 (.box 24 T0),Iq 2 (.alloc 24 [Zf,Zs])])
 (Zq (Rg [Iq 4 (Lt 2 T1),Iq 5 (.call 154 [T4]),Iq 6 (.call 155 [T5]),Iq 3 (.alloc 228 [Zf,Zs]),Is (.store 2 T3 T6)])
 (Zq (.draw [⟨Iq 7 (.fad 0 T3),[]⟩,⟨Iq 8 (.fad 0 T7),[0]⟩,⟨Iq 9 (Lo T8),[1]⟩,⟨Iq 10 (.fad 0 T3),[]⟩,⟨Iq 11 (.fad 1 pU),[3]⟩,⟨Iq 12 (Lo pO),[4]⟩,⟨Iq 13 (.call 156 [qC]),[5]⟩,⟨Iq 14 (.build [Zf,Zs] [(0,1,T9),(1,1,uY)]),[2,6]⟩,⟨Is (.store 2 T2 uE),[7,6,0,1,2,3,4,5,6,7]⟩] [0,1,3,0,8,24,56,127,255])
 .ret)))
def bO4 : FE := ⟨15, y81, [.c 2 true 2]⟩
theorem bSJ : iI Tryz.prog 81 bO4 := iI.mk1 Tryz.func81
def y82:XC:=(Zq (Rg [Iq 1 (.box 24 T0),Iq 2 (.alloc 24 [Zf,Zs])])
 (Zq (Rg [Iq 3 (Lt 2 T1),Iq 4 (.call 154 [T3]),Iq 5 (.fld true 2 0 T4),Iq 6 (.fld false 1 1 T5),Iq 7 (.call 156 [T6]),Iq 8 (.build [Zf,Zs] [(1,1,T7)]),Is (.store 2 T2 T8)])
 .ret))
def bQ1 : FE := ⟨9, y82, [.c 2 true 2]⟩
theorem bTx : iI Tryz.prog 82 bQ1 := iI.mk1 Tryz.func82
def y83:XC:=(Zq (Rg [Iq 0 (.alloc 41 [Ze,Ze,Zs,Zf,Zs,Zf,Zs,Zf,Zs,Zf,Zs,Zi,Zi,Zf,Zs,Zf,Zs,Zf,Zs,Zf,Zs,Zi,Zs,Zs,Zs])])
 (Zq (Rg [Iq 1 (.call 84 [(Ki 0)]),Iq 2 (.call 85 [(Ki 2500)]),Iq 3 (.build [Zf,Zs,Zf,Zs,Zf,Zs,Zf,Zs] [(0,4,T1),(4,4,T2)]),Iq 4 (.bslice 98 8 1 [Zf,Zs,Zf,Zs,Zf,Zs,Zf,Zs] [(0,T3)]),Iq 5 (.call 85 [(Ki 7500)]),Iq 6 (.call 85 [(Ki 5000)]),Iq 7 (.call 85 [(Ki 3000)]),Iq 8 (.call 84 [(Ki 0)]),Iq 9 (.bslice 9 1 1 [Ze] [(0,(.k (.string ⟨#[80]⟩)))]),Iq 10 (.build [Zi,Zs,Zs,Zs,Zs,Zs] [(0,1,(Ki 2020))]),Iq 11 (.bslice 92 6 1 [Zi,Zs,Zs,Zs,Zs,Zs] [(0,pU)]),Iq 12 (.build [Ze,Ze,Zs,Zf,Zs,Zf,Zs,Zf,Zs,Zf,Zs,Zi,Zi,Zf,Zs,Zf,Zs,Zf,Zs,Zf,Zs,Zi,Zs,Zs,Zs] [(0,1,(.k (.string ⟨#[83]⟩))),(1,1,(.k (.string ⟨#[80]⟩))),(2,1,T4),(3,4,T5),(7,4,T6),(11,1,(Ki 1)),(12,1,(Ki 2)),(13,4,T7),(17,4,T8),(21,1,(Ki 1)),(23,1,T9),(24,1,pO)]),Is (.store 25 T0 qC)])
 .ret))
def bMj : FE := ⟨13, y83, [.c 0 true 25]⟩
theorem bUq : iI Tryz.prog 83 bMj := iI.mk1 Tryz.func83
def y84:XC:=(Zq (Rg [Iq 2 (.alloc 26 [Zf,Zs,Zf,Zs])])
 (Zq (Rg [Im 3 T0,Iq 4 (.call 26 [T3,(Ki 100)]),Is (.store 4 T2 T4)])
 .ret))
def bNY : FE := ⟨5, y84, [.c 2 true 4]⟩
theorem bTz : iI Tryz.prog 84 bNY := iI.mk1 Tryz.func84
def y85:XC:=(Zq (Rg [Iq 2 (.alloc 26 [Zf,Zs,Zf,Zs])])
 (Zq (Rg [Im 3 T0,Iq 4 (.call 26 [T3,(Ki 10000)]),Is (.store 4 T2 T4)])
 .ret))
def bPl : FE := ⟨5, y85, [.c 2 true 4]⟩
theorem bTt : iI Tryz.prog 85 bPl := iI.mk1 Tryz.func85
def y86:XC:=(Zq (Rg [Iq 0 (.mv (.k Zs))])
 (Zq (Rg [Iq 2 (.call 26 [(Ki 0),(Ki 1)]),Iq 1 (.alloc 26 [Zf,Zs,Zf,Zs]),Is (.store 4 T1 T2)])
 (Zq (.draw [⟨Iq 3 (Lt 4 T1),[]⟩,⟨Iq 4 (.build [Ze,(.int .u8 0),Zf,Zs,Zf,Zs] [(0,1,(.k (.string ⟨#[115,97,108,101,115]⟩))),(1,1,(.k (.int .u8 1))),(2,4,T3)]),[0]⟩,⟨Iq 5 (Lt 4 T1),[]⟩,⟨Iq 6 (.build [Ze,(.int .u8 0),Zf,Zs,Zf,Zs] [(0,1,(.k (.string ⟨#[99,111,115,116]⟩))),(1,1,(.k (.int .u8 2))),(2,4,T5)]),[2]⟩,⟨Iq 7 (Lt 4 T1),[]⟩,⟨Iq 8 (.build [Ze,(.int .u8 0),Zf,Zs,Zf,Zs] [(0,1,(.k (.string ⟨#[102,114,101,101]⟩))),(1,1,(.k (.int .u8 3))),(2,4,T7)]),[4]⟩,⟨Iq 9 (.call 85 [(Ki 5000)]),[]⟩,⟨Iq 10 (.build [Ze,(.int .u8 0),Zf,Zs,Zf,Zs] [(0,1,(.k (.string ⟨#[109,101,97,108,115]⟩))),(1,1,(.k (.int .u8 4))),(2,4,T9)]),[6]⟩,⟨Iq 11 (.call 84 [(Ki 10000)]),[6]⟩,⟨Iq 12 (.build [Ze,(.int .u8 0),Zf,Zs,Zf,Zs] [(0,1,(.k (.string ⟨#[103,105,102,116,115]⟩))),(1,1,(.k (.int .u8 5))),(2,4,pO)]),[8]⟩,⟨Iq 13 (.call 26 [(Ki 2),(Ki 1)]),[8]⟩,⟨Iq 14 (.build [Ze,(.int .u8 0),Zf,Zs,Zf,Zs] [(0,1,(.k (.string ⟨#[97,100,115]⟩))),(1,1,(.k (.int .u8 6))),(2,4,uY)]),[10]⟩,⟨Iq 15 (Lt 4 T1),[]⟩,⟨Iq 16 (.build [Ze,(.int .u8 0),Zf,Zs,Zf,Zs] [(0,1,(.k (.string ⟨#[100,101,112]⟩))),(1,1,(.k (.int .u8 7))),(2,4,vB)]),[12]⟩,⟨Iq 17 (Lt 4 T1),[]⟩,⟨Iq 18 (.build [Ze,(.int .u8 0),Zf,Zs,Zf,Zs] [(0,1,(.k (.string ⟨#[105,110,116,45,105,110]⟩))),(1,1,(.k (.int .u8 8))),(2,4,yM)]),[14]⟩,⟨Iq 19 (Lt 4 T1),[]⟩,⟨Iq 20 (.build [Ze,(.int .u8 0),Zf,Zs,Zf,Zs] [(0,1,(.k (.string ⟨#[105,110,116,45,111,117,116]⟩))),(1,1,(.k (.int .u8 9))),(2,4,yB)]),[16]⟩,⟨Iq 21 (Lt 4 T1),[]⟩,⟨Iq 22 (.build [Ze,(.int .u8 0),Zf,Zs,Zf,Zs] [(0,1,(.k (.string ⟨#[100,105,118]⟩))),(1,1,(.k (.int .u8 10))),(2,4,Ce)]),[18]⟩,⟨Iq 23 (Lt 4 T1),[]⟩,⟨Iq 24 (.build [Ze,(.int .u8 0),Zf,Zs,Zf,Zs] [(0,1,(.k (.string ⟨#[100,105,115,116]⟩))),(1,1,(.k (.int .u8 11))),(2,4,Eh)]),[20]⟩,⟨Iq 25 (.bslice 102 6 11 [Ze,(.int .u8 0),Zf,Zs,Zf,Zs] [(0,T4),(1,T6),(2,T8),(3,pU),(4,qC),(5,uE),(6,xJ),(7,wO),(8,zK),(9,By),(10,Dp)]),[1,3,5,7,9,11,13,15,17,19,21]⟩,⟨Im 0 Ef,[22,10,0,1,2,3,4,5,6,7,8,9,10,11,12,13,14,15,16,17,18,19,20,21,22]⟩] [0,1,0,4,0,16,0,64,64,320,320,1344,0,4096,0,16384,0,65536,0,262144,0,1048576,4194303,8388607])
 .ret)))
def bMT : FE := ⟨26, y86, [.t 0]⟩
theorem bTq : iI Tryz.prog 86 bMT := iI.mk1 Tryz.func86
end Go.Proofs.YtcnpoojdochapaaGreatDoor
