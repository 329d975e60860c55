/- The code of the functions that are walked through, found in the program. -/
import Derived.Test.YtlceligcgelbdaaGreatChecked
import Derived.KernelRfl
import Derived.WalkKit
import Derived.Orders
import Derived.Test.YtlceligcgelbdaaGreatJA6
set_option linter.unusedVariables false
set_option maxRecDepth 100000
set_option maxHeartbeats 4000000
namespace Go.Proofs.YtlceligcgelbdaaGreat
open Go.CE Go.RowKit
abbrev K0 : Nat := 18446744073709551616
theorem aC {P : Program} {f : Nat} {e : FE} {l : List (Nat × FE)} (h : FOk P f e) (g : ∀ p, p ∈ l → FOk P p.1 p.2) : ∀ p, p ∈ (f, e) :: l → FOk P p.1 p.2 := by
  intro p hp
  rcases List.mem_cons.1 hp with rfl | hp
  · exact h
  · exact g p hp
def ge3 : Fc Tryz.prog Tryz.f3 := .m _
theorem oks3 : FOk Tryz.prog 3 ge3.e := ge3.ok Tryz.func3
def ge4 : Fc Tryz.prog Tryz.f4 := .m _
theorem oks4 : FOk Tryz.prog 4 ge4.e := ge4.ok Tryz.func4
def ge5 : Fc Tryz.prog Tryz.f5 := .m _
theorem oks5 : FOk Tryz.prog 5 ge5.e := ge5.ok Tryz.func5
def ge6 : Fc Tryz.prog Tryz.f6 := .m _
theorem oks6 : FOk Tryz.prog 6 ge6.e := ge6.ok Tryz.func6
def ge11 : Fc Tryz.prog Tryz.f11 := .m _
theorem oks11 : FOk Tryz.prog 11 ge11.e := ge11.ok Tryz.func11
def ge12 : Fc Tryz.prog Tryz.f12 := .m _
theorem oks12 : FOk Tryz.prog 12 ge12.e := ge12.ok Tryz.func12
def ge13 : Fc Tryz.prog Tryz.f13 := .m _
theorem oks13 : FOk Tryz.prog 13 ge13.e := ge13.ok Tryz.func13
def ge14 : Fc Tryz.prog Tryz.f14 := .m _
theorem oks14 : FOk Tryz.prog 14 ge14.e := ge14.ok Tryz.func14
def ge15 : Fc Tryz.prog Tryz.f15 := .m _
theorem oks15 : FOk Tryz.prog 15 ge15.e := ge15.ok Tryz.func15
def ge16 : Fc Tryz.prog Tryz.f16 := .m _
theorem oks16 : FOk Tryz.prog 16 ge16.e := ge16.ok Tryz.func16
def ge17 : Fc Tryz.prog Tryz.f17 := .m _
theorem oks17 : FOk Tryz.prog 17 ge17.e := ge17.ok Tryz.func17
def ge18 : Fc Tryz.prog Tryz.f18 := .m _
theorem oks18 : FOk Tryz.prog 18 ge18.e := ge18.ok Tryz.func18
def ge19 : Fc Tryz.prog Tryz.f19 := .m _
theorem oks19 : FOk Tryz.prog 19 ge19.e := ge19.ok Tryz.func19
def ge20 : Fc Tryz.prog Tryz.f20 := .m _
theorem oks20 : FOk Tryz.prog 20 ge20.e := ge20.ok Tryz.func20
def ge21 : Fc Tryz.prog Tryz.f21 := .m _
theorem oks21 : FOk Tryz.prog 21 ge21.e := ge21.ok Tryz.func21
def ge22 : Fc Tryz.prog Tryz.f22 := .m _
theorem oks22 : FOk Tryz.prog 22 ge22.e := ge22.ok Tryz.func22
def ge23 : Fc Tryz.prog Tryz.f23 := .m _
theorem oks23 : FOk Tryz.prog 23 ge23.e := ge23.ok Tryz.func23
def ge24 : Fc Tryz.prog Tryz.f24 := .m _
theorem oks24 : FOk Tryz.prog 24 ge24.e := ge24.ok Tryz.func24
def ge25 : Fc Tryz.prog Tryz.f25 := .m _
theorem oks25 : FOk Tryz.prog 25 ge25.e := ge25.ok Tryz.func25
def ge26 : Fc Tryz.prog Tryz.f26 := .m _
theorem oks26 : FOk Tryz.prog 26 ge26.e := ge26.ok Tryz.func26
def ge27 : Fc Tryz.prog Tryz.f27 := .m _
theorem oks27 : FOk Tryz.prog 27 ge27.e := ge27.ok Tryz.func27
def ge28 : Fc Tryz.prog Tryz.f28 := .m _
theorem oks28 : FOk Tryz.prog 28 ge28.e := ge28.ok Tryz.func28
def ge29 : Fc Tryz.prog Tryz.f29 := .m _
theorem oks29 : FOk Tryz.prog 29 ge29.e := ge29.ok Tryz.func29
def ge30 : Fc Tryz.prog Tryz.f30 := .m _
theorem oks30 : FOk Tryz.prog 30 ge30.e := ge30.ok Tryz.func30
def ge31 : Fc Tryz.prog Tryz.f31 := .m _
theorem oks31 : FOk Tryz.prog 31 ge31.e := ge31.ok Tryz.func31
def ge32 : Fc Tryz.prog Tryz.f32 := .m _
theorem oks32 : FOk Tryz.prog 32 ge32.e := ge32.ok Tryz.func32
def ge33 : Fc Tryz.prog Tryz.f33 := .m _
theorem oks33 : FOk Tryz.prog 33 ge33.e := ge33.ok Tryz.func33
def ge34 : Fc Tryz.prog Tryz.f34 := .m _
theorem oks34 : FOk Tryz.prog 34 ge34.e := ge34.ok Tryz.func34
def ge35 : Fc Tryz.prog Tryz.f35 := .m _
theorem oks35 : FOk Tryz.prog 35 ge35.e := ge35.ok Tryz.func35
def ge36 : Fc Tryz.prog Tryz.f36 := .m _
theorem oks36 : FOk Tryz.prog 36 ge36.e := ge36.ok Tryz.func36
def ge37 : Fc Tryz.prog Tryz.f37 := .m _
theorem oks37 : FOk Tryz.prog 37 ge37.e := ge37.ok Tryz.func37
def ge38 : Fc Tryz.prog Tryz.f38 := .m _
theorem oks38 : FOk Tryz.prog 38 ge38.e := ge38.ok Tryz.func38
def ge39 : Fc Tryz.prog Tryz.f39 := .m _
theorem oks39 : FOk Tryz.prog 39 ge39.e := ge39.ok Tryz.func39
def ge40 : Fc Tryz.prog Tryz.f40 := .m _
theorem oks40 : FOk Tryz.prog 40 ge40.e := ge40.ok Tryz.func40
def ge48 : Fc Tryz.prog Tryz.f48 := .m _
theorem oks48 : FOk Tryz.prog 48 ge48.e := ge48.ok Tryz.func48
def ge57 : Fc Tryz.prog Tryz.f57 := .m _
theorem oks57 : FOk Tryz.prog 57 ge57.e := ge57.ok Tryz.func57
def ge59 : Fc Tryz.prog Tryz.f59 := .m _
theorem oks59 : FOk Tryz.prog 59 ge59.e := ge59.ok Tryz.func59
def ge60 : Fc Tryz.prog Tryz.f60 := .m _
theorem oks60 : FOk Tryz.prog 60 ge60.e := ge60.ok Tryz.func60
def ge61 : Fc Tryz.prog Tryz.f61 := .m _
theorem oks61 : FOk Tryz.prog 61 ge61.e := ge61.ok Tryz.func61
def ge62 : Fc Tryz.prog Tryz.f62 := .m _
theorem oks62 : FOk Tryz.prog 62 ge62.e := ge62.ok Tryz.func62
def ge63 : Fc Tryz.prog Tryz.f63 := .m _
theorem oks63 : FOk Tryz.prog 63 ge63.e := ge63.ok Tryz.func63
def ge64 : Fc Tryz.prog Tryz.f64 := .m _
theorem oks64 : FOk Tryz.prog 64 ge64.e := ge64.ok Tryz.func64
def ge65 : Fc Tryz.prog Tryz.f65 := .m _
theorem oks65 : FOk Tryz.prog 65 ge65.e := ge65.ok Tryz.func65
def ge66 : Fc Tryz.prog Tryz.f66 := .m _
theorem oks66 : FOk Tryz.prog 66 ge66.e := ge66.ok Tryz.func66
def ge67 : Fc Tryz.prog Tryz.f67 := .m _
theorem oks67 : FOk Tryz.prog 67 ge67.e := ge67.ok Tryz.func67
def ge68 : Fc Tryz.prog Tryz.f68 := .m _
theorem oks68 : FOk Tryz.prog 68 ge68.e := ge68.ok Tryz.func68
def ge69 : Fc Tryz.prog Tryz.f69 := .m _
theorem oks69 : FOk Tryz.prog 69 ge69.e := ge69.ok Tryz.func69
def ge70 : Fc Tryz.prog Tryz.f70 := .m _
theorem oks70 : FOk Tryz.prog 70 ge70.e := ge70.ok Tryz.func70
def ge71 : Fc Tryz.prog Tryz.f71 := .m _
theorem oks71 : FOk Tryz.prog 71 ge71.e := ge71.ok Tryz.func71
def ge72 : Fc Tryz.prog Tryz.f72 := .m _
theorem oks72 : FOk Tryz.prog 72 ge72.e := ge72.ok Tryz.func72
def ge73 : Fc Tryz.prog Tryz.f73 := .m _
theorem oks73 : FOk Tryz.prog 73 ge73.e := ge73.ok Tryz.func73
def ge74 : Fc Tryz.prog Tryz.f74 := .m _
theorem oks74 : FOk Tryz.prog 74 ge74.e := ge74.ok Tryz.func74
def ge75 : Fc Tryz.prog Tryz.f75 := .m _
theorem oks75 : FOk Tryz.prog 75 ge75.e := ge75.ok Tryz.func75
def ge76 : Fc Tryz.prog Tryz.f76 := .m _
theorem oks76 : FOk Tryz.prog 76 ge76.e := ge76.ok Tryz.func76
def ge77 : Fc Tryz.prog Tryz.f77 := .m _
theorem oks77 : FOk Tryz.prog 77 ge77.e := ge77.ok Tryz.func77
def ge78 : Fc Tryz.prog Tryz.f78 := .m _
theorem oks78 : FOk Tryz.prog 78 ge78.e := ge78.ok Tryz.func78
def ge79 : Fc Tryz.prog Tryz.f79 := .m _
theorem oks79 : FOk Tryz.prog 79 ge79.e := ge79.ok Tryz.func79
def ge80 : Fc Tryz.prog Tryz.f80 := .m _
theorem oks80 : FOk Tryz.prog 80 ge80.e := ge80.ok Tryz.func80
def ge82 : Fc Tryz.prog Tryz.f82 := .m _
theorem oks82 : FOk Tryz.prog 82 ge82.e := ge82.ok Tryz.func82
def ge83 : Fc Tryz.prog Tryz.f83 := .m _
theorem oks83 : FOk Tryz.prog 83 ge83.e := ge83.ok Tryz.func83
def ge84 : Fc Tryz.prog Tryz.f84 := .m _
theorem oks84 : FOk Tryz.prog 84 ge84.e := ge84.ok Tryz.func84
def ge85 : Fc Tryz.prog Tryz.f85 := .m _
theorem oks85 : FOk Tryz.prog 85 ge85.e := ge85.ok Tryz.func85
def ge86 : Fc Tryz.prog Tryz.f86 := .m _
theorem oks86 : FOk Tryz.prog 86 ge86.e := ge86.ok Tryz.func86
def ge87 : Fc Tryz.prog Tryz.f87 := .m _
theorem oks87 : FOk Tryz.prog 87 ge87.e := ge87.ok Tryz.func87
def ge88 : Fc Tryz.prog Tryz.f88 := .m _
theorem oks88 : FOk Tryz.prog 88 ge88.e := ge88.ok Tryz.func88
def ge89 : Fc Tryz.prog Tryz.f89 := .m _
theorem oks89 : FOk Tryz.prog 89 ge89.e := ge89.ok Tryz.func89
def ge90 : Fc Tryz.prog Tryz.f90 := .m _
theorem oks90 : FOk Tryz.prog 90 ge90.e := ge90.ok Tryz.func90
def ge100 : Fc Tryz.prog Tryz.f100 := .m _
theorem oks100 : FOk Tryz.prog 100 ge100.e := ge100.ok Tryz.func100
def ge111 : Fc Tryz.prog Tryz.f111 := .m _
theorem oks111 : FOk Tryz.prog 111 ge111.e := ge111.ok Tryz.func111
def ge124 : Fc Tryz.prog Tryz.f124 := .m _
theorem oks124 : FOk Tryz.prog 124 ge124.e := ge124.ok Tryz.func124
def ge125 : Fc Tryz.prog Tryz.f125 := .m _
theorem oks125 : FOk Tryz.prog 125 ge125.e := ge125.ok Tryz.func125
def ge126 : Fc Tryz.prog Tryz.f126 := .m _
theorem oks126 : FOk Tryz.prog 126 ge126.e := ge126.ok Tryz.func126
def ge127 : Fc Tryz.prog Tryz.f127 := .m _
theorem oks127 : FOk Tryz.prog 127 ge127.e := ge127.ok Tryz.func127
def ge128 : Fc Tryz.prog Tryz.f128 := .m _
theorem oks128 : FOk Tryz.prog 128 ge128.e := ge128.ok Tryz.func128
def ge129 : Fc Tryz.prog Tryz.f129 := .m _
theorem oks129 : FOk Tryz.prog 129 ge129.e := ge129.ok Tryz.func129
def ge130 : Fc Tryz.prog Tryz.f130 := .m _
theorem oks130 : FOk Tryz.prog 130 ge130.e := ge130.ok Tryz.func130
def ge131 : Fc Tryz.prog Tryz.f131 := .m _
theorem oks131 : FOk Tryz.prog 131 ge131.e := ge131.ok Tryz.func131
def ge132 : Fc Tryz.prog Tryz.f132 := .m _
theorem oks132 : FOk Tryz.prog 132 ge132.e := ge132.ok Tryz.func132
def ge133 : Fc Tryz.prog Tryz.f133 := .m _
theorem oks133 : FOk Tryz.prog 133 ge133.e := ge133.ok Tryz.func133
def ge134 : Fc Tryz.prog Tryz.f134 := .m _
theorem oks134 : FOk Tryz.prog 134 ge134.e := ge134.ok Tryz.func134
def ge135 : Fc Tryz.prog Tryz.f135 := .m _
theorem oks135 : FOk Tryz.prog 135 ge135.e := ge135.ok Tryz.func135
def ge136 : Fc Tryz.prog Tryz.f136 := .m _
theorem oks136 : FOk Tryz.prog 136 ge136.e := ge136.ok Tryz.func136
def ge137 : Fc Tryz.prog Tryz.f137 := .m _
theorem oks137 : FOk Tryz.prog 137 ge137.e := ge137.ok Tryz.func137
def ge138 : Fc Tryz.prog Tryz.f138 := .m _
theorem oks138 : FOk Tryz.prog 138 ge138.e := ge138.ok Tryz.func138
def ge139 : Fc Tryz.prog Tryz.f139 := .m _
theorem oks139 : FOk Tryz.prog 139 ge139.e := ge139.ok Tryz.func139
def ge140 : Fc Tryz.prog Tryz.f140 := .m _
theorem oks140 : FOk Tryz.prog 140 ge140.e := ge140.ok Tryz.func140
def ge141 : Fc Tryz.prog Tryz.f141 := .m _
theorem oks141 : FOk Tryz.prog 141 ge141.e := ge141.ok Tryz.func141
def ge142 : Fc Tryz.prog Tryz.f142 := .m _
theorem oks142 : FOk Tryz.prog 142 ge142.e := ge142.ok Tryz.func142
def ge143 : Fc Tryz.prog Tryz.f143 := .m _
theorem oks143 : FOk Tryz.prog 143 ge143.e := ge143.ok Tryz.func143
def ge144 : Fc Tryz.prog Tryz.f144 := .m _
theorem oks144 : FOk Tryz.prog 144 ge144.e := ge144.ok Tryz.func144
def ge145 : Fc Tryz.prog Tryz.f145 := .m _
theorem oks145 : FOk Tryz.prog 145 ge145.e := ge145.ok Tryz.func145
def ge146 : Fc Tryz.prog Tryz.f146 := .m _
theorem oks146 : FOk Tryz.prog 146 ge146.e := ge146.ok Tryz.func146
def ge147 : Fc Tryz.prog Tryz.f147 := .m _
theorem oks147 : FOk Tryz.prog 147 ge147.e := ge147.ok Tryz.func147
def ge148 : Fc Tryz.prog Tryz.f148 := .m _
theorem oks148 : FOk Tryz.prog 148 ge148.e := ge148.ok Tryz.func148
def ge149 : Fc Tryz.prog Tryz.f149 := .m _
theorem oks149 : FOk Tryz.prog 149 ge149.e := ge149.ok Tryz.func149
def ge150 : Fc Tryz.prog Tryz.f150 := .m _
theorem oks150 : FOk Tryz.prog 150 ge150.e := ge150.ok Tryz.func150
def ge151 : Fc Tryz.prog Tryz.f151 := .m _
theorem oks151 : FOk Tryz.prog 151 ge151.e := ge151.ok Tryz.func151
def ge152 : Fc Tryz.prog Tryz.f152 := .m _
theorem oks152 : FOk Tryz.prog 152 ge152.e := ge152.ok Tryz.func152
def ge153 : Fc Tryz.prog Tryz.f153 := .m _
theorem oks153 : FOk Tryz.prog 153 ge153.e := ge153.ok Tryz.func153
def ge154 : Fc Tryz.prog Tryz.f154 := .m _
theorem oks154 : FOk Tryz.prog 154 ge154.e := ge154.ok Tryz.func154
def ge155 : Fc Tryz.prog Tryz.f155 := .m _
theorem oks155 : FOk Tryz.prog 155 ge155.e := ge155.ok Tryz.func155
def ge156 : Fc Tryz.prog Tryz.f156 := .m _
theorem oks156 : FOk Tryz.prog 156 ge156.e := ge156.ok Tryz.func156
def ge157 : Fc Tryz.prog Tryz.f157 := .m _
theorem oks157 : FOk Tryz.prog 157 ge157.e := ge157.ok Tryz.func157
def ge158 : Fc Tryz.prog Tryz.f158 := .m _
theorem oks158 : FOk Tryz.prog 158 ge158.e := ge158.ok Tryz.func158
def ge159 : Fc Tryz.prog Tryz.f159 := .m _
theorem oks159 : FOk Tryz.prog 159 ge159.e := ge159.ok Tryz.func159
def ge160 : Fc Tryz.prog Tryz.f160 := .m _
theorem oks160 : FOk Tryz.prog 160 ge160.e := ge160.ok Tryz.func160
def ge161 : Fc Tryz.prog Tryz.f161 := .m _
theorem oks161 : FOk Tryz.prog 161 ge161.e := ge161.ok Tryz.func161
def ge162 : Fc Tryz.prog Tryz.f162 := .m _
theorem oks162 : FOk Tryz.prog 162 ge162.e := ge162.ok Tryz.func162
def ge163 : Fc Tryz.prog Tryz.f163 := .m _
theorem oks163 : FOk Tryz.prog 163 ge163.e := ge163.ok Tryz.func163
def ge164 : Fc Tryz.prog Tryz.f164 := .m _
theorem oks164 : FOk Tryz.prog 164 ge164.e := ge164.ok Tryz.func164
def ge165 : Fc Tryz.prog Tryz.f165 := .m _
theorem oks165 : FOk Tryz.prog 165 ge165.e := ge165.ok Tryz.func165
def ge166 : Fc Tryz.prog Tryz.f166 := .m _
theorem oks166 : FOk Tryz.prog 166 ge166.e := ge166.ok Tryz.func166
def ge167 : Fc Tryz.prog Tryz.f167 := .m _
theorem oks167 : FOk Tryz.prog 167 ge167.e := ge167.ok Tryz.func167
def ge168 : Fc Tryz.prog Tryz.f168 := .m _
theorem oks168 : FOk Tryz.prog 168 ge168.e := ge168.ok Tryz.func168
def ge169 : Fc Tryz.prog Tryz.f169 := .m _
theorem oks169 : FOk Tryz.prog 169 ge169.e := ge169.ok Tryz.func169
def ge170 : Fc Tryz.prog Tryz.f170 := .m _
theorem oks170 : FOk Tryz.prog 170 ge170.e := ge170.ok Tryz.func170
def ge171 : Fc Tryz.prog Tryz.f171 := .m _
theorem oks171 : FOk Tryz.prog 171 ge171.e := ge171.ok Tryz.func171
def ge192 : Fc Tryz.prog Tryz.f192 := .m _
theorem oks192 : FOk Tryz.prog 192 ge192.e := ge192.ok Tryz.func192
def ge209 : Fc Tryz.prog Tryz.f209 := .m _
theorem oks209 : FOk Tryz.prog 209 ge209.e := ge209.ok Tryz.func209
def ge210 : Fc Tryz.prog Tryz.f210 := .m _
theorem oks210 : FOk Tryz.prog 210 ge210.e := ge210.ok Tryz.func210
def ge211 : Fc Tryz.prog Tryz.f211 := .m _
theorem oks211 : FOk Tryz.prog 211 ge211.e := ge211.ok Tryz.func211
def ge212 : Fc Tryz.prog Tryz.f212 := .m _
theorem oks212 : FOk Tryz.prog 212 ge212.e := ge212.ok Tryz.func212
def ge213 : Fc Tryz.prog Tryz.f213 := .m _
theorem oks213 : FOk Tryz.prog 213 ge213.e := ge213.ok Tryz.func213
def ge214 : Fc Tryz.prog Tryz.f214 := .m _
theorem oks214 : FOk Tryz.prog 214 ge214.e := ge214.ok Tryz.func214
def ge215 : Fc Tryz.prog Tryz.f215 := .m _
theorem oks215 : FOk Tryz.prog 215 ge215.e := ge215.ok Tryz.func215
def ge216 : Fc Tryz.prog Tryz.f216 := .m _
theorem oks216 : FOk Tryz.prog 216 ge216.e := ge216.ok Tryz.func216
def ge217 : Fc Tryz.prog Tryz.f217 := .m _
theorem oks217 : FOk Tryz.prog 217 ge217.e := ge217.ok Tryz.func217
def ge218 : Fc Tryz.prog Tryz.f218 := .m _
theorem oks218 : FOk Tryz.prog 218 ge218.e := ge218.ok Tryz.func218
def ge219 : Fc Tryz.prog Tryz.f219 := .m _
theorem oks219 : FOk Tryz.prog 219 ge219.e := ge219.ok Tryz.func219
def ge220 : Fc Tryz.prog Tryz.f220 := .m _
theorem oks220 : FOk Tryz.prog 220 ge220.e := ge220.ok Tryz.func220
def ge221 : Fc Tryz.prog Tryz.f221 := .m _
theorem oks221 : FOk Tryz.prog 221 ge221.e := ge221.ok Tryz.func221
def ge222 : Fc Tryz.prog Tryz.f222 := .m _
theorem oks222 : FOk Tryz.prog 222 ge222.e := ge222.ok Tryz.func222
def ge223 : Fc Tryz.prog Tryz.f223 := .m _
theorem oks223 : FOk Tryz.prog 223 ge223.e := ge223.ok Tryz.func223
def ge224 : Fc Tryz.prog Tryz.f224 := .m _
theorem oks224 : FOk Tryz.prog 224 ge224.e := ge224.ok Tryz.func224
def ge225 : Fc Tryz.prog Tryz.f225 := .m _
theorem oks225 : FOk Tryz.prog 225 ge225.e := ge225.ok Tryz.func225
def ge226 : Fc Tryz.prog Tryz.f226 := .m _
theorem oks226 : FOk Tryz.prog 226 ge226.e := ge226.ok Tryz.func226
def ge227 : Fc Tryz.prog Tryz.f227 := .m _
theorem oks227 : FOk Tryz.prog 227 ge227.e := ge227.ok Tryz.func227
def ge228 : Fc Tryz.prog Tryz.f228 := .m _
theorem oks228 : FOk Tryz.prog 228 ge228.e := ge228.ok Tryz.func228
def ge229 : Fc Tryz.prog Tryz.f229 := .m _
theorem oks229 : FOk Tryz.prog 229 ge229.e := ge229.ok Tryz.func229
def ge230 : Fc Tryz.prog Tryz.f230 := .m _
theorem oks230 : FOk Tryz.prog 230 ge230.e := ge230.ok Tryz.func230
def ge231 : Fc Tryz.prog Tryz.f231 := .m _
theorem oks231 : FOk Tryz.prog 231 ge231.e := ge231.ok Tryz.func231
def ge232 : Fc Tryz.prog Tryz.f232 := .m _
theorem oks232 : FOk Tryz.prog 232 ge232.e := ge232.ok Tryz.func232
def ge233 : Fc Tryz.prog Tryz.f233 := .m _
theorem oks233 : FOk Tryz.prog 233 ge233.e := ge233.ok Tryz.func233
def ge234 : Fc Tryz.prog Tryz.f234 := .m _
theorem oks234 : FOk Tryz.prog 234 ge234.e := ge234.ok Tryz.func234
def ge235 : Fc Tryz.prog Tryz.f235 := .m _
theorem oks235 : FOk Tryz.prog 235 ge235.e := ge235.ok Tryz.func235
def ge236 : Fc Tryz.prog Tryz.f236 := .m _
theorem oks236 : FOk Tryz.prog 236 ge236.e := ge236.ok Tryz.func236
def ge237 : Fc Tryz.prog Tryz.f237 := .m _
theorem oks237 : FOk Tryz.prog 237 ge237.e := ge237.ok Tryz.func237
def ge238 : Fc Tryz.prog Tryz.f238 := .m _
theorem oks238 : FOk Tryz.prog 238 ge238.e := ge238.ok Tryz.func238
def ge239 : Fc Tryz.prog Tryz.f239 := .m _
theorem oks239 : FOk Tryz.prog 239 ge239.e := ge239.ok Tryz.func239
def ge240 : Fc Tryz.prog Tryz.f240 := .m _
theorem oks240 : FOk Tryz.prog 240 ge240.e := ge240.ok Tryz.func240
def ge241 : Fc Tryz.prog Tryz.f241 := .m _
theorem oks241 : FOk Tryz.prog 241 ge241.e := ge241.ok Tryz.func241
def ge242 : Fc Tryz.prog Tryz.f242 := .m _
theorem oks242 : FOk Tryz.prog 242 ge242.e := ge242.ok Tryz.func242
def ge243 : Fc Tryz.prog Tryz.f243 := .m _
theorem oks243 : FOk Tryz.prog 243 ge243.e := ge243.ok Tryz.func243
def ge258 : Fc Tryz.prog Tryz.f258 := .m _
theorem oks258 : FOk Tryz.prog 258 ge258.e := ge258.ok Tryz.func258
def ge265 : Fc Tryz.prog Tryz.f265 := .m _
theorem oks265 : FOk Tryz.prog 265 ge265.e := ge265.ok Tryz.func265
def ge266 : Fc Tryz.prog Tryz.f266 := .m _
theorem oks266 : FOk Tryz.prog 266 ge266.e := ge266.ok Tryz.func266
def ge267 : Fc Tryz.prog Tryz.f267 := .m _
theorem oks267 : FOk Tryz.prog 267 ge267.e := ge267.ok Tryz.func267
def ge268 : Fc Tryz.prog Tryz.f268 := .m _
theorem oks268 : FOk Tryz.prog 268 ge268.e := ge268.ok Tryz.func268
def ge269 : Fc Tryz.prog Tryz.f269 := .m _
theorem oks269 : FOk Tryz.prog 269 ge269.e := ge269.ok Tryz.func269
def ge270 : Fc Tryz.prog Tryz.f270 := .m _
theorem oks270 : FOk Tryz.prog 270 ge270.e := ge270.ok Tryz.func270
def ge271 : Fc Tryz.prog Tryz.f271 := .m _
theorem oks271 : FOk Tryz.prog 271 ge271.e := ge271.ok Tryz.func271
def ge272 : Fc Tryz.prog Tryz.f272 := .m _
theorem oks272 : FOk Tryz.prog 272 ge272.e := ge272.ok Tryz.func272
def ge273 : Fc Tryz.prog Tryz.f273 := .m _
theorem oks273 : FOk Tryz.prog 273 ge273.e := ge273.ok Tryz.func273
def ge274 : Fc Tryz.prog Tryz.f274 := .m _
theorem oks274 : FOk Tryz.prog 274 ge274.e := ge274.ok Tryz.func274
def ge275 : Fc Tryz.prog Tryz.f275 := .m _
theorem oks275 : FOk Tryz.prog 275 ge275.e := ge275.ok Tryz.func275
def ge276 : Fc Tryz.prog Tryz.f276 := .m _
theorem oks276 : FOk Tryz.prog 276 ge276.e := ge276.ok Tryz.func276
def ge277 : Fc Tryz.prog Tryz.f277 := .m _
theorem oks277 : FOk Tryz.prog 277 ge277.e := ge277.ok Tryz.func277
def ge278 : Fc Tryz.prog Tryz.f278 := .m _
theorem oks278 : FOk Tryz.prog 278 ge278.e := ge278.ok Tryz.func278
def ge279 : Fc Tryz.prog Tryz.f279 := .m _
theorem oks279 : FOk Tryz.prog 279 ge279.e := ge279.ok Tryz.func279
def ge280 : Fc Tryz.prog Tryz.f280 := .m _
theorem oks280 : FOk Tryz.prog 280 ge280.e := ge280.ok Tryz.func280
def ge281 : Fc Tryz.prog Tryz.f281 := .m _
theorem oks281 : FOk Tryz.prog 281 ge281.e := ge281.ok Tryz.func281
def ge297 : Fc Tryz.prog Tryz.f297 := .m _
theorem oks297 : FOk Tryz.prog 297 ge297.e := ge297.ok Tryz.func297
def ge298 : Fc Tryz.prog Tryz.f298 := .m _
theorem oks298 : FOk Tryz.prog 298 ge298.e := ge298.ok Tryz.func298
def ge299 : Fc Tryz.prog Tryz.f299 := .m _
theorem oks299 : FOk Tryz.prog 299 ge299.e := ge299.ok Tryz.func299
def ge300 : Fc Tryz.prog Tryz.f300 := .m _
theorem oks300 : FOk Tryz.prog 300 ge300.e := ge300.ok Tryz.func300
def ge301 : Fc Tryz.prog Tryz.f301 := .m _
theorem oks301 : FOk Tryz.prog 301 ge301.e := ge301.ok Tryz.func301
def ge302 : Fc Tryz.prog Tryz.f302 := .m _
theorem oks302 : FOk Tryz.prog 302 ge302.e := ge302.ok Tryz.func302
def ge303 : Fc Tryz.prog Tryz.f303 := .m _
theorem oks303 : FOk Tryz.prog 303 ge303.e := ge303.ok Tryz.func303
def ge304 : Fc Tryz.prog Tryz.f304 := .m _
theorem oks304 : FOk Tryz.prog 304 ge304.e := ge304.ok Tryz.func304
def ge305 : Fc Tryz.prog Tryz.f305 := .m _
theorem oks305 : FOk Tryz.prog 305 ge305.e := ge305.ok Tryz.func305
def ge306 : Fc Tryz.prog Tryz.f306 := .m _
theorem oks306 : FOk Tryz.prog 306 ge306.e := ge306.ok Tryz.func306
def ge307 : Fc Tryz.prog Tryz.f307 := .m _
theorem oks307 : FOk Tryz.prog 307 ge307.e := ge307.ok Tryz.func307
def ge308 : Fc Tryz.prog Tryz.f308 := .m _
theorem oks308 : FOk Tryz.prog 308 ge308.e := ge308.ok Tryz.func308
def ge313 : Fc Tryz.prog Tryz.f313 := .m _
theorem oks313 : FOk Tryz.prog 313 ge313.e := ge313.ok Tryz.func313
def ge314 : Fc Tryz.prog Tryz.f314 := .m _
theorem oks314 : FOk Tryz.prog 314 ge314.e := ge314.ok Tryz.func314
def ge315 : Fc Tryz.prog Tryz.f315 := .m _
theorem oks315 : FOk Tryz.prog 315 ge315.e := ge315.ok Tryz.func315
def ge316 : Fc Tryz.prog Tryz.f316 := .m _
theorem oks316 : FOk Tryz.prog 316 ge316.e := ge316.ok Tryz.func316
def ge317 : Fc Tryz.prog Tryz.f317 := .m _
theorem oks317 : FOk Tryz.prog 317 ge317.e := ge317.ok Tryz.func317
def ge318 : Fc Tryz.prog Tryz.f318 := .m _
theorem oks318 : FOk Tryz.prog 318 ge318.e := ge318.ok Tryz.func318
def ge319 : Fc Tryz.prog Tryz.f319 := .m _
theorem oks319 : FOk Tryz.prog 319 ge319.e := ge319.ok Tryz.func319
def ge322 : Fc Tryz.prog Tryz.f322 := .m _
theorem oks322 : FOk Tryz.prog 322 ge322.e := ge322.ok Tryz.func322
def ge323 : Fc Tryz.prog Tryz.f323 := .m _
theorem oks323 : FOk Tryz.prog 323 ge323.e := ge323.ok Tryz.func323
def ge58 : Fc Tryz.prog Tryz.f58 [(209, ge209.e.n, ge209.e.x)] := .m _
theorem oks58 : FOk Tryz.prog 58 ge58.e := ge58.ok Tryz.func58
def ge81 : Fc Tryz.prog Tryz.f81 [(239, ge239.e.n, ge239.e.x)] := .m _
theorem oks81 : FOk Tryz.prog 81 ge81.e := ge81.ok Tryz.func81
def tS : List (Nat × FE) := [(3, ge3.e), (4, ge4.e), (5, ge5.e), (6, ge6.e), (11, ge11.e), (12, ge12.e), (13, ge13.e), (14, ge14.e), (15, ge15.e), (16, ge16.e), (17, ge17.e), (18, ge18.e), (19, ge19.e), (20, ge20.e), (21, ge21.e), (22, ge22.e), (23, ge23.e), (24, ge24.e), (25, ge25.e), (26, ge26.e), (27, ge27.e), (28, ge28.e), (29, ge29.e), (30, ge30.e), (31, ge31.e), (32, ge32.e), (33, ge33.e), (34, ge34.e), (35, ge35.e), (36, ge36.e), (37, ge37.e), (38, ge38.e), (39, ge39.e), (40, ge40.e), (48, ge48.e), (57, ge57.e), (59, ge59.e), (60, ge60.e), (61, ge61.e), (62, ge62.e), (63, ge63.e), (64, ge64.e), (65, ge65.e), (66, ge66.e), (67, ge67.e), (68, ge68.e), (69, ge69.e), (70, ge70.e), (71, ge71.e), (72, ge72.e), (73, ge73.e), (74, ge74.e), (75, ge75.e), (76, ge76.e), (77, ge77.e), (78, ge78.e), (79, ge79.e), (80, ge80.e), (82, ge82.e), (83, ge83.e), (84, ge84.e), (85, ge85.e), (86, ge86.e), (87, ge87.e), (88, ge88.e), (89, ge89.e), (90, ge90.e), (100, ge100.e), (111, ge111.e), (124, ge124.e), (125, ge125.e), (126, ge126.e), (127, ge127.e), (128, ge128.e), (129, ge129.e), (130, ge130.e), (131, ge131.e), (132, ge132.e), (133, ge133.e), (134, ge134.e), (135, ge135.e), (136, ge136.e), (137, ge137.e), (138, ge138.e), (139, ge139.e), (140, ge140.e), (141, ge141.e), (142, ge142.e), (143, ge143.e), (144, ge144.e), (145, ge145.e), (146, ge146.e), (147, ge147.e), (148, ge148.e), (149, ge149.e), (150, ge150.e), (151, ge151.e), (152, ge152.e), (153, ge153.e), (154, ge154.e), (155, ge155.e), (156, ge156.e), (157, ge157.e), (158, ge158.e), (159, ge159.e), (160, ge160.e), (161, ge161.e), (162, ge162.e), (163, ge163.e), (164, ge164.e), (165, ge165.e), (166, ge166.e), (167, ge167.e), (168, ge168.e), (169, ge169.e), (170, ge170.e), (171, ge171.e), (192, ge192.e), (209, ge209.e), (210, ge210.e), (211, ge211.e), (212, ge212.e), (213, ge213.e), (214, ge214.e), (215, ge215.e), (216, ge216.e), (217, ge217.e), (218, ge218.e), (219, ge219.e), (220, ge220.e), (221, ge221.e), (222, ge222.e), (223, ge223.e), (224, ge224.e), (225, ge225.e), (226, ge226.e), (227, ge227.e), (228, ge228.e), (229, ge229.e), (230, ge230.e), (231, ge231.e), (232, ge232.e), (233, ge233.e), (234, ge234.e), (235, ge235.e), (236, ge236.e), (237, ge237.e), (238, ge238.e), (239, ge239.e), (240, ge240.e), (241, ge241.e), (242, ge242.e), (243, ge243.e), (258, ge258.e), (265, ge265.e), (266, ge266.e), (267, ge267.e), (268, ge268.e), (269, ge269.e), (270, ge270.e), (271, ge271.e), (272, ge272.e), (273, ge273.e), (274, ge274.e), (275, ge275.e), (276, ge276.e), (277, ge277.e), (278, ge278.e), (279, ge279.e), (280, ge280.e), (281, ge281.e), (297, ge297.e), (298, ge298.e), (299, ge299.e), (300, ge300.e), (301, ge301.e), (302, ge302.e), (303, ge303.e), (304, ge304.e), (305, ge305.e), (306, ge306.e), (307, ge307.e), (308, ge308.e), (313, ge313.e), (314, ge314.e), (315, ge315.e), (316, ge316.e), (317, ge317.e), (318, ge318.e), (319, ge319.e), (322, ge322.e), (323, ge323.e), (58, ge58.e), (81, ge81.e)]
theorem tS_ok : TblOk Tryz.prog (mkT tS) := mkT_ok (aC oks3 (aC oks4 (aC oks5 (aC oks6 (aC oks11 (aC oks12 (aC oks13 (aC oks14 (aC oks15 (aC oks16 (aC oks17 (aC oks18 (aC oks19 (aC oks20 (aC oks21 (aC oks22 (aC oks23 (aC oks24 (aC oks25 (aC oks26 (aC oks27 (aC oks28 (aC oks29 (aC oks30 (aC oks31 (aC oks32 (aC oks33 (aC oks34 (aC oks35 (aC oks36 (aC oks37 (aC oks38 (aC oks39 (aC oks40 (aC oks48 (aC oks57 (aC oks59 (aC oks60 (aC oks61 (aC oks62 (aC oks63 (aC oks64 (aC oks65 (aC oks66 (aC oks67 (aC oks68 (aC oks69 (aC oks70 (aC oks71 (aC oks72 (aC oks73 (aC oks74 (aC oks75 (aC oks76 (aC oks77 (aC oks78 (aC oks79 (aC oks80 (aC oks82 (aC oks83 (aC oks84 (aC oks85 (aC oks86 (aC oks87 (aC oks88 (aC oks89 (aC oks90 (aC oks100 (aC oks111 (aC oks124 (aC oks125 (aC oks126 (aC oks127 (aC oks128 (aC oks129 (aC oks130 (aC oks131 (aC oks132 (aC oks133 (aC oks134 (aC oks135 (aC oks136 (aC oks137 (aC oks138 (aC oks139 (aC oks140 (aC oks141 (aC oks142 (aC oks143 (aC oks144 (aC oks145 (aC oks146 (aC oks147 (aC oks148 (aC oks149 (aC oks150 (aC oks151 (aC oks152 (aC oks153 (aC oks154 (aC oks155 (aC oks156 (aC oks157 (aC oks158 (aC oks159 (aC oks160 (aC oks161 (aC oks162 (aC oks163 (aC oks164 (aC oks165 (aC oks166 (aC oks167 (aC oks168 (aC oks169 (aC oks170 (aC oks171 (aC oks192 (aC oks209 (aC oks210 (aC oks211 (aC oks212 (aC oks213 (aC oks214 (aC oks215 (aC oks216 (aC oks217 (aC oks218 (aC oks219 (aC oks220 (aC oks221 (aC oks222 (aC oks223 (aC oks224 (aC oks225 (aC oks226 (aC oks227 (aC oks228 (aC oks229 (aC oks230 (aC oks231 (aC oks232 (aC oks233 (aC oks234 (aC oks235 (aC oks236 (aC oks237 (aC oks238 (aC oks239 (aC oks240 (aC oks241 (aC oks242 (aC oks243 (aC oks258 (aC oks265 (aC oks266 (aC oks267 (aC oks268 (aC oks269 (aC oks270 (aC oks271 (aC oks272 (aC oks273 (aC oks274 (aC oks275 (aC oks276 (aC oks277 (aC oks278 (aC oks279 (aC oks280 (aC oks281 (aC oks297 (aC oks298 (aC oks299 (aC oks300 (aC oks301 (aC oks302 (aC oks303 (aC oks304 (aC oks305 (aC oks306 (aC oks307 (aC oks308 (aC oks313 (aC oks314 (aC oks315 (aC oks316 (aC oks317 (aC oks318 (aC oks319 (aC oks322 (aC oks323 (aC oks58 (aC oks81 (fun p hp => absurd hp List.not_mem_nil)))))))))))))))))))))))))))))))))))))))))))))))))))))))))))))))))))))))))))))))))))))))))))))))))))))))))))))))))))))))))))))))))))))))))))))))))))))))))))))))))))))))))))))))))))))))))))))))))))
theorem rgs3 : ∀ p ∈ ge3.e.x.rgs, FOk Tryz.prog p.1 p.2 := ge3.rg0
theorem rgs4 : ∀ p ∈ ge4.e.x.rgs, FOk Tryz.prog p.1 p.2 := ge4.rg0
theorem rgs5 : ∀ p ∈ ge5.e.x.rgs, FOk Tryz.prog p.1 p.2 := ge5.rg0
theorem rgs6 : ∀ p ∈ ge6.e.x.rgs, FOk Tryz.prog p.1 p.2 := ge6.rg0
theorem rgs11 : ∀ p ∈ ge11.e.x.rgs, FOk Tryz.prog p.1 p.2 := ge11.rg0
theorem rgs12 : ∀ p ∈ ge12.e.x.rgs, FOk Tryz.prog p.1 p.2 := ge12.rg0
theorem rgs13 : ∀ p ∈ ge13.e.x.rgs, FOk Tryz.prog p.1 p.2 := ge13.rg0
theorem rgs14 : ∀ p ∈ ge14.e.x.rgs, FOk Tryz.prog p.1 p.2 := ge14.rg0
theorem rgs15 : ∀ p ∈ ge15.e.x.rgs, FOk Tryz.prog p.1 p.2 := ge15.rg0
theorem rgs16 : ∀ p ∈ ge16.e.x.rgs, FOk Tryz.prog p.1 p.2 := ge16.rg0
theorem rgs17 : ∀ p ∈ ge17.e.x.rgs, FOk Tryz.prog p.1 p.2 := ge17.rg0
theorem rgs18 : ∀ p ∈ ge18.e.x.rgs, FOk Tryz.prog p.1 p.2 := ge18.rg0
theorem rgs19 : ∀ p ∈ ge19.e.x.rgs, FOk Tryz.prog p.1 p.2 := ge19.rg0
theorem rgs20 : ∀ p ∈ ge20.e.x.rgs, FOk Tryz.prog p.1 p.2 := ge20.rg0
theorem rgs21 : ∀ p ∈ ge21.e.x.rgs, FOk Tryz.prog p.1 p.2 := ge21.rg0
theorem rgs22 : ∀ p ∈ ge22.e.x.rgs, FOk Tryz.prog p.1 p.2 := ge22.rg0
theorem rgs23 : ∀ p ∈ ge23.e.x.rgs, FOk Tryz.prog p.1 p.2 := ge23.rg0
theorem rgs24 : ∀ p ∈ ge24.e.x.rgs, FOk Tryz.prog p.1 p.2 := ge24.rg0
theorem rgs25 : ∀ p ∈ ge25.e.x.rgs, FOk Tryz.prog p.1 p.2 := ge25.rg0
theorem rgs26 : ∀ p ∈ ge26.e.x.rgs, FOk Tryz.prog p.1 p.2 := ge26.rg0
theorem rgs27 : ∀ p ∈ ge27.e.x.rgs, FOk Tryz.prog p.1 p.2 := ge27.rg0
theorem rgs28 : ∀ p ∈ ge28.e.x.rgs, FOk Tryz.prog p.1 p.2 := ge28.rg0
theorem rgs29 : ∀ p ∈ ge29.e.x.rgs, FOk Tryz.prog p.1 p.2 := ge29.rg0
theorem rgs30 : ∀ p ∈ ge30.e.x.rgs, FOk Tryz.prog p.1 p.2 := ge30.rg0
theorem rgs31 : ∀ p ∈ ge31.e.x.rgs, FOk Tryz.prog p.1 p.2 := ge31.rg0
theorem rgs32 : ∀ p ∈ ge32.e.x.rgs, FOk Tryz.prog p.1 p.2 := ge32.rg0
theorem rgs33 : ∀ p ∈ ge33.e.x.rgs, FOk Tryz.prog p.1 p.2 := ge33.rg0
theorem rgs34 : ∀ p ∈ ge34.e.x.rgs, FOk Tryz.prog p.1 p.2 := ge34.rg0
theorem rgs35 : ∀ p ∈ ge35.e.x.rgs, FOk Tryz.prog p.1 p.2 := ge35.rg0
theorem rgs36 : ∀ p ∈ ge36.e.x.rgs, FOk Tryz.prog p.1 p.2 := ge36.rg0
theorem rgs37 : ∀ p ∈ ge37.e.x.rgs, FOk Tryz.prog p.1 p.2 := ge37.rg0
theorem rgs38 : ∀ p ∈ ge38.e.x.rgs, FOk Tryz.prog p.1 p.2 := ge38.rg0
theorem rgs39 : ∀ p ∈ ge39.e.x.rgs, FOk Tryz.prog p.1 p.2 := ge39.rg0
theorem rgs40 : ∀ p ∈ ge40.e.x.rgs, FOk Tryz.prog p.1 p.2 := ge40.rg0
theorem rgs48 : ∀ p ∈ ge48.e.x.rgs, FOk Tryz.prog p.1 p.2 := ge48.rg0
theorem rgs57 : ∀ p ∈ ge57.e.x.rgs, FOk Tryz.prog p.1 p.2 := ge57.rg0
theorem rgs59 : ∀ p ∈ ge59.e.x.rgs, FOk Tryz.prog p.1 p.2 := ge59.rg0
theorem rgs60 : ∀ p ∈ ge60.e.x.rgs, FOk Tryz.prog p.1 p.2 := ge60.rg0
theorem rgs61 : ∀ p ∈ ge61.e.x.rgs, FOk Tryz.prog p.1 p.2 := ge61.rg0
theorem rgs62 : ∀ p ∈ ge62.e.x.rgs, FOk Tryz.prog p.1 p.2 := ge62.rg0
theorem rgs63 : ∀ p ∈ ge63.e.x.rgs, FOk Tryz.prog p.1 p.2 := ge63.rg0
theorem rgs64 : ∀ p ∈ ge64.e.x.rgs, FOk Tryz.prog p.1 p.2 := ge64.rg0
theorem rgs65 : ∀ p ∈ ge65.e.x.rgs, FOk Tryz.prog p.1 p.2 := ge65.rg0
theorem rgs66 : ∀ p ∈ ge66.e.x.rgs, FOk Tryz.prog p.1 p.2 := ge66.rg0
theorem rgs67 : ∀ p ∈ ge67.e.x.rgs, FOk Tryz.prog p.1 p.2 := ge67.rg0
theorem rgs68 : ∀ p ∈ ge68.e.x.rgs, FOk Tryz.prog p.1 p.2 := ge68.rg0
theorem rgs69 : ∀ p ∈ ge69.e.x.rgs, FOk Tryz.prog p.1 p.2 := ge69.rg0
theorem rgs70 : ∀ p ∈ ge70.e.x.rgs, FOk Tryz.prog p.1 p.2 := ge70.rg0
theorem rgs71 : ∀ p ∈ ge71.e.x.rgs, FOk Tryz.prog p.1 p.2 := ge71.rg0
theorem rgs72 : ∀ p ∈ ge72.e.x.rgs, FOk Tryz.prog p.1 p.2 := ge72.rg0
theorem rgs73 : ∀ p ∈ ge73.e.x.rgs, FOk Tryz.prog p.1 p.2 := ge73.rg0
theorem rgs74 : ∀ p ∈ ge74.e.x.rgs, FOk Tryz.prog p.1 p.2 := ge74.rg0
theorem rgs75 : ∀ p ∈ ge75.e.x.rgs, FOk Tryz.prog p.1 p.2 := ge75.rg0
theorem rgs76 : ∀ p ∈ ge76.e.x.rgs, FOk Tryz.prog p.1 p.2 := ge76.rg0
theorem rgs77 : ∀ p ∈ ge77.e.x.rgs, FOk Tryz.prog p.1 p.2 := ge77.rg0
theorem rgs78 : ∀ p ∈ ge78.e.x.rgs, FOk Tryz.prog p.1 p.2 := ge78.rg0
theorem rgs79 : ∀ p ∈ ge79.e.x.rgs, FOk Tryz.prog p.1 p.2 := ge79.rg0
theorem rgs80 : ∀ p ∈ ge80.e.x.rgs, FOk Tryz.prog p.1 p.2 := ge80.rg0
theorem rgs82 : ∀ p ∈ ge82.e.x.rgs, FOk Tryz.prog p.1 p.2 := ge82.rg0
theorem rgs83 : ∀ p ∈ ge83.e.x.rgs, FOk Tryz.prog p.1 p.2 := ge83.rg0
theorem rgs84 : ∀ p ∈ ge84.e.x.rgs, FOk Tryz.prog p.1 p.2 := ge84.rg0
theorem rgs85 : ∀ p ∈ ge85.e.x.rgs, FOk Tryz.prog p.1 p.2 := ge85.rg0
theorem rgs86 : ∀ p ∈ ge86.e.x.rgs, FOk Tryz.prog p.1 p.2 := ge86.rg0
theorem rgs87 : ∀ p ∈ ge87.e.x.rgs, FOk Tryz.prog p.1 p.2 := ge87.rg0
theorem rgs88 : ∀ p ∈ ge88.e.x.rgs, FOk Tryz.prog p.1 p.2 := ge88.rg0
theorem rgs89 : ∀ p ∈ ge89.e.x.rgs, FOk Tryz.prog p.1 p.2 := ge89.rg0
theorem rgs90 : ∀ p ∈ ge90.e.x.rgs, FOk Tryz.prog p.1 p.2 := ge90.rg0
theorem rgs100 : ∀ p ∈ ge100.e.x.rgs, FOk Tryz.prog p.1 p.2 := ge100.rg0
theorem rgs111 : ∀ p ∈ ge111.e.x.rgs, FOk Tryz.prog p.1 p.2 := ge111.rg0
theorem rgs124 : ∀ p ∈ ge124.e.x.rgs, FOk Tryz.prog p.1 p.2 := ge124.rg0
theorem rgs125 : ∀ p ∈ ge125.e.x.rgs, FOk Tryz.prog p.1 p.2 := ge125.rg0
theorem rgs126 : ∀ p ∈ ge126.e.x.rgs, FOk Tryz.prog p.1 p.2 := ge126.rg0
theorem rgs127 : ∀ p ∈ ge127.e.x.rgs, FOk Tryz.prog p.1 p.2 := ge127.rg0
theorem rgs128 : ∀ p ∈ ge128.e.x.rgs, FOk Tryz.prog p.1 p.2 := ge128.rg0
theorem rgs129 : ∀ p ∈ ge129.e.x.rgs, FOk Tryz.prog p.1 p.2 := ge129.rg0
theorem rgs130 : ∀ p ∈ ge130.e.x.rgs, FOk Tryz.prog p.1 p.2 := ge130.rg0
theorem rgs131 : ∀ p ∈ ge131.e.x.rgs, FOk Tryz.prog p.1 p.2 := ge131.rg0
theorem rgs132 : ∀ p ∈ ge132.e.x.rgs, FOk Tryz.prog p.1 p.2 := ge132.rg0
theorem rgs133 : ∀ p ∈ ge133.e.x.rgs, FOk Tryz.prog p.1 p.2 := ge133.rg0
theorem rgs134 : ∀ p ∈ ge134.e.x.rgs, FOk Tryz.prog p.1 p.2 := ge134.rg0
theorem rgs135 : ∀ p ∈ ge135.e.x.rgs, FOk Tryz.prog p.1 p.2 := ge135.rg0
theorem rgs136 : ∀ p ∈ ge136.e.x.rgs, FOk Tryz.prog p.1 p.2 := ge136.rg0
theorem rgs137 : ∀ p ∈ ge137.e.x.rgs, FOk Tryz.prog p.1 p.2 := ge137.rg0
theorem rgs138 : ∀ p ∈ ge138.e.x.rgs, FOk Tryz.prog p.1 p.2 := ge138.rg0
theorem rgs139 : ∀ p ∈ ge139.e.x.rgs, FOk Tryz.prog p.1 p.2 := ge139.rg0
theorem rgs140 : ∀ p ∈ ge140.e.x.rgs, FOk Tryz.prog p.1 p.2 := ge140.rg0
theorem rgs141 : ∀ p ∈ ge141.e.x.rgs, FOk Tryz.prog p.1 p.2 := ge141.rg0
theorem rgs142 : ∀ p ∈ ge142.e.x.rgs, FOk Tryz.prog p.1 p.2 := ge142.rg0
theorem rgs143 : ∀ p ∈ ge143.e.x.rgs, FOk Tryz.prog p.1 p.2 := ge143.rg0
theorem rgs144 : ∀ p ∈ ge144.e.x.rgs, FOk Tryz.prog p.1 p.2 := ge144.rg0
theorem rgs145 : ∀ p ∈ ge145.e.x.rgs, FOk Tryz.prog p.1 p.2 := ge145.rg0
theorem rgs146 : ∀ p ∈ ge146.e.x.rgs, FOk Tryz.prog p.1 p.2 := ge146.rg0
theorem rgs147 : ∀ p ∈ ge147.e.x.rgs, FOk Tryz.prog p.1 p.2 := ge147.rg0
theorem rgs148 : ∀ p ∈ ge148.e.x.rgs, FOk Tryz.prog p.1 p.2 := ge148.rg0
theorem rgs149 : ∀ p ∈ ge149.e.x.rgs, FOk Tryz.prog p.1 p.2 := ge149.rg0
theorem rgs150 : ∀ p ∈ ge150.e.x.rgs, FOk Tryz.prog p.1 p.2 := ge150.rg0
theorem rgs151 : ∀ p ∈ ge151.e.x.rgs, FOk Tryz.prog p.1 p.2 := ge151.rg0
theorem rgs152 : ∀ p ∈ ge152.e.x.rgs, FOk Tryz.prog p.1 p.2 := ge152.rg0
theorem rgs153 : ∀ p ∈ ge153.e.x.rgs, FOk Tryz.prog p.1 p.2 := ge153.rg0
theorem rgs154 : ∀ p ∈ ge154.e.x.rgs, FOk Tryz.prog p.1 p.2 := ge154.rg0
theorem rgs155 : ∀ p ∈ ge155.e.x.rgs, FOk Tryz.prog p.1 p.2 := ge155.rg0
theorem rgs156 : ∀ p ∈ ge156.e.x.rgs, FOk Tryz.prog p.1 p.2 := ge156.rg0
theorem rgs157 : ∀ p ∈ ge157.e.x.rgs, FOk Tryz.prog p.1 p.2 := ge157.rg0
theorem rgs158 : ∀ p ∈ ge158.e.x.rgs, FOk Tryz.prog p.1 p.2 := ge158.rg0
theorem rgs159 : ∀ p ∈ ge159.e.x.rgs, FOk Tryz.prog p.1 p.2 := ge159.rg0
theorem rgs160 : ∀ p ∈ ge160.e.x.rgs, FOk Tryz.prog p.1 p.2 := ge160.rg0
theorem rgs161 : ∀ p ∈ ge161.e.x.rgs, FOk Tryz.prog p.1 p.2 := ge161.rg0
theorem rgs162 : ∀ p ∈ ge162.e.x.rgs, FOk Tryz.prog p.1 p.2 := ge162.rg0
theorem rgs163 : ∀ p ∈ ge163.e.x.rgs, FOk Tryz.prog p.1 p.2 := ge163.rg0
theorem rgs164 : ∀ p ∈ ge164.e.x.rgs, FOk Tryz.prog p.1 p.2 := ge164.rg0
theorem rgs165 : ∀ p ∈ ge165.e.x.rgs, FOk Tryz.prog p.1 p.2 := ge165.rg0
theorem rgs166 : ∀ p ∈ ge166.e.x.rgs, FOk Tryz.prog p.1 p.2 := ge166.rg0
theorem rgs167 : ∀ p ∈ ge167.e.x.rgs, FOk Tryz.prog p.1 p.2 := ge167.rg0
theorem rgs168 : ∀ p ∈ ge168.e.x.rgs, FOk Tryz.prog p.1 p.2 := ge168.rg0
theorem rgs169 : ∀ p ∈ ge169.e.x.rgs, FOk Tryz.prog p.1 p.2 := ge169.rg0
theorem rgs170 : ∀ p ∈ ge170.e.x.rgs, FOk Tryz.prog p.1 p.2 := ge170.rg0
theorem rgs171 : ∀ p ∈ ge171.e.x.rgs, FOk Tryz.prog p.1 p.2 := ge171.rg0
theorem rgs192 : ∀ p ∈ ge192.e.x.rgs, FOk Tryz.prog p.1 p.2 := ge192.rg0
theorem rgs209 : ∀ p ∈ ge209.e.x.rgs, FOk Tryz.prog p.1 p.2 := ge209.rg0
theorem rgs210 : ∀ p ∈ ge210.e.x.rgs, FOk Tryz.prog p.1 p.2 := ge210.rg0
theorem rgs211 : ∀ p ∈ ge211.e.x.rgs, FOk Tryz.prog p.1 p.2 := ge211.rg0
theorem rgs212 : ∀ p ∈ ge212.e.x.rgs, FOk Tryz.prog p.1 p.2 := ge212.rg0
theorem rgs213 : ∀ p ∈ ge213.e.x.rgs, FOk Tryz.prog p.1 p.2 := ge213.rg0
theorem rgs214 : ∀ p ∈ ge214.e.x.rgs, FOk Tryz.prog p.1 p.2 := ge214.rg0
theorem rgs215 : ∀ p ∈ ge215.e.x.rgs, FOk Tryz.prog p.1 p.2 := ge215.rg0
theorem rgs216 : ∀ p ∈ ge216.e.x.rgs, FOk Tryz.prog p.1 p.2 := ge216.rg0
theorem rgs217 : ∀ p ∈ ge217.e.x.rgs, FOk Tryz.prog p.1 p.2 := ge217.rg0
theorem rgs218 : ∀ p ∈ ge218.e.x.rgs, FOk Tryz.prog p.1 p.2 := ge218.rg0
theorem rgs219 : ∀ p ∈ ge219.e.x.rgs, FOk Tryz.prog p.1 p.2 := ge219.rg0
theorem rgs220 : ∀ p ∈ ge220.e.x.rgs, FOk Tryz.prog p.1 p.2 := ge220.rg0
theorem rgs221 : ∀ p ∈ ge221.e.x.rgs, FOk Tryz.prog p.1 p.2 := ge221.rg0
theorem rgs222 : ∀ p ∈ ge222.e.x.rgs, FOk Tryz.prog p.1 p.2 := ge222.rg0
theorem rgs223 : ∀ p ∈ ge223.e.x.rgs, FOk Tryz.prog p.1 p.2 := ge223.rg0
theorem rgs224 : ∀ p ∈ ge224.e.x.rgs, FOk Tryz.prog p.1 p.2 := ge224.rg0
theorem rgs225 : ∀ p ∈ ge225.e.x.rgs, FOk Tryz.prog p.1 p.2 := ge225.rg0
theorem rgs226 : ∀ p ∈ ge226.e.x.rgs, FOk Tryz.prog p.1 p.2 := ge226.rg0
theorem rgs227 : ∀ p ∈ ge227.e.x.rgs, FOk Tryz.prog p.1 p.2 := ge227.rg0
theorem rgs228 : ∀ p ∈ ge228.e.x.rgs, FOk Tryz.prog p.1 p.2 := ge228.rg0
theorem rgs229 : ∀ p ∈ ge229.e.x.rgs, FOk Tryz.prog p.1 p.2 := ge229.rg0
theorem rgs230 : ∀ p ∈ ge230.e.x.rgs, FOk Tryz.prog p.1 p.2 := ge230.rg0
theorem rgs231 : ∀ p ∈ ge231.e.x.rgs, FOk Tryz.prog p.1 p.2 := ge231.rg0
theorem rgs232 : ∀ p ∈ ge232.e.x.rgs, FOk Tryz.prog p.1 p.2 := ge232.rg0
theorem rgs233 : ∀ p ∈ ge233.e.x.rgs, FOk Tryz.prog p.1 p.2 := ge233.rg0
theorem rgs234 : ∀ p ∈ ge234.e.x.rgs, FOk Tryz.prog p.1 p.2 := ge234.rg0
theorem rgs235 : ∀ p ∈ ge235.e.x.rgs, FOk Tryz.prog p.1 p.2 := ge235.rg0
theorem rgs236 : ∀ p ∈ ge236.e.x.rgs, FOk Tryz.prog p.1 p.2 := ge236.rg0
theorem rgs237 : ∀ p ∈ ge237.e.x.rgs, FOk Tryz.prog p.1 p.2 := ge237.rg0
theorem rgs238 : ∀ p ∈ ge238.e.x.rgs, FOk Tryz.prog p.1 p.2 := ge238.rg0
theorem rgs239 : ∀ p ∈ ge239.e.x.rgs, FOk Tryz.prog p.1 p.2 := ge239.rg0
theorem rgs240 : ∀ p ∈ ge240.e.x.rgs, FOk Tryz.prog p.1 p.2 := ge240.rg0
theorem rgs241 : ∀ p ∈ ge241.e.x.rgs, FOk Tryz.prog p.1 p.2 := ge241.rg0
theorem rgs242 : ∀ p ∈ ge242.e.x.rgs, FOk Tryz.prog p.1 p.2 := ge242.rg0
theorem rgs243 : ∀ p ∈ ge243.e.x.rgs, FOk Tryz.prog p.1 p.2 := ge243.rg0
theorem rgs258 : ∀ p ∈ ge258.e.x.rgs, FOk Tryz.prog p.1 p.2 := ge258.rg0
theorem rgs265 : ∀ p ∈ ge265.e.x.rgs, FOk Tryz.prog p.1 p.2 := ge265.rg0
theorem rgs266 : ∀ p ∈ ge266.e.x.rgs, FOk Tryz.prog p.1 p.2 := ge266.rg0
theorem rgs267 : ∀ p ∈ ge267.e.x.rgs, FOk Tryz.prog p.1 p.2 := ge267.rg0
theorem rgs268 : ∀ p ∈ ge268.e.x.rgs, FOk Tryz.prog p.1 p.2 := ge268.rg0
theorem rgs269 : ∀ p ∈ ge269.e.x.rgs, FOk Tryz.prog p.1 p.2 := ge269.rg0
theorem rgs270 : ∀ p ∈ ge270.e.x.rgs, FOk Tryz.prog p.1 p.2 := ge270.rg0
theorem rgs271 : ∀ p ∈ ge271.e.x.rgs, FOk Tryz.prog p.1 p.2 := ge271.rg0
theorem rgs272 : ∀ p ∈ ge272.e.x.rgs, FOk Tryz.prog p.1 p.2 := ge272.rg0
theorem rgs273 : ∀ p ∈ ge273.e.x.rgs, FOk Tryz.prog p.1 p.2 := ge273.rg0
theorem rgs274 : ∀ p ∈ ge274.e.x.rgs, FOk Tryz.prog p.1 p.2 := ge274.rg0
theorem rgs275 : ∀ p ∈ ge275.e.x.rgs, FOk Tryz.prog p.1 p.2 := ge275.rg0
theorem rgs276 : ∀ p ∈ ge276.e.x.rgs, FOk Tryz.prog p.1 p.2 := ge276.rg0
theorem rgs277 : ∀ p ∈ ge277.e.x.rgs, FOk Tryz.prog p.1 p.2 := ge277.rg0
theorem rgs278 : ∀ p ∈ ge278.e.x.rgs, FOk Tryz.prog p.1 p.2 := ge278.rg0
theorem rgs279 : ∀ p ∈ ge279.e.x.rgs, FOk Tryz.prog p.1 p.2 := ge279.rg0
theorem rgs280 : ∀ p ∈ ge280.e.x.rgs, FOk Tryz.prog p.1 p.2 := ge280.rg0
theorem rgs281 : ∀ p ∈ ge281.e.x.rgs, FOk Tryz.prog p.1 p.2 := ge281.rg0
theorem rgs297 : ∀ p ∈ ge297.e.x.rgs, FOk Tryz.prog p.1 p.2 := ge297.rg0
theorem rgs298 : ∀ p ∈ ge298.e.x.rgs, FOk Tryz.prog p.1 p.2 := ge298.rg0
theorem rgs299 : ∀ p ∈ ge299.e.x.rgs, FOk Tryz.prog p.1 p.2 := ge299.rg0
theorem rgs300 : ∀ p ∈ ge300.e.x.rgs, FOk Tryz.prog p.1 p.2 := ge300.rg0
theorem rgs301 : ∀ p ∈ ge301.e.x.rgs, FOk Tryz.prog p.1 p.2 := ge301.rg0
theorem rgs302 : ∀ p ∈ ge302.e.x.rgs, FOk Tryz.prog p.1 p.2 := ge302.rg0
theorem rgs303 : ∀ p ∈ ge303.e.x.rgs, FOk Tryz.prog p.1 p.2 := ge303.rg0
theorem rgs304 : ∀ p ∈ ge304.e.x.rgs, FOk Tryz.prog p.1 p.2 := ge304.rg0
theorem rgs305 : ∀ p ∈ ge305.e.x.rgs, FOk Tryz.prog p.1 p.2 := ge305.rg0
theorem rgs306 : ∀ p ∈ ge306.e.x.rgs, FOk Tryz.prog p.1 p.2 := ge306.rg0
theorem rgs307 : ∀ p ∈ ge307.e.x.rgs, FOk Tryz.prog p.1 p.2 := ge307.rg0
theorem rgs308 : ∀ p ∈ ge308.e.x.rgs, FOk Tryz.prog p.1 p.2 := ge308.rg0
theorem rgs313 : ∀ p ∈ ge313.e.x.rgs, FOk Tryz.prog p.1 p.2 := ge313.rg0
theorem rgs314 : ∀ p ∈ ge314.e.x.rgs, FOk Tryz.prog p.1 p.2 := ge314.rg0
theorem rgs315 : ∀ p ∈ ge315.e.x.rgs, FOk Tryz.prog p.1 p.2 := ge315.rg0
theorem rgs316 : ∀ p ∈ ge316.e.x.rgs, FOk Tryz.prog p.1 p.2 := ge316.rg0
theorem rgs317 : ∀ p ∈ ge317.e.x.rgs, FOk Tryz.prog p.1 p.2 := ge317.rg0
theorem rgs318 : ∀ p ∈ ge318.e.x.rgs, FOk Tryz.prog p.1 p.2 := ge318.rg0
theorem rgs319 : ∀ p ∈ ge319.e.x.rgs, FOk Tryz.prog p.1 p.2 := ge319.rg0
theorem rgs322 : ∀ p ∈ ge322.e.x.rgs, FOk Tryz.prog p.1 p.2 := ge322.rg0
theorem rgs323 : ∀ p ∈ ge323.e.x.rgs, FOk Tryz.prog p.1 p.2 := ge323.rg0
theorem rgs58 : ∀ p ∈ ge58.e.x.rgs, FOk Tryz.prog p.1 p.2 := ge58.rg (rg_one oks209 rgs209 rg_nil)
theorem rgs81 : ∀ p ∈ ge81.e.x.rgs, FOk Tryz.prog p.1 p.2 := ge81.rg (rg_one oks239 rgs239 rg_nil)
theorem rg_c1 {P : Program} {f : Nat} {e : FE} {l : List (Nat × FE)} (h : ∀ p ∈ e.x.rgs, FOk P p.1 p.2) (g : ∀ p ∈ l, ∀ q ∈ p.2.x.rgs, FOk P q.1 q.2) : ∀ p ∈ (f, e) :: l, ∀ q ∈ p.2.x.rgs, FOk P q.1 q.2 := by
  intro p hp
  rcases List.mem_cons.1 hp with rfl | hp
  · exact h
  · exact g p hp
theorem tS_rg : RgOk Tryz.prog (mkT tS) := mkT_rg (rg_c1 (f := 3) rgs3 (rg_c1 (f := 4) rgs4 (rg_c1 (f := 5) rgs5 (rg_c1 (f := 6) rgs6 (rg_c1 (f := 11) rgs11 (rg_c1 (f := 12) rgs12 (rg_c1 (f := 13) rgs13 (rg_c1 (f := 14) rgs14 (rg_c1 (f := 15) rgs15 (rg_c1 (f := 16) rgs16 (rg_c1 (f := 17) rgs17 (rg_c1 (f := 18) rgs18 (rg_c1 (f := 19) rgs19 (rg_c1 (f := 20) rgs20 (rg_c1 (f := 21) rgs21 (rg_c1 (f := 22) rgs22 (rg_c1 (f := 23) rgs23 (rg_c1 (f := 24) rgs24 (rg_c1 (f := 25) rgs25 (rg_c1 (f := 26) rgs26 (rg_c1 (f := 27) rgs27 (rg_c1 (f := 28) rgs28 (rg_c1 (f := 29) rgs29 (rg_c1 (f := 30) rgs30 (rg_c1 (f := 31) rgs31 (rg_c1 (f := 32) rgs32 (rg_c1 (f := 33) rgs33 (rg_c1 (f := 34) rgs34 (rg_c1 (f := 35) rgs35 (rg_c1 (f := 36) rgs36 (rg_c1 (f := 37) rgs37 (rg_c1 (f := 38) rgs38 (rg_c1 (f := 39) rgs39 (rg_c1 (f := 40) rgs40 (rg_c1 (f := 48) rgs48 (rg_c1 (f := 57) rgs57 (rg_c1 (f := 59) rgs59 (rg_c1 (f := 60) rgs60 (rg_c1 (f := 61) rgs61 (rg_c1 (f := 62) rgs62 (rg_c1 (f := 63) rgs63 (rg_c1 (f := 64) rgs64 (rg_c1 (f := 65) rgs65 (rg_c1 (f := 66) rgs66 (rg_c1 (f := 67) rgs67 (rg_c1 (f := 68) rgs68 (rg_c1 (f := 69) rgs69 (rg_c1 (f := 70) rgs70 (rg_c1 (f := 71) rgs71 (rg_c1 (f := 72) rgs72 (rg_c1 (f := 73) rgs73 (rg_c1 (f := 74) rgs74 (rg_c1 (f := 75) rgs75 (rg_c1 (f := 76) rgs76 (rg_c1 (f := 77) rgs77 (rg_c1 (f := 78) rgs78 (rg_c1 (f := 79) rgs79 (rg_c1 (f := 80) rgs80 (rg_c1 (f := 82) rgs82 (rg_c1 (f := 83) rgs83 (rg_c1 (f := 84) rgs84 (rg_c1 (f := 85) rgs85 (rg_c1 (f := 86) rgs86 (rg_c1 (f := 87) rgs87 (rg_c1 (f := 88) rgs88 (rg_c1 (f := 89) rgs89 (rg_c1 (f := 90) rgs90 (rg_c1 (f := 100) rgs100 (rg_c1 (f := 111) rgs111 (rg_c1 (f := 124) rgs124 (rg_c1 (f := 125) rgs125 (rg_c1 (f := 126) rgs126 (rg_c1 (f := 127) rgs127 (rg_c1 (f := 128) rgs128 (rg_c1 (f := 129) rgs129 (rg_c1 (f := 130) rgs130 (rg_c1 (f := 131) rgs131 (rg_c1 (f := 132) rgs132 (rg_c1 (f := 133) rgs133 (rg_c1 (f := 134) rgs134 (rg_c1 (f := 135) rgs135 (rg_c1 (f := 136) rgs136 (rg_c1 (f := 137) rgs137 (rg_c1 (f := 138) rgs138 (rg_c1 (f := 139) rgs139 (rg_c1 (f := 140) rgs140 (rg_c1 (f := 141) rgs141 (rg_c1 (f := 142) rgs142 (rg_c1 (f := 143) rgs143 (rg_c1 (f := 144) rgs144 (rg_c1 (f := 145) rgs145 (rg_c1 (f := 146) rgs146 (rg_c1 (f := 147) rgs147 (rg_c1 (f := 148) rgs148 (rg_c1 (f := 149) rgs149 (rg_c1 (f := 150) rgs150 (rg_c1 (f := 151) rgs151 (rg_c1 (f := 152) rgs152 (rg_c1 (f := 153) rgs153 (rg_c1 (f := 154) rgs154 (rg_c1 (f := 155) rgs155 (rg_c1 (f := 156) rgs156 (rg_c1 (f := 157) rgs157 (rg_c1 (f := 158) rgs158 (rg_c1 (f := 159) rgs159 (rg_c1 (f := 160) rgs160 (rg_c1 (f := 161) rgs161 (rg_c1 (f := 162) rgs162 (rg_c1 (f := 163) rgs163 (rg_c1 (f := 164) rgs164 (rg_c1 (f := 165) rgs165 (rg_c1 (f := 166) rgs166 (rg_c1 (f := 167) rgs167 (rg_c1 (f := 168) rgs168 (rg_c1 (f := 169) rgs169 (rg_c1 (f := 170) rgs170 (rg_c1 (f := 171) rgs171 (rg_c1 (f := 192) rgs192 (rg_c1 (f := 209) rgs209 (rg_c1 (f := 210) rgs210 (rg_c1 (f := 211) rgs211 (rg_c1 (f := 212) rgs212 (rg_c1 (f := 213) rgs213 (rg_c1 (f := 214) rgs214 (rg_c1 (f := 215) rgs215 (rg_c1 (f := 216) rgs216 (rg_c1 (f := 217) rgs217 (rg_c1 (f := 218) rgs218 (rg_c1 (f := 219) rgs219 (rg_c1 (f := 220) rgs220 (rg_c1 (f := 221) rgs221 (rg_c1 (f := 222) rgs222 (rg_c1 (f := 223) rgs223 (rg_c1 (f := 224) rgs224 (rg_c1 (f := 225) rgs225 (rg_c1 (f := 226) rgs226 (rg_c1 (f := 227) rgs227 (rg_c1 (f := 228) rgs228 (rg_c1 (f := 229) rgs229 (rg_c1 (f := 230) rgs230 (rg_c1 (f := 231) rgs231 (rg_c1 (f := 232) rgs232 (rg_c1 (f := 233) rgs233 (rg_c1 (f := 234) rgs234 (rg_c1 (f := 235) rgs235 (rg_c1 (f := 236) rgs236 (rg_c1 (f := 237) rgs237 (rg_c1 (f := 238) rgs238 (rg_c1 (f := 239) rgs239 (rg_c1 (f := 240) rgs240 (rg_c1 (f := 241) rgs241 (rg_c1 (f := 242) rgs242 (rg_c1 (f := 243) rgs243 (rg_c1 (f := 258) rgs258 (rg_c1 (f := 265) rgs265 (rg_c1 (f := 266) rgs266 (rg_c1 (f := 267) rgs267 (rg_c1 (f := 268) rgs268 (rg_c1 (f := 269) rgs269 (rg_c1 (f := 270) rgs270 (rg_c1 (f := 271) rgs271 (rg_c1 (f := 272) rgs272 (rg_c1 (f := 273) rgs273 (rg_c1 (f := 274) rgs274 (rg_c1 (f := 275) rgs275 (rg_c1 (f := 276) rgs276 (rg_c1 (f := 277) rgs277 (rg_c1 (f := 278) rgs278 (rg_c1 (f := 279) rgs279 (rg_c1 (f := 280) rgs280 (rg_c1 (f := 281) rgs281 (rg_c1 (f := 297) rgs297 (rg_c1 (f := 298) rgs298 (rg_c1 (f := 299) rgs299 (rg_c1 (f := 300) rgs300 (rg_c1 (f := 301) rgs301 (rg_c1 (f := 302) rgs302 (rg_c1 (f := 303) rgs303 (rg_c1 (f := 304) rgs304 (rg_c1 (f := 305) rgs305 (rg_c1 (f := 306) rgs306 (rg_c1 (f := 307) rgs307 (rg_c1 (f := 308) rgs308 (rg_c1 (f := 313) rgs313 (rg_c1 (f := 314) rgs314 (rg_c1 (f := 315) rgs315 (rg_c1 (f := 316) rgs316 (rg_c1 (f := 317) rgs317 (rg_c1 (f := 318) rgs318 (rg_c1 (f := 319) rgs319 (rg_c1 (f := 322) rgs322 (rg_c1 (f := 323) rgs323 (rg_c1 (f := 58) rgs58 (rg_c1 (f := 81) rgs81 (fun p hp => absurd hp List.not_mem_nil)))))))))))))))))))))))))))))))))))))))))))))))))))))))))))))))))))))))))))))))))))))))))))))))))))))))))))))))))))))))))))))))))))))))))))))))))))))))))))))))))))))))))))))))))))))))))))))))))))
theorem tS_get4 : (mkT tS).get 4 = some ge4.e := by kernel_rfl
theorem tS_get20 : (mkT tS).get 20 = some ge20.e := by kernel_rfl
theorem tS_get24 : (mkT tS).get 24 = some ge24.e := by kernel_rfl
theorem tS_get25 : (mkT tS).get 25 = some ge25.e := by kernel_rfl
theorem tS_get26 : (mkT tS).get 26 = some ge26.e := by kernel_rfl
theorem tS_get27 : (mkT tS).get 27 = some ge27.e := by kernel_rfl
theorem tS_get28 : (mkT tS).get 28 = some ge28.e := by kernel_rfl
theorem tS_get29 : (mkT tS).get 29 = some ge29.e := by kernel_rfl
theorem tS_get30 : (mkT tS).get 30 = some ge30.e := by kernel_rfl
theorem tS_get31 : (mkT tS).get 31 = some ge31.e := by kernel_rfl
theorem tS_get32 : (mkT tS).get 32 = some ge32.e := by kernel_rfl
theorem tS_get33 : (mkT tS).get 33 = some ge33.e := by kernel_rfl
theorem tS_get34 : (mkT tS).get 34 = some ge34.e := by kernel_rfl
theorem tS_get35 : (mkT tS).get 35 = some ge35.e := by kernel_rfl
theorem tS_get36 : (mkT tS).get 36 = some ge36.e := by kernel_rfl
theorem tS_get37 : (mkT tS).get 37 = some ge37.e := by kernel_rfl
theorem tS_get38 : (mkT tS).get 38 = some ge38.e := by kernel_rfl
theorem tS_get39 : (mkT tS).get 39 = some ge39.e := by kernel_rfl
theorem tS_get57 : (mkT tS).get 57 = some ge57.e := by kernel_rfl
theorem tS_get59 : (mkT tS).get 59 = some ge59.e := by kernel_rfl
theorem tS_get61 : (mkT tS).get 61 = some ge61.e := by kernel_rfl
theorem tS_get64 : (mkT tS).get 64 = some ge64.e := by kernel_rfl
theorem tS_get65 : (mkT tS).get 65 = some ge65.e := by kernel_rfl
theorem tS_get68 : (mkT tS).get 68 = some ge68.e := by kernel_rfl
theorem tS_get69 : (mkT tS).get 69 = some ge69.e := by kernel_rfl
theorem tS_get70 : (mkT tS).get 70 = some ge70.e := by kernel_rfl
theorem tS_get71 : (mkT tS).get 71 = some ge71.e := by kernel_rfl
theorem tS_get72 : (mkT tS).get 72 = some ge72.e := by kernel_rfl
theorem tS_get73 : (mkT tS).get 73 = some ge73.e := by kernel_rfl
theorem tS_get74 : (mkT tS).get 74 = some ge74.e := by kernel_rfl
theorem tS_get75 : (mkT tS).get 75 = some ge75.e := by kernel_rfl
theorem tS_get76 : (mkT tS).get 76 = some ge76.e := by kernel_rfl
theorem tS_get77 : (mkT tS).get 77 = some ge77.e := by kernel_rfl
theorem tS_get78 : (mkT tS).get 78 = some ge78.e := by kernel_rfl
theorem tS_get79 : (mkT tS).get 79 = some ge79.e := by kernel_rfl
theorem tS_get80 : (mkT tS).get 80 = some ge80.e := by kernel_rfl
theorem tS_get82 : (mkT tS).get 82 = some ge82.e := by kernel_rfl
theorem tS_get83 : (mkT tS).get 83 = some ge83.e := by kernel_rfl
theorem tS_get84 : (mkT tS).get 84 = some ge84.e := by kernel_rfl
theorem tS_get85 : (mkT tS).get 85 = some ge85.e := by kernel_rfl
theorem tS_get86 : (mkT tS).get 86 = some ge86.e := by kernel_rfl
theorem tS_get87 : (mkT tS).get 87 = some ge87.e := by kernel_rfl
theorem tS_get88 : (mkT tS).get 88 = some ge88.e := by kernel_rfl
theorem tS_get89 : (mkT tS).get 89 = some ge89.e := by kernel_rfl
theorem tS_get90 : (mkT tS).get 90 = some ge90.e := by kernel_rfl
theorem tS_get100 : (mkT tS).get 100 = some ge100.e := by kernel_rfl
theorem tS_get124 : (mkT tS).get 124 = some ge124.e := by kernel_rfl
theorem tS_get125 : (mkT tS).get 125 = some ge125.e := by kernel_rfl
theorem tS_get127 : (mkT tS).get 127 = some ge127.e := by kernel_rfl
theorem tS_get128 : (mkT tS).get 128 = some ge128.e := by kernel_rfl
theorem tS_get132 : (mkT tS).get 132 = some ge132.e := by kernel_rfl
theorem tS_get133 : (mkT tS).get 133 = some ge133.e := by kernel_rfl
theorem tS_get134 : (mkT tS).get 134 = some ge134.e := by kernel_rfl
theorem tS_get144 : (mkT tS).get 144 = some ge144.e := by kernel_rfl
theorem tS_get145 : (mkT tS).get 145 = some ge145.e := by kernel_rfl
theorem tS_get146 : (mkT tS).get 146 = some ge146.e := by kernel_rfl
theorem tS_get147 : (mkT tS).get 147 = some ge147.e := by kernel_rfl
theorem tS_get148 : (mkT tS).get 148 = some ge148.e := by kernel_rfl
theorem tS_get149 : (mkT tS).get 149 = some ge149.e := by kernel_rfl
theorem tS_get150 : (mkT tS).get 150 = some ge150.e := by kernel_rfl
theorem tS_get151 : (mkT tS).get 151 = some ge151.e := by kernel_rfl
theorem tS_get152 : (mkT tS).get 152 = some ge152.e := by kernel_rfl
theorem tS_get153 : (mkT tS).get 153 = some ge153.e := by kernel_rfl
theorem tS_get154 : (mkT tS).get 154 = some ge154.e := by kernel_rfl
theorem tS_get155 : (mkT tS).get 155 = some ge155.e := by kernel_rfl
theorem tS_get156 : (mkT tS).get 156 = some ge156.e := by kernel_rfl
theorem tS_get157 : (mkT tS).get 157 = some ge157.e := by kernel_rfl
theorem tS_get158 : (mkT tS).get 158 = some ge158.e := by kernel_rfl
theorem tS_get159 : (mkT tS).get 159 = some ge159.e := by kernel_rfl
theorem tS_get160 : (mkT tS).get 160 = some ge160.e := by kernel_rfl
theorem tS_get161 : (mkT tS).get 161 = some ge161.e := by kernel_rfl
theorem tS_get162 : (mkT tS).get 162 = some ge162.e := by kernel_rfl
theorem tS_get163 : (mkT tS).get 163 = some ge163.e := by kernel_rfl
theorem tS_get164 : (mkT tS).get 164 = some ge164.e := by kernel_rfl
theorem tS_get165 : (mkT tS).get 165 = some ge165.e := by kernel_rfl
theorem tS_get166 : (mkT tS).get 166 = some ge166.e := by kernel_rfl
theorem tS_get167 : (mkT tS).get 167 = some ge167.e := by kernel_rfl
theorem tS_get168 : (mkT tS).get 168 = some ge168.e := by kernel_rfl
theorem tS_get169 : (mkT tS).get 169 = some ge169.e := by kernel_rfl
theorem tS_get170 : (mkT tS).get 170 = some ge170.e := by kernel_rfl
theorem tS_get171 : (mkT tS).get 171 = some ge171.e := by kernel_rfl
theorem tS_get192 : (mkT tS).get 192 = some ge192.e := by kernel_rfl
theorem tS_get210 : (mkT tS).get 210 = some ge210.e := by kernel_rfl
theorem tS_get211 : (mkT tS).get 211 = some ge211.e := by kernel_rfl
theorem tS_get212 : (mkT tS).get 212 = some ge212.e := by kernel_rfl
theorem tS_get213 : (mkT tS).get 213 = some ge213.e := by kernel_rfl
theorem tS_get214 : (mkT tS).get 214 = some ge214.e := by kernel_rfl
theorem tS_get215 : (mkT tS).get 215 = some ge215.e := by kernel_rfl
theorem tS_get216 : (mkT tS).get 216 = some ge216.e := by kernel_rfl
theorem tS_get217 : (mkT tS).get 217 = some ge217.e := by kernel_rfl
theorem tS_get218 : (mkT tS).get 218 = some ge218.e := by kernel_rfl
theorem tS_get219 : (mkT tS).get 219 = some ge219.e := by kernel_rfl
theorem tS_get220 : (mkT tS).get 220 = some ge220.e := by kernel_rfl
theorem tS_get233 : (mkT tS).get 233 = some ge233.e := by kernel_rfl
theorem tS_get234 : (mkT tS).get 234 = some ge234.e := by kernel_rfl
theorem tS_get235 : (mkT tS).get 235 = some ge235.e := by kernel_rfl
theorem tS_get236 : (mkT tS).get 236 = some ge236.e := by kernel_rfl
theorem tS_get237 : (mkT tS).get 237 = some ge237.e := by kernel_rfl
theorem tS_get238 : (mkT tS).get 238 = some ge238.e := by kernel_rfl
theorem tS_get240 : (mkT tS).get 240 = some ge240.e := by kernel_rfl
theorem tS_get241 : (mkT tS).get 241 = some ge241.e := by kernel_rfl
theorem tS_get242 : (mkT tS).get 242 = some ge242.e := by kernel_rfl
theorem tS_get243 : (mkT tS).get 243 = some ge243.e := by kernel_rfl
theorem tS_get258 : (mkT tS).get 258 = some ge258.e := by kernel_rfl
theorem tS_get265 : (mkT tS).get 265 = some ge265.e := by kernel_rfl
theorem tS_get266 : (mkT tS).get 266 = some ge266.e := by kernel_rfl
theorem tS_get267 : (mkT tS).get 267 = some ge267.e := by kernel_rfl
theorem tS_get268 : (mkT tS).get 268 = some ge268.e := by kernel_rfl
theorem tS_get269 : (mkT tS).get 269 = some ge269.e := by kernel_rfl
theorem tS_get270 : (mkT tS).get 270 = some ge270.e := by kernel_rfl
theorem tS_get271 : (mkT tS).get 271 = some ge271.e := by kernel_rfl
theorem tS_get272 : (mkT tS).get 272 = some ge272.e := by kernel_rfl
theorem tS_get273 : (mkT tS).get 273 = some ge273.e := by kernel_rfl
theorem tS_get277 : (mkT tS).get 277 = some ge277.e := by kernel_rfl
theorem tS_get278 : (mkT tS).get 278 = some ge278.e := by kernel_rfl
theorem tS_get279 : (mkT tS).get 279 = some ge279.e := by kernel_rfl
theorem tS_get280 : (mkT tS).get 280 = some ge280.e := by kernel_rfl
theorem tS_get281 : (mkT tS).get 281 = some ge281.e := by kernel_rfl
theorem tS_get297 : (mkT tS).get 297 = some ge297.e := by kernel_rfl
theorem tS_get298 : (mkT tS).get 298 = some ge298.e := by kernel_rfl
theorem tS_get299 : (mkT tS).get 299 = some ge299.e := by kernel_rfl
theorem tS_get300 : (mkT tS).get 300 = some ge300.e := by kernel_rfl
theorem tS_get301 : (mkT tS).get 301 = some ge301.e := by kernel_rfl
theorem tS_get302 : (mkT tS).get 302 = some ge302.e := by kernel_rfl
theorem tS_get303 : (mkT tS).get 303 = some ge303.e := by kernel_rfl
theorem tS_get304 : (mkT tS).get 304 = some ge304.e := by kernel_rfl
theorem tS_get305 : (mkT tS).get 305 = some ge305.e := by kernel_rfl
theorem tS_get306 : (mkT tS).get 306 = some ge306.e := by kernel_rfl
theorem tS_get307 : (mkT tS).get 307 = some ge307.e := by kernel_rfl
theorem tS_get308 : (mkT tS).get 308 = some ge308.e := by kernel_rfl
theorem tS_get313 : (mkT tS).get 313 = some ge313.e := by kernel_rfl
theorem tS_get314 : (mkT tS).get 314 = some ge314.e := by kernel_rfl
theorem tS_get315 : (mkT tS).get 315 = some ge315.e := by kernel_rfl
theorem tS_get316 : (mkT tS).get 316 = some ge316.e := by kernel_rfl
theorem tS_get317 : (mkT tS).get 317 = some ge317.e := by kernel_rfl
theorem tS_get318 : (mkT tS).get 318 = some ge318.e := by kernel_rfl
theorem tS_get319 : (mkT tS).get 319 = some ge319.e := by kernel_rfl
theorem tS_get322 : (mkT tS).get 322 = some ge322.e := by kernel_rfl
theorem tS_get323 : (mkT tS).get 323 = some ge323.e := by kernel_rfl
theorem tS_get81 : (mkT tS).get 81 = some ge81.e := by kernel_rfl
theorem tS_none : (mkT tS).get 321 = none := by kernel_rfl
noncomputable abbrev E (k : Nat) : Call' := evF (mkT tS) (handG 321 117 noHand2) K0 k
end Go.Proofs.YtlceligcgelbdaaGreat
