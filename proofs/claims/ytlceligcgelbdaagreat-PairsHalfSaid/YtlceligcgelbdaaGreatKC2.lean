/- The code of the functions that are walked through, found in the program. -/
import Derived.Test.YtlceligcgelbdaaGreatChecked
import Derived.KernelRfl
import Derived.WalkKit
import Derived.Orders
import Derived.Test.YtlceligcgelbdaaGreatKA6
import Derived.Test.YtlceligcgelbdaaGreatKK4
set_option linter.unusedVariables false
set_option maxRecDepth 100000
set_option maxHeartbeats 4000000
namespace Go.Proofs.YtlceligcgelbdaaGreat
open Go.CE Go.RowKit
abbrev K0 : Nat := 18446744073709551616
theorem aC {P : Program} {f : Nat} {e : FE} {l : List (Nat × FE)} (h : FOk P f e) (g : ∀ p, p ∈ l → FOk P p.1 p.2) : ∀ p, p ∈ (f, e) :: l → FOk P p.1 p.2 := by
  intro p hp
  rcases List.mem_cons.1 hp with rfl | hp
  · exact h
  · exact g p hp
structure Fr (x : FE) where
  e : FE
  h : x = e
def Fr.m {x : FE} (e : FE) (h : x = e := by conv => lhs; reduce; simp only [Int.ofNat_eq_natCast, Int.cast_ofNat_Int]) : Fr x := ⟨e, h⟩
def ge9 : Fc Tryz.prog Tryz.f9 := .m _
theorem oks9 : FOk Tryz.prog 9 ge9.e := ge9.ok Tryz.func9
def ge34 : Fc Tryz.prog Tryz.f34 := .m _
theorem oks34 : FOk Tryz.prog 34 ge34.e := ge34.ok Tryz.func34
def ge36 : Fc Tryz.prog Tryz.f36 := .m _
theorem oks36 : FOk Tryz.prog 36 ge36.e := ge36.ok Tryz.func36
def ge37 : Fc Tryz.prog Tryz.f37 := .m _
theorem oks37 : FOk Tryz.prog 37 ge37.e := ge37.ok Tryz.func37
def ge38 : Fc Tryz.prog Tryz.f38 := .m _
theorem oks38 : FOk Tryz.prog 38 ge38.e := ge38.ok Tryz.func38
def ge39 : Fc Tryz.prog Tryz.f39 := .m _
theorem oks39 : FOk Tryz.prog 39 ge39.e := ge39.ok Tryz.func39
def ge40 : Fc Tryz.prog Tryz.f40 := .m _
theorem oks40 : FOk Tryz.prog 40 ge40.e := ge40.ok Tryz.func40
def ge41 : Fc Tryz.prog Tryz.f41 := .m _
theorem oks41 : FOk Tryz.prog 41 ge41.e := ge41.ok Tryz.func41
def ge45 : Fr fe45.fe := .m _
theorem oks45 : FOk Tryz.prog 45 ge45.e := ge45.h ▸ ok45
def ge51 : Fc Tryz.prog Tryz.f51 := .m _
theorem oks51 : FOk Tryz.prog 51 ge51.e := ge51.ok Tryz.func51
def ge53 : Fc Tryz.prog Tryz.f53 := .m _
theorem oks53 : FOk Tryz.prog 53 ge53.e := ge53.ok Tryz.func53
def ge83 : Fc Tryz.prog Tryz.f83 := .m _
theorem oks83 : FOk Tryz.prog 83 ge83.e := ge83.ok Tryz.func83
def ge84 : Fc Tryz.prog Tryz.f84 := .m _
theorem oks84 : FOk Tryz.prog 84 ge84.e := ge84.ok Tryz.func84
def ge85 : Fc Tryz.prog Tryz.f85 := .m _
theorem oks85 : FOk Tryz.prog 85 ge85.e := ge85.ok Tryz.func85
def ge86 : Fc Tryz.prog Tryz.f86 := .m _
theorem oks86 : FOk Tryz.prog 86 ge86.e := ge86.ok Tryz.func86
def ge88 : Fc Tryz.prog Tryz.f88 := .m _
theorem oks88 : FOk Tryz.prog 88 ge88.e := ge88.ok Tryz.func88
def ge89 : Fc Tryz.prog Tryz.f89 := .m _
theorem oks89 : FOk Tryz.prog 89 ge89.e := ge89.ok Tryz.func89
def ge90 : Fc Tryz.prog Tryz.f90 := .m _
theorem oks90 : FOk Tryz.prog 90 ge90.e := ge90.ok Tryz.func90
def ge91 : Fc Tryz.prog Tryz.f91 := .m _
theorem oks91 : FOk Tryz.prog 91 ge91.e := ge91.ok Tryz.func91
def ge101 : Fc Tryz.prog Tryz.f101 := .m _
theorem oks101 : FOk Tryz.prog 101 ge101.e := ge101.ok Tryz.func101
def ge102 : Fc Tryz.prog Tryz.f102 := .m _
theorem oks102 : FOk Tryz.prog 102 ge102.e := ge102.ok Tryz.func102
def ge103 : Fc Tryz.prog Tryz.f103 := .m _
theorem oks103 : FOk Tryz.prog 103 ge103.e := ge103.ok Tryz.func103
def ge104 : Fc Tryz.prog Tryz.f104 := .m _
theorem oks104 : FOk Tryz.prog 104 ge104.e := ge104.ok Tryz.func104
def ge105 : Fc Tryz.prog Tryz.f105 := .m _
theorem oks105 : FOk Tryz.prog 105 ge105.e := ge105.ok Tryz.func105
def ge113 : Fc Tryz.prog Tryz.f113 := .m _
theorem oks113 : FOk Tryz.prog 113 ge113.e := ge113.ok Tryz.func113
def ge114 : Fc Tryz.prog Tryz.f114 := .m _
theorem oks114 : FOk Tryz.prog 114 ge114.e := ge114.ok Tryz.func114
def ge115 : Fc Tryz.prog Tryz.f115 := .m _
theorem oks115 : FOk Tryz.prog 115 ge115.e := ge115.ok Tryz.func115
def ge116 : Fc Tryz.prog Tryz.f116 := .m _
theorem oks116 : FOk Tryz.prog 116 ge116.e := ge116.ok Tryz.func116
def ge117 : Fc Tryz.prog Tryz.f117 := .m _
theorem oks117 : FOk Tryz.prog 117 ge117.e := ge117.ok Tryz.func117
def ge118 : Fc Tryz.prog Tryz.f118 := .m _
theorem oks118 : FOk Tryz.prog 118 ge118.e := ge118.ok Tryz.func118
def ge119 : Fc Tryz.prog Tryz.f119 := .m _
theorem oks119 : FOk Tryz.prog 119 ge119.e := ge119.ok Tryz.func119
def ge120 : Fc Tryz.prog Tryz.f120 := .m _
theorem oks120 : FOk Tryz.prog 120 ge120.e := ge120.ok Tryz.func120
def ge153 : Fc Tryz.prog Tryz.f153 := .m _
theorem oks153 : FOk Tryz.prog 153 ge153.e := ge153.ok Tryz.func153
def ge163 : Fc Tryz.prog Tryz.f163 := .m _
theorem oks163 : FOk Tryz.prog 163 ge163.e := ge163.ok Tryz.func163
def ge164 : Fc Tryz.prog Tryz.f164 := .m _
theorem oks164 : FOk Tryz.prog 164 ge164.e := ge164.ok Tryz.func164
def ge165 : Fc Tryz.prog Tryz.f165 := .m _
theorem oks165 : FOk Tryz.prog 165 ge165.e := ge165.ok Tryz.func165
def ge166 : Fc Tryz.prog Tryz.f166 := .m _
theorem oks166 : FOk Tryz.prog 166 ge166.e := ge166.ok Tryz.func166
def ge167 : Fc Tryz.prog Tryz.f167 := .m _
theorem oks167 : FOk Tryz.prog 167 ge167.e := ge167.ok Tryz.func167
def ge169 : Fc Tryz.prog Tryz.f169 := .m _
theorem oks169 : FOk Tryz.prog 169 ge169.e := ge169.ok Tryz.func169
def ge170 : Fc Tryz.prog Tryz.f170 := .m _
theorem oks170 : FOk Tryz.prog 170 ge170.e := ge170.ok Tryz.func170
def ge171 : Fc Tryz.prog Tryz.f171 := .m _
theorem oks171 : FOk Tryz.prog 171 ge171.e := ge171.ok Tryz.func171
def ge172 : Fc Tryz.prog Tryz.f172 := .m _
theorem oks172 : FOk Tryz.prog 172 ge172.e := ge172.ok Tryz.func172
def ge173 : Fc Tryz.prog Tryz.f173 := .m _
theorem oks173 : FOk Tryz.prog 173 ge173.e := ge173.ok Tryz.func173
def ge174 : Fc Tryz.prog Tryz.f174 := .m _
theorem oks174 : FOk Tryz.prog 174 ge174.e := ge174.ok Tryz.func174
def ge175 : Fc Tryz.prog Tryz.f175 := .m _
theorem oks175 : FOk Tryz.prog 175 ge175.e := ge175.ok Tryz.func175
def ge185 : Fc Tryz.prog Tryz.f185 := .m _
theorem oks185 : FOk Tryz.prog 185 ge185.e := ge185.ok Tryz.func185
def ge186 : Fc Tryz.prog Tryz.f186 := .m _
theorem oks186 : FOk Tryz.prog 186 ge186.e := ge186.ok Tryz.func186
def ge187 : Fc Tryz.prog Tryz.f187 := .m _
theorem oks187 : FOk Tryz.prog 187 ge187.e := ge187.ok Tryz.func187
def ge192 : Fc Tryz.prog Tryz.f192 := .m _
theorem oks192 : FOk Tryz.prog 192 ge192.e := ge192.ok Tryz.func192
def ge193 : Fc Tryz.prog Tryz.f193 := .m _
theorem oks193 : FOk Tryz.prog 193 ge193.e := ge193.ok Tryz.func193
def ge194 : Fc Tryz.prog Tryz.f194 := .m _
theorem oks194 : FOk Tryz.prog 194 ge194.e := ge194.ok Tryz.func194
def ge195 : Fc Tryz.prog Tryz.f195 := .m _
theorem oks195 : FOk Tryz.prog 195 ge195.e := ge195.ok Tryz.func195
def ge196 : Fc Tryz.prog Tryz.f196 := .m _
theorem oks196 : FOk Tryz.prog 196 ge196.e := ge196.ok Tryz.func196
def ge197 : Fc Tryz.prog Tryz.f197 := .m _
theorem oks197 : FOk Tryz.prog 197 ge197.e := ge197.ok Tryz.func197
def ge198 : Fc Tryz.prog Tryz.f198 := .m _
theorem oks198 : FOk Tryz.prog 198 ge198.e := ge198.ok Tryz.func198
def ge199 : Fc Tryz.prog Tryz.f199 := .m _
theorem oks199 : FOk Tryz.prog 199 ge199.e := ge199.ok Tryz.func199
def ge200 : Fc Tryz.prog Tryz.f200 := .m _
theorem oks200 : FOk Tryz.prog 200 ge200.e := ge200.ok Tryz.func200
def ge201 : Fc Tryz.prog Tryz.f201 := .m _
theorem oks201 : FOk Tryz.prog 201 ge201.e := ge201.ok Tryz.func201
def ge202 : Fc Tryz.prog Tryz.f202 := .m _
theorem oks202 : FOk Tryz.prog 202 ge202.e := ge202.ok Tryz.func202
def ge203 : Fc Tryz.prog Tryz.f203 := .m _
theorem oks203 : FOk Tryz.prog 203 ge203.e := ge203.ok Tryz.func203
def ge204 : Fc Tryz.prog Tryz.f204 := .m _
theorem oks204 : FOk Tryz.prog 204 ge204.e := ge204.ok Tryz.func204
def ge205 : Fc Tryz.prog Tryz.f205 := .m _
theorem oks205 : FOk Tryz.prog 205 ge205.e := ge205.ok Tryz.func205
def ge236 : Fc Tryz.prog Tryz.f236 := .m _
theorem oks236 : FOk Tryz.prog 236 ge236.e := ge236.ok Tryz.func236
def ge237 : Fc Tryz.prog Tryz.f237 := .m _
theorem oks237 : FOk Tryz.prog 237 ge237.e := ge237.ok Tryz.func237
def ge240 : Fc Tryz.prog Tryz.f240 := .m _
theorem oks240 : FOk Tryz.prog 240 ge240.e := ge240.ok Tryz.func240
def ge241 : Fc Tryz.prog Tryz.f241 := .m _
theorem oks241 : FOk Tryz.prog 241 ge241.e := ge241.ok Tryz.func241
def ge242 : Fc Tryz.prog Tryz.f242 := .m _
theorem oks242 : FOk Tryz.prog 242 ge242.e := ge242.ok Tryz.func242
def ge243 : Fc Tryz.prog Tryz.f243 := .m _
theorem oks243 : FOk Tryz.prog 243 ge243.e := ge243.ok Tryz.func243
def ge246 : Fc Tryz.prog Tryz.f246 := .m _
theorem oks246 : FOk Tryz.prog 246 ge246.e := ge246.ok Tryz.func246
def ge247 : Fc Tryz.prog Tryz.f247 := .m _
theorem oks247 : FOk Tryz.prog 247 ge247.e := ge247.ok Tryz.func247
def ge248 : Fc Tryz.prog Tryz.f248 := .m _
theorem oks248 : FOk Tryz.prog 248 ge248.e := ge248.ok Tryz.func248
def ge249 : Fc Tryz.prog Tryz.f249 := .m _
theorem oks249 : FOk Tryz.prog 249 ge249.e := ge249.ok Tryz.func249
def ge258 : Fc Tryz.prog Tryz.f258 := .m _
theorem oks258 : FOk Tryz.prog 258 ge258.e := ge258.ok Tryz.func258
def ge260 : Fc Tryz.prog Tryz.f260 := .m _
theorem oks260 : FOk Tryz.prog 260 ge260.e := ge260.ok Tryz.func260
def ge261 : Fc Tryz.prog Tryz.f261 := .m _
theorem oks261 : FOk Tryz.prog 261 ge261.e := ge261.ok Tryz.func261
def ge262 : Fc Tryz.prog Tryz.f262 := .m _
theorem oks262 : FOk Tryz.prog 262 ge262.e := ge262.ok Tryz.func262
def ge263 : Fc Tryz.prog Tryz.f263 := .m _
theorem oks263 : FOk Tryz.prog 263 ge263.e := ge263.ok Tryz.func263
def ge264 : Fc Tryz.prog Tryz.f264 := .m _
theorem oks264 : FOk Tryz.prog 264 ge264.e := ge264.ok Tryz.func264
def ge277 : Fc Tryz.prog Tryz.f277 := .m _
theorem oks277 : FOk Tryz.prog 277 ge277.e := ge277.ok Tryz.func277
def ge278 : Fc Tryz.prog Tryz.f278 := .m _
theorem oks278 : FOk Tryz.prog 278 ge278.e := ge278.ok Tryz.func278
def ge279 : Fc Tryz.prog Tryz.f279 := .m _
theorem oks279 : FOk Tryz.prog 279 ge279.e := ge279.ok Tryz.func279
def ge280 : Fc Tryz.prog Tryz.f280 := .m _
theorem oks280 : FOk Tryz.prog 280 ge280.e := ge280.ok Tryz.func280
def ge281 : Fc Tryz.prog Tryz.f281 := .m _
theorem oks281 : FOk Tryz.prog 281 ge281.e := ge281.ok Tryz.func281
def ge291 : Fc Tryz.prog Tryz.f291 := .m _
theorem oks291 : FOk Tryz.prog 291 ge291.e := ge291.ok Tryz.func291
def ge300 : Fc Tryz.prog Tryz.f300 := .m _
theorem oks300 : FOk Tryz.prog 300 ge300.e := ge300.ok Tryz.func300
def ge301 : Fc Tryz.prog Tryz.f301 := .m _
theorem oks301 : FOk Tryz.prog 301 ge301.e := ge301.ok Tryz.func301
def ge302 : Fc Tryz.prog Tryz.f302 := .m _
theorem oks302 : FOk Tryz.prog 302 ge302.e := ge302.ok Tryz.func302
def ge303 : Fc Tryz.prog Tryz.f303 := .m _
theorem oks303 : FOk Tryz.prog 303 ge303.e := ge303.ok Tryz.func303
def ge304 : Fc Tryz.prog Tryz.f304 := .m _
theorem oks304 : FOk Tryz.prog 304 ge304.e := ge304.ok Tryz.func304
def ge305 : Fc Tryz.prog Tryz.f305 := .m _
theorem oks305 : FOk Tryz.prog 305 ge305.e := ge305.ok Tryz.func305
def ge306 : Fc Tryz.prog Tryz.f306 := .m _
theorem oks306 : FOk Tryz.prog 306 ge306.e := ge306.ok Tryz.func306
def ge307 : Fc Tryz.prog Tryz.f307 := .m _
theorem oks307 : FOk Tryz.prog 307 ge307.e := ge307.ok Tryz.func307
def ge308 : Fc Tryz.prog Tryz.f308 := .m _
theorem oks308 : FOk Tryz.prog 308 ge308.e := ge308.ok Tryz.func308
def ge314 : Fc Tryz.prog Tryz.f314 := .m _
theorem oks314 : FOk Tryz.prog 314 ge314.e := ge314.ok Tryz.func314
def ge315 : Fc Tryz.prog Tryz.f315 := .m _
theorem oks315 : FOk Tryz.prog 315 ge315.e := ge315.ok Tryz.func315
def ge316 : Fc Tryz.prog Tryz.f316 := .m _
theorem oks316 : FOk Tryz.prog 316 ge316.e := ge316.ok Tryz.func316
def ge317 : Fc Tryz.prog Tryz.f317 := .m _
theorem oks317 : FOk Tryz.prog 317 ge317.e := ge317.ok Tryz.func317
def ge318 : Fc Tryz.prog Tryz.f318 := .m _
theorem oks318 : FOk Tryz.prog 318 ge318.e := ge318.ok Tryz.func318
def ge319 : Fc Tryz.prog Tryz.f319 := .m _
theorem oks319 : FOk Tryz.prog 319 ge319.e := ge319.ok Tryz.func319
def ge322 : Fc Tryz.prog Tryz.f322 := .m _
theorem oks322 : FOk Tryz.prog 322 ge322.e := ge322.ok Tryz.func322
def ge323 : Fc Tryz.prog Tryz.f323 := .m _
theorem oks323 : FOk Tryz.prog 323 ge323.e := ge323.ok Tryz.func323
def tS : List (Nat × FE) := [(9, ge9.e), (34, ge34.e), (36, ge36.e), (37, ge37.e), (38, ge38.e), (39, ge39.e), (40, ge40.e), (41, ge41.e), (45, ge45.e), (51, ge51.e), (53, ge53.e), (83, ge83.e), (84, ge84.e), (85, ge85.e), (86, ge86.e), (88, ge88.e), (89, ge89.e), (90, ge90.e), (91, ge91.e), (101, ge101.e), (102, ge102.e), (103, ge103.e), (104, ge104.e), (105, ge105.e), (113, ge113.e), (114, ge114.e), (115, ge115.e), (116, ge116.e), (117, ge117.e), (118, ge118.e), (119, ge119.e), (120, ge120.e), (153, ge153.e), (163, ge163.e), (164, ge164.e), (165, ge165.e), (166, ge166.e), (167, ge167.e), (169, ge169.e), (170, ge170.e), (171, ge171.e), (172, ge172.e), (173, ge173.e), (174, ge174.e), (175, ge175.e), (185, ge185.e), (186, ge186.e), (187, ge187.e), (192, ge192.e), (193, ge193.e), (194, ge194.e), (195, ge195.e), (196, ge196.e), (197, ge197.e), (198, ge198.e), (199, ge199.e), (200, ge200.e), (201, ge201.e), (202, ge202.e), (203, ge203.e), (204, ge204.e), (205, ge205.e), (236, ge236.e), (237, ge237.e), (240, ge240.e), (241, ge241.e), (242, ge242.e), (243, ge243.e), (246, ge246.e), (247, ge247.e), (248, ge248.e), (249, ge249.e), (258, ge258.e), (260, ge260.e), (261, ge261.e), (262, ge262.e), (263, ge263.e), (264, ge264.e), (277, ge277.e), (278, ge278.e), (279, ge279.e), (280, ge280.e), (281, ge281.e), (291, ge291.e), (300, ge300.e), (301, ge301.e), (302, ge302.e), (303, ge303.e), (304, ge304.e), (305, ge305.e), (306, ge306.e), (307, ge307.e), (308, ge308.e), (314, ge314.e), (315, ge315.e), (316, ge316.e), (317, ge317.e), (318, ge318.e), (319, ge319.e), (322, ge322.e), (323, ge323.e)]
theorem tS_ok : TblOk Tryz.prog (mkT tS) := mkT_ok (aC oks9 (aC oks34 (aC oks36 (aC oks37 (aC oks38 (aC oks39 (aC oks40 (aC oks41 (aC oks45 (aC oks51 (aC oks53 (aC oks83 (aC oks84 (aC oks85 (aC oks86 (aC oks88 (aC oks89 (aC oks90 (aC oks91 (aC oks101 (aC oks102 (aC oks103 (aC oks104 (aC oks105 (aC oks113 (aC oks114 (aC oks115 (aC oks116 (aC oks117 (aC oks118 (aC oks119 (aC oks120 (aC oks153 (aC oks163 (aC oks164 (aC oks165 (aC oks166 (aC oks167 (aC oks169 (aC oks170 (aC oks171 (aC oks172 (aC oks173 (aC oks174 (aC oks175 (aC oks185 (aC oks186 (aC oks187 (aC oks192 (aC oks193 (aC oks194 (aC oks195 (aC oks196 (aC oks197 (aC oks198 (aC oks199 (aC oks200 (aC oks201 (aC oks202 (aC oks203 (aC oks204 (aC oks205 (aC oks236 (aC oks237 (aC oks240 (aC oks241 (aC oks242 (aC oks243 (aC oks246 (aC oks247 (aC oks248 (aC oks249 (aC oks258 (aC oks260 (aC oks261 (aC oks262 (aC oks263 (aC oks264 (aC oks277 (aC oks278 (aC oks279 (aC oks280 (aC oks281 (aC oks291 (aC oks300 (aC oks301 (aC oks302 (aC oks303 (aC oks304 (aC oks305 (aC oks306 (aC oks307 (aC oks308 (aC oks314 (aC oks315 (aC oks316 (aC oks317 (aC oks318 (aC oks319 (aC oks322 (aC oks323 (fun p hp => absurd hp List.not_mem_nil))))))))))))))))))))))))))))))))))))))))))))))))))))))))))))))))))))))))))))))))))))))))))))))))))))))
theorem tS_get9 : (mkT tS).get 9 = some ge9.e := by kernel_rfl
theorem tS_get34 : (mkT tS).get 34 = some ge34.e := by kernel_rfl
theorem tS_get36 : (mkT tS).get 36 = some ge36.e := by kernel_rfl
theorem tS_get37 : (mkT tS).get 37 = some ge37.e := by kernel_rfl
theorem tS_get38 : (mkT tS).get 38 = some ge38.e := by kernel_rfl
theorem tS_get39 : (mkT tS).get 39 = some ge39.e := by kernel_rfl
theorem tS_get40 : (mkT tS).get 40 = some ge40.e := by kernel_rfl
theorem tS_get41 : (mkT tS).get 41 = some ge41.e := by kernel_rfl
theorem tS_get45 : (mkT tS).get 45 = some ge45.e := by kernel_rfl
theorem tS_get51 : (mkT tS).get 51 = some ge51.e := by kernel_rfl
theorem tS_get53 : (mkT tS).get 53 = some ge53.e := by kernel_rfl
theorem tS_get83 : (mkT tS).get 83 = some ge83.e := by kernel_rfl
theorem tS_get84 : (mkT tS).get 84 = some ge84.e := by kernel_rfl
theorem tS_get85 : (mkT tS).get 85 = some ge85.e := by kernel_rfl
theorem tS_get86 : (mkT tS).get 86 = some ge86.e := by kernel_rfl
theorem tS_get88 : (mkT tS).get 88 = some ge88.e := by kernel_rfl
theorem tS_get89 : (mkT tS).get 89 = some ge89.e := by kernel_rfl
theorem tS_get90 : (mkT tS).get 90 = some ge90.e := by kernel_rfl
theorem tS_get91 : (mkT tS).get 91 = some ge91.e := by kernel_rfl
theorem tS_get101 : (mkT tS).get 101 = some ge101.e := by kernel_rfl
theorem tS_get102 : (mkT tS).get 102 = some ge102.e := by kernel_rfl
theorem tS_get103 : (mkT tS).get 103 = some ge103.e := by kernel_rfl
theorem tS_get104 : (mkT tS).get 104 = some ge104.e := by kernel_rfl
theorem tS_get105 : (mkT tS).get 105 = some ge105.e := by kernel_rfl
theorem tS_get113 : (mkT tS).get 113 = some ge113.e := by kernel_rfl
theorem tS_get114 : (mkT tS).get 114 = some ge114.e := by kernel_rfl
theorem tS_get115 : (mkT tS).get 115 = some ge115.e := by kernel_rfl
theorem tS_get116 : (mkT tS).get 116 = some ge116.e := by kernel_rfl
theorem tS_get117 : (mkT tS).get 117 = some ge117.e := by kernel_rfl
theorem tS_get118 : (mkT tS).get 118 = some ge118.e := by kernel_rfl
theorem tS_get119 : (mkT tS).get 119 = some ge119.e := by kernel_rfl
theorem tS_get120 : (mkT tS).get 120 = some ge120.e := by kernel_rfl
theorem tS_get153 : (mkT tS).get 153 = some ge153.e := by kernel_rfl
theorem tS_get163 : (mkT tS).get 163 = some ge163.e := by kernel_rfl
theorem tS_get164 : (mkT tS).get 164 = some ge164.e := by kernel_rfl
theorem tS_get165 : (mkT tS).get 165 = some ge165.e := by kernel_rfl
theorem tS_get166 : (mkT tS).get 166 = some ge166.e := by kernel_rfl
theorem tS_get167 : (mkT tS).get 167 = some ge167.e := by kernel_rfl
theorem tS_get169 : (mkT tS).get 169 = some ge169.e := by kernel_rfl
theorem tS_get170 : (mkT tS).get 170 = some ge170.e := by kernel_rfl
theorem tS_get171 : (mkT tS).get 171 = some ge171.e := by kernel_rfl
theorem tS_get172 : (mkT tS).get 172 = some ge172.e := by kernel_rfl
theorem tS_get173 : (mkT tS).get 173 = some ge173.e := by kernel_rfl
theorem tS_get174 : (mkT tS).get 174 = some ge174.e := by kernel_rfl
theorem tS_get175 : (mkT tS).get 175 = some ge175.e := by kernel_rfl
theorem tS_get185 : (mkT tS).get 185 = some ge185.e := by kernel_rfl
theorem tS_get186 : (mkT tS).get 186 = some ge186.e := by kernel_rfl
theorem tS_get187 : (mkT tS).get 187 = some ge187.e := by kernel_rfl
theorem tS_get192 : (mkT tS).get 192 = some ge192.e := by kernel_rfl
theorem tS_get193 : (mkT tS).get 193 = some ge193.e := by kernel_rfl
theorem tS_get194 : (mkT tS).get 194 = some ge194.e := by kernel_rfl
theorem tS_get195 : (mkT tS).get 195 = some ge195.e := by kernel_rfl
theorem tS_get196 : (mkT tS).get 196 = some ge196.e := by kernel_rfl
theorem tS_get197 : (mkT tS).get 197 = some ge197.e := by kernel_rfl
theorem tS_get198 : (mkT tS).get 198 = some ge198.e := by kernel_rfl
theorem tS_get199 : (mkT tS).get 199 = some ge199.e := by kernel_rfl
theorem tS_get200 : (mkT tS).get 200 = some ge200.e := by kernel_rfl
theorem tS_get201 : (mkT tS).get 201 = some ge201.e := by kernel_rfl
theorem tS_get202 : (mkT tS).get 202 = some ge202.e := by kernel_rfl
theorem tS_get203 : (mkT tS).get 203 = some ge203.e := by kernel_rfl
theorem tS_get204 : (mkT tS).get 204 = some ge204.e := by kernel_rfl
theorem tS_get205 : (mkT tS).get 205 = some ge205.e := by kernel_rfl
theorem tS_get236 : (mkT tS).get 236 = some ge236.e := by kernel_rfl
theorem tS_get237 : (mkT tS).get 237 = some ge237.e := by kernel_rfl
theorem tS_get240 : (mkT tS).get 240 = some ge240.e := by kernel_rfl
theorem tS_get241 : (mkT tS).get 241 = some ge241.e := by kernel_rfl
theorem tS_get242 : (mkT tS).get 242 = some ge242.e := by kernel_rfl
theorem tS_get243 : (mkT tS).get 243 = some ge243.e := by kernel_rfl
theorem tS_get246 : (mkT tS).get 246 = some ge246.e := by kernel_rfl
theorem tS_get247 : (mkT tS).get 247 = some ge247.e := by kernel_rfl
theorem tS_get248 : (mkT tS).get 248 = some ge248.e := by kernel_rfl
theorem tS_get249 : (mkT tS).get 249 = some ge249.e := by kernel_rfl
theorem tS_get258 : (mkT tS).get 258 = some ge258.e := by kernel_rfl
theorem tS_get260 : (mkT tS).get 260 = some ge260.e := by kernel_rfl
theorem tS_get261 : (mkT tS).get 261 = some ge261.e := by kernel_rfl
theorem tS_get262 : (mkT tS).get 262 = some ge262.e := by kernel_rfl
theorem tS_get263 : (mkT tS).get 263 = some ge263.e := by kernel_rfl
theorem tS_get264 : (mkT tS).get 264 = some ge264.e := by kernel_rfl
theorem tS_get277 : (mkT tS).get 277 = some ge277.e := by kernel_rfl
theorem tS_get278 : (mkT tS).get 278 = some ge278.e := by kernel_rfl
theorem tS_get279 : (mkT tS).get 279 = some ge279.e := by kernel_rfl
theorem tS_get280 : (mkT tS).get 280 = some ge280.e := by kernel_rfl
theorem tS_get281 : (mkT tS).get 281 = some ge281.e := by kernel_rfl
theorem tS_get291 : (mkT tS).get 291 = some ge291.e := by kernel_rfl
theorem tS_get300 : (mkT tS).get 300 = some ge300.e := by kernel_rfl
theorem tS_get301 : (mkT tS).get 301 = some ge301.e := by kernel_rfl
theorem tS_get302 : (mkT tS).get 302 = some ge302.e := by kernel_rfl
theorem tS_get303 : (mkT tS).get 303 = some ge303.e := by kernel_rfl
theorem tS_get304 : (mkT tS).get 304 = some ge304.e := by kernel_rfl
theorem tS_get305 : (mkT tS).get 305 = some ge305.e := by kernel_rfl
theorem tS_get306 : (mkT tS).get 306 = some ge306.e := by kernel_rfl
theorem tS_get307 : (mkT tS).get 307 = some ge307.e := by kernel_rfl
theorem tS_get308 : (mkT tS).get 308 = some ge308.e := by kernel_rfl
theorem tS_get314 : (mkT tS).get 314 = some ge314.e := by kernel_rfl
theorem tS_get315 : (mkT tS).get 315 = some ge315.e := by kernel_rfl
theorem tS_get316 : (mkT tS).get 316 = some ge316.e := by kernel_rfl
theorem tS_get317 : (mkT tS).get 317 = some ge317.e := by kernel_rfl
theorem tS_get318 : (mkT tS).get 318 = some ge318.e := by kernel_rfl
theorem tS_get319 : (mkT tS).get 319 = some ge319.e := by kernel_rfl
theorem tS_get322 : (mkT tS).get 322 = some ge322.e := by kernel_rfl
theorem tS_get323 : (mkT tS).get 323 = some ge323.e := by kernel_rfl
theorem tS_no184 : (mkT tS).get 184 = none := by kernel_rfl
theorem tS_no106 : (mkT tS).get 106 = none := by kernel_rfl
theorem tS_none : (mkT tS).get 321 = none := by kernel_rfl
noncomputable abbrev E (k : Nat) : Call' := evF (mkT tS) (handG 321 117 (handS 184 (handF 106 107 h1))) K0 k
end Go.Proofs.YtlceligcgelbdaaGreat
