/- The code of the functions that are walked through, found in the program. -/
import Derived.Test.YtlceligcgelbdaaGreatChecked
import Derived.KernelRfl
import Derived.WalkKit
import Derived.Orders
import Derived.Test.YtlceligcgelbdaaGreatBK4
set_option linter.unusedVariables false
set_option maxRecDepth 100000
set_option maxHeartbeats 4000000
namespace Go.Proofs.YtlceligcgelbdaaGreat
open Go.CE Go.RowKit
abbrev K0 : Nat := 18446744073709551616
theorem aC {P : Program} {f : Nat} {e : FE} {l : List (Nat × FE)} (h : FOk P f e) (g : ∀ p, p ∈ l → FOk P p.1 p.2) : ∀ p, p ∈ (f, e) :: l → FOk P p.1 p.2 := by
  intro p hp
  rcases List.mem_cons.1 hp with rfl | hp
  · exact h
  · exact g p hp
def ge8 : Fc Tryz.prog Tryz.f8 := .m _
theorem oks8 : FOk Tryz.prog 8 ge8.e := ge8.ok Tryz.func8
def ge48 : Fc Tryz.prog Tryz.f48 := .m _
theorem oks48 : FOk Tryz.prog 48 ge48.e := ge48.ok Tryz.func48
def ge49 : Fc Tryz.prog Tryz.f49 := .m _
theorem oks49 : FOk Tryz.prog 49 ge49.e := ge49.ok Tryz.func49
def ge50 : Fc Tryz.prog Tryz.f50 := .m _
theorem oks50 : FOk Tryz.prog 50 ge50.e := ge50.ok Tryz.func50
def ge51 : Fc Tryz.prog Tryz.f51 := .m _
theorem oks51 : FOk Tryz.prog 51 ge51.e := ge51.ok Tryz.func51
def ge52 : Fc Tryz.prog Tryz.f52 := .m _
theorem oks52 : FOk Tryz.prog 52 ge52.e := ge52.ok Tryz.func52
def ge61 : Fc Tryz.prog Tryz.f61 := .m _
theorem oks61 : FOk Tryz.prog 61 ge61.e := ge61.ok Tryz.func61
def ge64 : Fc Tryz.prog Tryz.f64 := .m _
theorem oks64 : FOk Tryz.prog 64 ge64.e := ge64.ok Tryz.func64
def ge73 : Fc Tryz.prog Tryz.f73 := .m _
theorem oks73 : FOk Tryz.prog 73 ge73.e := ge73.ok Tryz.func73
def ge76 : Fc Tryz.prog Tryz.f76 := .m _
theorem oks76 : FOk Tryz.prog 76 ge76.e := ge76.ok Tryz.func76
def ge83 : Fc Tryz.prog Tryz.f83 := .m _
theorem oks83 : FOk Tryz.prog 83 ge83.e := ge83.ok Tryz.func83
def ge84 : Fc Tryz.prog Tryz.f84 := .m _
theorem oks84 : FOk Tryz.prog 84 ge84.e := ge84.ok Tryz.func84
def ge86 : Fc Tryz.prog Tryz.f86 := .m _
theorem oks86 : FOk Tryz.prog 86 ge86.e := ge86.ok Tryz.func86
def ge88 : Fc Tryz.prog Tryz.f88 := .m _
theorem oks88 : FOk Tryz.prog 88 ge88.e := ge88.ok Tryz.func88
def ge90 : Fc Tryz.prog Tryz.f90 := .m _
theorem oks90 : FOk Tryz.prog 90 ge90.e := ge90.ok Tryz.func90
def ge100 : Fc Tryz.prog Tryz.f100 := .m _
theorem oks100 : FOk Tryz.prog 100 ge100.e := ge100.ok Tryz.func100
def ge104 : Fc Tryz.prog Tryz.f104 := .m _
theorem oks104 : FOk Tryz.prog 104 ge104.e := ge104.ok Tryz.func104
def ge111 : Fc Tryz.prog Tryz.f111 := .m _
theorem oks111 : FOk Tryz.prog 111 ge111.e := ge111.ok Tryz.func111
def ge112 : Fc Tryz.prog Tryz.f112 := .m _
theorem oks112 : FOk Tryz.prog 112 ge112.e := ge112.ok Tryz.func112
def ge127 : Fc Tryz.prog Tryz.f127 := .m _
theorem oks127 : FOk Tryz.prog 127 ge127.e := ge127.ok Tryz.func127
def ge128 : Fc Tryz.prog Tryz.f128 := .m _
theorem oks128 : FOk Tryz.prog 128 ge128.e := ge128.ok Tryz.func128
def ge132 : Fc Tryz.prog Tryz.f132 := .m _
theorem oks132 : FOk Tryz.prog 132 ge132.e := ge132.ok Tryz.func132
def ge133 : Fc Tryz.prog Tryz.f133 := .m _
theorem oks133 : FOk Tryz.prog 133 ge133.e := ge133.ok Tryz.func133
def ge134 : Fc Tryz.prog Tryz.f134 := .m _
theorem oks134 : FOk Tryz.prog 134 ge134.e := ge134.ok Tryz.func134
def ge145 : Fc Tryz.prog Tryz.f145 := .m _
theorem oks145 : FOk Tryz.prog 145 ge145.e := ge145.ok Tryz.func145
def ge146 : Fc Tryz.prog Tryz.f146 := .m _
theorem oks146 : FOk Tryz.prog 146 ge146.e := ge146.ok Tryz.func146
def ge148 : Fc Tryz.prog Tryz.f148 := .m _
theorem oks148 : FOk Tryz.prog 148 ge148.e := ge148.ok Tryz.func148
def ge149 : Fc Tryz.prog Tryz.f149 := .m _
theorem oks149 : FOk Tryz.prog 149 ge149.e := ge149.ok Tryz.func149
def ge153 : Fc Tryz.prog Tryz.f153 := .m _
theorem oks153 : FOk Tryz.prog 153 ge153.e := ge153.ok Tryz.func153
def ge163 : Fc Tryz.prog Tryz.f163 := .m _
theorem oks163 : FOk Tryz.prog 163 ge163.e := ge163.ok Tryz.func163
def ge164 : Fc Tryz.prog Tryz.f164 := .m _
theorem oks164 : FOk Tryz.prog 164 ge164.e := ge164.ok Tryz.func164
def ge169 : Fc Tryz.prog Tryz.f169 := .m _
theorem oks169 : FOk Tryz.prog 169 ge169.e := ge169.ok Tryz.func169
def ge170 : Fc Tryz.prog Tryz.f170 := .m _
theorem oks170 : FOk Tryz.prog 170 ge170.e := ge170.ok Tryz.func170
def ge192 : Fc Tryz.prog Tryz.f192 := .m _
theorem oks192 : FOk Tryz.prog 192 ge192.e := ge192.ok Tryz.func192
def ge210 : Fc Tryz.prog Tryz.f210 := .m _
theorem oks210 : FOk Tryz.prog 210 ge210.e := ge210.ok Tryz.func210
def ge211 : Fc Tryz.prog Tryz.f211 := .m _
theorem oks211 : FOk Tryz.prog 211 ge211.e := ge211.ok Tryz.func211
def ge212 : Fc Tryz.prog Tryz.f212 := .m _
theorem oks212 : FOk Tryz.prog 212 ge212.e := ge212.ok Tryz.func212
def ge213 : Fc Tryz.prog Tryz.f213 := .m _
theorem oks213 : FOk Tryz.prog 213 ge213.e := ge213.ok Tryz.func213
def ge214 : Fc Tryz.prog Tryz.f214 := .m _
theorem oks214 : FOk Tryz.prog 214 ge214.e := ge214.ok Tryz.func214
def ge215 : Fc Tryz.prog Tryz.f215 := .m _
theorem oks215 : FOk Tryz.prog 215 ge215.e := ge215.ok Tryz.func215
def ge216 : Fc Tryz.prog Tryz.f216 := .m _
theorem oks216 : FOk Tryz.prog 216 ge216.e := ge216.ok Tryz.func216
def ge217 : Fc Tryz.prog Tryz.f217 := .m _
theorem oks217 : FOk Tryz.prog 217 ge217.e := ge217.ok Tryz.func217
def ge218 : Fc Tryz.prog Tryz.f218 := .m _
theorem oks218 : FOk Tryz.prog 218 ge218.e := ge218.ok Tryz.func218
def ge219 : Fc Tryz.prog Tryz.f219 := .m _
theorem oks219 : FOk Tryz.prog 219 ge219.e := ge219.ok Tryz.func219
def ge220 : Fc Tryz.prog Tryz.f220 := .m _
theorem oks220 : FOk Tryz.prog 220 ge220.e := ge220.ok Tryz.func220
def ge233 : Fc Tryz.prog Tryz.f233 := .m _
theorem oks233 : FOk Tryz.prog 233 ge233.e := ge233.ok Tryz.func233
def ge234 : Fc Tryz.prog Tryz.f234 := .m _
theorem oks234 : FOk Tryz.prog 234 ge234.e := ge234.ok Tryz.func234
def ge236 : Fc Tryz.prog Tryz.f236 := .m _
theorem oks236 : FOk Tryz.prog 236 ge236.e := ge236.ok Tryz.func236
def ge237 : Fc Tryz.prog Tryz.f237 := .m _
theorem oks237 : FOk Tryz.prog 237 ge237.e := ge237.ok Tryz.func237
def ge240 : Fc Tryz.prog Tryz.f240 := .m _
theorem oks240 : FOk Tryz.prog 240 ge240.e := ge240.ok Tryz.func240
def ge242 : Fc Tryz.prog Tryz.f242 := .m _
theorem oks242 : FOk Tryz.prog 242 ge242.e := ge242.ok Tryz.func242
def ge243 : Fc Tryz.prog Tryz.f243 := .m _
theorem oks243 : FOk Tryz.prog 243 ge243.e := ge243.ok Tryz.func243
def ge258 : Fc Tryz.prog Tryz.f258 := .m _
theorem oks258 : FOk Tryz.prog 258 ge258.e := ge258.ok Tryz.func258
def ge265 : Fc Tryz.prog Tryz.f265 := .m _
theorem oks265 : FOk Tryz.prog 265 ge265.e := ge265.ok Tryz.func265
def ge266 : Fc Tryz.prog Tryz.f266 := .m _
theorem oks266 : FOk Tryz.prog 266 ge266.e := ge266.ok Tryz.func266
def ge267 : Fc Tryz.prog Tryz.f267 := .m _
theorem oks267 : FOk Tryz.prog 267 ge267.e := ge267.ok Tryz.func267
def ge268 : Fc Tryz.prog Tryz.f268 := .m _
theorem oks268 : FOk Tryz.prog 268 ge268.e := ge268.ok Tryz.func268
def ge269 : Fc Tryz.prog Tryz.f269 := .m _
theorem oks269 : FOk Tryz.prog 269 ge269.e := ge269.ok Tryz.func269
def ge270 : Fc Tryz.prog Tryz.f270 := .m _
theorem oks270 : FOk Tryz.prog 270 ge270.e := ge270.ok Tryz.func270
def ge271 : Fc Tryz.prog Tryz.f271 := .m _
theorem oks271 : FOk Tryz.prog 271 ge271.e := ge271.ok Tryz.func271
def ge272 : Fc Tryz.prog Tryz.f272 := .m _
theorem oks272 : FOk Tryz.prog 272 ge272.e := ge272.ok Tryz.func272
def ge273 : Fc Tryz.prog Tryz.f273 := .m _
theorem oks273 : FOk Tryz.prog 273 ge273.e := ge273.ok Tryz.func273
def ge277 : Fc Tryz.prog Tryz.f277 := .m _
theorem oks277 : FOk Tryz.prog 277 ge277.e := ge277.ok Tryz.func277
def ge278 : Fc Tryz.prog Tryz.f278 := .m _
theorem oks278 : FOk Tryz.prog 278 ge278.e := ge278.ok Tryz.func278
def ge279 : Fc Tryz.prog Tryz.f279 := .m _
theorem oks279 : FOk Tryz.prog 279 ge279.e := ge279.ok Tryz.func279
def ge280 : Fc Tryz.prog Tryz.f280 := .m _
theorem oks280 : FOk Tryz.prog 280 ge280.e := ge280.ok Tryz.func280
def ge281 : Fc Tryz.prog Tryz.f281 := .m _
theorem oks281 : FOk Tryz.prog 281 ge281.e := ge281.ok Tryz.func281
def ge297 : Fc Tryz.prog Tryz.f297 := .m _
theorem oks297 : FOk Tryz.prog 297 ge297.e := ge297.ok Tryz.func297
def ge298 : Fc Tryz.prog Tryz.f298 := .m _
theorem oks298 : FOk Tryz.prog 298 ge298.e := ge298.ok Tryz.func298
def ge299 : Fc Tryz.prog Tryz.f299 := .m _
theorem oks299 : FOk Tryz.prog 299 ge299.e := ge299.ok Tryz.func299
def ge300 : Fc Tryz.prog Tryz.f300 := .m _
theorem oks300 : FOk Tryz.prog 300 ge300.e := ge300.ok Tryz.func300
def ge301 : Fc Tryz.prog Tryz.f301 := .m _
theorem oks301 : FOk Tryz.prog 301 ge301.e := ge301.ok Tryz.func301
def ge302 : Fc Tryz.prog Tryz.f302 := .m _
theorem oks302 : FOk Tryz.prog 302 ge302.e := ge302.ok Tryz.func302
def ge303 : Fc Tryz.prog Tryz.f303 := .m _
theorem oks303 : FOk Tryz.prog 303 ge303.e := ge303.ok Tryz.func303
def ge304 : Fc Tryz.prog Tryz.f304 := .m _
theorem oks304 : FOk Tryz.prog 304 ge304.e := ge304.ok Tryz.func304
def ge305 : Fc Tryz.prog Tryz.f305 := .m _
theorem oks305 : FOk Tryz.prog 305 ge305.e := ge305.ok Tryz.func305
def ge306 : Fc Tryz.prog Tryz.f306 := .m _
theorem oks306 : FOk Tryz.prog 306 ge306.e := ge306.ok Tryz.func306
def ge307 : Fc Tryz.prog Tryz.f307 := .m _
theorem oks307 : FOk Tryz.prog 307 ge307.e := ge307.ok Tryz.func307
def ge308 : Fc Tryz.prog Tryz.f308 := .m _
theorem oks308 : FOk Tryz.prog 308 ge308.e := ge308.ok Tryz.func308
def ge313 : Fc Tryz.prog Tryz.f313 := .m _
theorem oks313 : FOk Tryz.prog 313 ge313.e := ge313.ok Tryz.func313
def ge314 : Fc Tryz.prog Tryz.f314 := .m _
theorem oks314 : FOk Tryz.prog 314 ge314.e := ge314.ok Tryz.func314
def ge315 : Fc Tryz.prog Tryz.f315 := .m _
theorem oks315 : FOk Tryz.prog 315 ge315.e := ge315.ok Tryz.func315
def ge316 : Fc Tryz.prog Tryz.f316 := .m _
theorem oks316 : FOk Tryz.prog 316 ge316.e := ge316.ok Tryz.func316
def ge317 : Fc Tryz.prog Tryz.f317 := .m _
theorem oks317 : FOk Tryz.prog 317 ge317.e := ge317.ok Tryz.func317
def ge318 : Fc Tryz.prog Tryz.f318 := .m _
theorem oks318 : FOk Tryz.prog 318 ge318.e := ge318.ok Tryz.func318
def ge319 : Fc Tryz.prog Tryz.f319 := .m _
theorem oks319 : FOk Tryz.prog 319 ge319.e := ge319.ok Tryz.func319
def ge322 : Fc Tryz.prog Tryz.f322 := .m _
theorem oks322 : FOk Tryz.prog 322 ge322.e := ge322.ok Tryz.func322
def ge323 : Fc Tryz.prog Tryz.f323 := .m _
theorem oks323 : FOk Tryz.prog 323 ge323.e := ge323.ok Tryz.func323
def tS : List (Nat × FE) := [(8, ge8.e), (48, ge48.e), (49, ge49.e), (50, ge50.e), (51, ge51.e), (52, ge52.e), (61, ge61.e), (64, ge64.e), (73, ge73.e), (76, ge76.e), (83, ge83.e), (84, ge84.e), (86, ge86.e), (88, ge88.e), (90, ge90.e), (100, ge100.e), (104, ge104.e), (111, ge111.e), (112, ge112.e), (127, ge127.e), (128, ge128.e), (132, ge132.e), (133, ge133.e), (134, ge134.e), (145, ge145.e), (146, ge146.e), (148, ge148.e), (149, ge149.e), (153, ge153.e), (163, ge163.e), (164, ge164.e), (169, ge169.e), (170, ge170.e), (192, ge192.e), (210, ge210.e), (211, ge211.e), (212, ge212.e), (213, ge213.e), (214, ge214.e), (215, ge215.e), (216, ge216.e), (217, ge217.e), (218, ge218.e), (219, ge219.e), (220, ge220.e), (233, ge233.e), (234, ge234.e), (236, ge236.e), (237, ge237.e), (240, ge240.e), (242, ge242.e), (243, ge243.e), (258, ge258.e), (265, ge265.e), (266, ge266.e), (267, ge267.e), (268, ge268.e), (269, ge269.e), (270, ge270.e), (271, ge271.e), (272, ge272.e), (273, ge273.e), (277, ge277.e), (278, ge278.e), (279, ge279.e), (280, ge280.e), (281, ge281.e), (297, ge297.e), (298, ge298.e), (299, ge299.e), (300, ge300.e), (301, ge301.e), (302, ge302.e), (303, ge303.e), (304, ge304.e), (305, ge305.e), (306, ge306.e), (307, ge307.e), (308, ge308.e), (313, ge313.e), (314, ge314.e), (315, ge315.e), (316, ge316.e), (317, ge317.e), (318, ge318.e), (319, ge319.e), (322, ge322.e), (323, ge323.e)]
theorem tS_ok : TblOk Tryz.prog (mkT tS) := mkT_ok (aC oks8 (aC oks48 (aC oks49 (aC oks50 (aC oks51 (aC oks52 (aC oks61 (aC oks64 (aC oks73 (aC oks76 (aC oks83 (aC oks84 (aC oks86 (aC oks88 (aC oks90 (aC oks100 (aC oks104 (aC oks111 (aC oks112 (aC oks127 (aC oks128 (aC oks132 (aC oks133 (aC oks134 (aC oks145 (aC oks146 (aC oks148 (aC oks149 (aC oks153 (aC oks163 (aC oks164 (aC oks169 (aC oks170 (aC oks192 (aC oks210 (aC oks211 (aC oks212 (aC oks213 (aC oks214 (aC oks215 (aC oks216 (aC oks217 (aC oks218 (aC oks219 (aC oks220 (aC oks233 (aC oks234 (aC oks236 (aC oks237 (aC oks240 (aC oks242 (aC oks243 (aC oks258 (aC oks265 (aC oks266 (aC oks267 (aC oks268 (aC oks269 (aC oks270 (aC oks271 (aC oks272 (aC oks273 (aC oks277 (aC oks278 (aC oks279 (aC oks280 (aC oks281 (aC oks297 (aC oks298 (aC oks299 (aC oks300 (aC oks301 (aC oks302 (aC oks303 (aC oks304 (aC oks305 (aC oks306 (aC oks307 (aC oks308 (aC oks313 (aC oks314 (aC oks315 (aC oks316 (aC oks317 (aC oks318 (aC oks319 (aC oks322 (aC oks323 (fun p hp => absurd hp List.not_mem_nil)))))))))))))))))))))))))))))))))))))))))))))))))))))))))))))))))))))))))))))))))))))))))
theorem tS_get8 : (mkT tS).get 8 = some ge8.e := by kernel_rfl
theorem tS_get48 : (mkT tS).get 48 = some ge48.e := by kernel_rfl
theorem tS_get49 : (mkT tS).get 49 = some ge49.e := by kernel_rfl
theorem tS_get50 : (mkT tS).get 50 = some ge50.e := by kernel_rfl
theorem tS_get51 : (mkT tS).get 51 = some ge51.e := by kernel_rfl
theorem tS_get52 : (mkT tS).get 52 = some ge52.e := by kernel_rfl
theorem tS_get61 : (mkT tS).get 61 = some ge61.e := by kernel_rfl
theorem tS_get64 : (mkT tS).get 64 = some ge64.e := by kernel_rfl
theorem tS_get73 : (mkT tS).get 73 = some ge73.e := by kernel_rfl
theorem tS_get76 : (mkT tS).get 76 = some ge76.e := by kernel_rfl
theorem tS_get83 : (mkT tS).get 83 = some ge83.e := by kernel_rfl
theorem tS_get84 : (mkT tS).get 84 = some ge84.e := by kernel_rfl
theorem tS_get86 : (mkT tS).get 86 = some ge86.e := by kernel_rfl
theorem tS_get88 : (mkT tS).get 88 = some ge88.e := by kernel_rfl
theorem tS_get90 : (mkT tS).get 90 = some ge90.e := by kernel_rfl
theorem tS_get100 : (mkT tS).get 100 = some ge100.e := by kernel_rfl
theorem tS_get104 : (mkT tS).get 104 = some ge104.e := by kernel_rfl
theorem tS_get111 : (mkT tS).get 111 = some ge111.e := by kernel_rfl
theorem tS_get112 : (mkT tS).get 112 = some ge112.e := by kernel_rfl
theorem tS_get127 : (mkT tS).get 127 = some ge127.e := by kernel_rfl
theorem tS_get128 : (mkT tS).get 128 = some ge128.e := by kernel_rfl
theorem tS_get132 : (mkT tS).get 132 = some ge132.e := by kernel_rfl
theorem tS_get133 : (mkT tS).get 133 = some ge133.e := by kernel_rfl
theorem tS_get134 : (mkT tS).get 134 = some ge134.e := by kernel_rfl
theorem tS_get145 : (mkT tS).get 145 = some ge145.e := by kernel_rfl
theorem tS_get146 : (mkT tS).get 146 = some ge146.e := by kernel_rfl
theorem tS_get148 : (mkT tS).get 148 = some ge148.e := by kernel_rfl
theorem tS_get149 : (mkT tS).get 149 = some ge149.e := by kernel_rfl
theorem tS_get153 : (mkT tS).get 153 = some ge153.e := by kernel_rfl
theorem tS_get163 : (mkT tS).get 163 = some ge163.e := by kernel_rfl
theorem tS_get164 : (mkT tS).get 164 = some ge164.e := by kernel_rfl
theorem tS_get169 : (mkT tS).get 169 = some ge169.e := by kernel_rfl
theorem tS_get170 : (mkT tS).get 170 = some ge170.e := by kernel_rfl
theorem tS_get192 : (mkT tS).get 192 = some ge192.e := by kernel_rfl
theorem tS_get210 : (mkT tS).get 210 = some ge210.e := by kernel_rfl
theorem tS_get211 : (mkT tS).get 211 = some ge211.e := by kernel_rfl
theorem tS_get212 : (mkT tS).get 212 = some ge212.e := by kernel_rfl
theorem tS_get213 : (mkT tS).get 213 = some ge213.e := by kernel_rfl
theorem tS_get214 : (mkT tS).get 214 = some ge214.e := by kernel_rfl
theorem tS_get215 : (mkT tS).get 215 = some ge215.e := by kernel_rfl
theorem tS_get216 : (mkT tS).get 216 = some ge216.e := by kernel_rfl
theorem tS_get217 : (mkT tS).get 217 = some ge217.e := by kernel_rfl
theorem tS_get218 : (mkT tS).get 218 = some ge218.e := by kernel_rfl
theorem tS_get219 : (mkT tS).get 219 = some ge219.e := by kernel_rfl
theorem tS_get220 : (mkT tS).get 220 = some ge220.e := by kernel_rfl
theorem tS_get233 : (mkT tS).get 233 = some ge233.e := by kernel_rfl
theorem tS_get234 : (mkT tS).get 234 = some ge234.e := by kernel_rfl
theorem tS_get236 : (mkT tS).get 236 = some ge236.e := by kernel_rfl
theorem tS_get237 : (mkT tS).get 237 = some ge237.e := by kernel_rfl
theorem tS_get240 : (mkT tS).get 240 = some ge240.e := by kernel_rfl
theorem tS_get242 : (mkT tS).get 242 = some ge242.e := by kernel_rfl
theorem tS_get243 : (mkT tS).get 243 = some ge243.e := by kernel_rfl
theorem tS_get258 : (mkT tS).get 258 = some ge258.e := by kernel_rfl
theorem tS_get265 : (mkT tS).get 265 = some ge265.e := by kernel_rfl
theorem tS_get266 : (mkT tS).get 266 = some ge266.e := by kernel_rfl
theorem tS_get267 : (mkT tS).get 267 = some ge267.e := by kernel_rfl
theorem tS_get268 : (mkT tS).get 268 = some ge268.e := by kernel_rfl
theorem tS_get269 : (mkT tS).get 269 = some ge269.e := by kernel_rfl
theorem tS_get270 : (mkT tS).get 270 = some ge270.e := by kernel_rfl
theorem tS_get271 : (mkT tS).get 271 = some ge271.e := by kernel_rfl
theorem tS_get272 : (mkT tS).get 272 = some ge272.e := by kernel_rfl
theorem tS_get273 : (mkT tS).get 273 = some ge273.e := by kernel_rfl
theorem tS_get277 : (mkT tS).get 277 = some ge277.e := by kernel_rfl
theorem tS_get278 : (mkT tS).get 278 = some ge278.e := by kernel_rfl
theorem tS_get279 : (mkT tS).get 279 = some ge279.e := by kernel_rfl
theorem tS_get280 : (mkT tS).get 280 = some ge280.e := by kernel_rfl
theorem tS_get281 : (mkT tS).get 281 = some ge281.e := by kernel_rfl
theorem tS_get297 : (mkT tS).get 297 = some ge297.e := by kernel_rfl
theorem tS_get298 : (mkT tS).get 298 = some ge298.e := by kernel_rfl
theorem tS_get299 : (mkT tS).get 299 = some ge299.e := by kernel_rfl
theorem tS_get300 : (mkT tS).get 300 = some ge300.e := by kernel_rfl
theorem tS_get301 : (mkT tS).get 301 = some ge301.e := by kernel_rfl
theorem tS_get302 : (mkT tS).get 302 = some ge302.e := by kernel_rfl
theorem tS_get303 : (mkT tS).get 303 = some ge303.e := by kernel_rfl
theorem tS_get304 : (mkT tS).get 304 = some ge304.e := by kernel_rfl
theorem tS_get305 : (mkT tS).get 305 = some ge305.e := by kernel_rfl
theorem tS_get306 : (mkT tS).get 306 = some ge306.e := by kernel_rfl
theorem tS_get307 : (mkT tS).get 307 = some ge307.e := by kernel_rfl
theorem tS_get308 : (mkT tS).get 308 = some ge308.e := by kernel_rfl
theorem tS_get313 : (mkT tS).get 313 = some ge313.e := by kernel_rfl
theorem tS_get314 : (mkT tS).get 314 = some ge314.e := by kernel_rfl
theorem tS_get315 : (mkT tS).get 315 = some ge315.e := by kernel_rfl
theorem tS_get316 : (mkT tS).get 316 = some ge316.e := by kernel_rfl
theorem tS_get317 : (mkT tS).get 317 = some ge317.e := by kernel_rfl
theorem tS_get318 : (mkT tS).get 318 = some ge318.e := by kernel_rfl
theorem tS_get319 : (mkT tS).get 319 = some ge319.e := by kernel_rfl
theorem tS_get322 : (mkT tS).get 322 = some ge322.e := by kernel_rfl
theorem tS_get323 : (mkT tS).get 323 = some ge323.e := by kernel_rfl
theorem tS_none : (mkT tS).get 321 = none := by kernel_rfl
noncomputable abbrev E (k : Nat) : Call' := evF (mkT tS) (handG 321 117 (handL [e331] noHand)) K0 k
end Go.Proofs.YtlceligcgelbdaaGreat
