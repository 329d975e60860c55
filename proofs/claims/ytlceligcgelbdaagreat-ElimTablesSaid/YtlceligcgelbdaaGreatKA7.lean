/- slices.Sort and slices.SortFunc: the library's contracts, laid for this program. -/
import Derived.Test.YtlceligcgelbdaaGreatChecked
import Derived.Shelf.Sort.Plain
import Derived.Shelf.SlSortCmp.WholeK
import Derived.KernelRfl
import Derived.WalkKit
import Derived.Orders
import Derived.Test.YtlceligcgelbdaaGreatKA6
set_option linter.unusedVariables false
set_option linter.unusedSimpArgs false
set_option maxRecDepth 100000
namespace Go.Proofs.YtlceligcgelbdaaGreat
open Go.CE Go.RowKit Go.Shelf Go.Sort Go.Proofs
def bKf:Go.Shelf.Ren:=⟨fun | 190=>184 | 125=>189 | 258=>245 | 128=>258 | 129=>259 | 302=>282 | 303=>283 | 304=>284 | 305=>285 | 306=>286 | 307=>287 | 308=>288 | 309=>289 | 310=>290 | 333=>309 | 329=>293 | 330=>294 | 334=>310 | 335=>311 | 336=>190 | 344=>320 | n=>n,fun | 31=>98 | 46=>305 | 51=>117 | 53=>303 | 183=>393 | 182=>392 | 131=>397 | 218=>426 | 222=>430 | 228=>445 | 229=>446 | n=>n,fun | n=>n⟩
theorem bGg : Go.Proofs.Lays.n190 Tryz.prog bKf := {
  mixed:=by kernel_rfl
  f125:=Tryz.func189.trans (congrArg some (by kernel_rfl))
  f128:=Tryz.func258.trans (congrArg some (by kernel_rfl))
  f129:=Tryz.func259.trans (congrArg some (by kernel_rfl))
  f190:=Tryz.func184.trans (congrArg some (by kernel_rfl))
  f258:=Tryz.func245.trans (congrArg some (by kernel_rfl))
  f302:=Tryz.func282.trans (congrArg some (by kernel_rfl))
  f303:=Tryz.func283.trans (congrArg some (by kernel_rfl))
  f304:=Tryz.func284.trans (congrArg some (by kernel_rfl))
  f305:=Tryz.func285.trans (congrArg some (by kernel_rfl))
  f306:=Tryz.func286.trans (congrArg some (by kernel_rfl))
  f307:=Tryz.func287.trans (congrArg some (by kernel_rfl))
  f308:=Tryz.func288.trans (congrArg some (by kernel_rfl))
  f309:=Tryz.func289.trans (congrArg some (by kernel_rfl))
  f310:=Tryz.func290.trans (congrArg some (by kernel_rfl))
  f329:=Tryz.func293.trans (congrArg some (by kernel_rfl))
  f330:=Tryz.func294.trans (congrArg some (by kernel_rfl))
  f333:=Tryz.func309.trans (congrArg some (by kernel_rfl))
  f334:=Tryz.func310.trans (congrArg some (by kernel_rfl))
  f335:=Tryz.func311.trans (congrArg some (by kernel_rfl))
  f336:=Tryz.func190.trans (congrArg some (by kernel_rfl))
  f344:=Tryz.func320.trans (congrArg some (by kernel_rfl))
  t0:=Tryz.underlying0
  a0:=Tryz.isAgg0
  z0:=Tryz.sizeOf0
  v0:=Tryz.zeroValue0
  t3:=Tryz.underlying3
  a3:=Tryz.isAgg3
  z3:=Tryz.sizeOf3
  v3:=Tryz.zeroValue3
  t4:=Tryz.underlying4
  a4:=Tryz.isAgg4
  z4:=Tryz.sizeOf4
  v4:=Tryz.zeroValue4
  t5:=Tryz.underlying5
  a5:=Tryz.isAgg5
  z5:=Tryz.sizeOf5
  v5:=Tryz.zeroValue5
  t9:=Tryz.underlying9
  a9:=Tryz.isAgg9
  z9:=Tryz.sizeOf9
  v9:=Tryz.zeroValue9
  t31:=Tryz.underlying98
  a31:=Tryz.isAgg98
  z31:=Tryz.sizeOf98
  v31:=Tryz.zeroValue98
  t46:=Tryz.underlying305
  a46:=Tryz.isAgg305
  z46:=Tryz.sizeOf305
  v46:=Tryz.zeroValue305
  t51:=Tryz.underlying117
  a51:=Tryz.isAgg117
  z51:=Tryz.sizeOf117
  v51:=Tryz.zeroValue117
  t53:=Tryz.underlying303
  a53:=Tryz.isAgg303
  z53:=Tryz.sizeOf303
  v53:=Tryz.zeroValue303
  t131:=Tryz.underlying397
  a131:=Tryz.isAgg397
  z131:=Tryz.sizeOf397
  v131:=Tryz.zeroValue397
  t182:=Tryz.underlying392
  a182:=Tryz.isAgg392
  z182:=Tryz.sizeOf392
  v182:=Tryz.zeroValue392
  t183:=Tryz.underlying393
  a183:=Tryz.isAgg393
  z183:=Tryz.sizeOf393
  v183:=Tryz.zeroValue393
  t218:=Tryz.underlying426
  a218:=Tryz.isAgg426
  z218:=Tryz.sizeOf426
  v218:=Tryz.zeroValue426
  t222:=Tryz.underlying430
  a222:=Tryz.isAgg430
  z222:=Tryz.sizeOf430
  v222:=Tryz.zeroValue430
  t228:=Tryz.underlying445
  a228:=Tryz.isAgg445
  z228:=Tryz.sizeOf445
  v228:=Tryz.zeroValue445
  t229:=Tryz.underlying446
  a229:=Tryz.isAgg446
  z229:=Tryz.sizeOf446
  v229:=Tryz.zeroValue446 }
def bKe:Go.Shelf.Ren:=⟨fun | 6=>106 | 15=>189 | 14=>188 | 28=>258 | 29=>259 | 20=>250 | 21=>251 | 22=>252 | 23=>253 | 24=>254 | 25=>255 | 26=>256 | 27=>257 | 46=>292 | 47=>293 | 48=>294 | 49=>295 | 50=>296 | 57=>312 | n=>n,fun | 22=>111 | 24=>116 | 25=>239 | 39=>305 | 53=>117 | 55=>303 | 46=>393 | 45=>392 | 50=>397 | 66=>426 | 70=>430 | 76=>445 | 77=>446 | n=>n,fun | n=>n⟩
theorem bF3 : Go.Proofs.SlLaysF0.n6 Tryz.prog bKe := {
  mixed:=by kernel_rfl
  f6:=⟨Tryz.f106.name,by kernel_rfl,Tryz.func106.trans (congrArg some (by kernel_rfl))⟩
  f14:=⟨Tryz.f188.name,by kernel_rfl,Tryz.func188.trans (congrArg some (by kernel_rfl))⟩
  f15:=Tryz.func189.trans (congrArg some (by kernel_rfl))
  f20:=⟨Tryz.f250.name,by kernel_rfl,Tryz.func250.trans (congrArg some (by kernel_rfl))⟩
  f21:=⟨Tryz.f251.name,by kernel_rfl,Tryz.func251.trans (congrArg some (by kernel_rfl))⟩
  f22:=⟨Tryz.f252.name,by kernel_rfl,Tryz.func252.trans (congrArg some (by kernel_rfl))⟩
  f23:=⟨Tryz.f253.name,by kernel_rfl,Tryz.func253.trans (congrArg some (by kernel_rfl))⟩
  f24:=⟨Tryz.f254.name,by kernel_rfl,Tryz.func254.trans (congrArg some (by kernel_rfl))⟩
  f25:=⟨Tryz.f255.name,by kernel_rfl,Tryz.func255.trans (congrArg some (by kernel_rfl))⟩
  f26:=⟨Tryz.f256.name,by kernel_rfl,Tryz.func256.trans (congrArg some (by kernel_rfl))⟩
  f27:=⟨Tryz.f257.name,by kernel_rfl,Tryz.func257.trans (congrArg some (by kernel_rfl))⟩
  f28:=Tryz.func258.trans (congrArg some (by kernel_rfl))
  f29:=Tryz.func259.trans (congrArg some (by kernel_rfl))
  f46:=⟨Tryz.f292.name,by kernel_rfl,Tryz.func292.trans (congrArg some (by kernel_rfl))⟩
  f47:=Tryz.func293.trans (congrArg some (by kernel_rfl))
  f48:=Tryz.func294.trans (congrArg some (by kernel_rfl))
  f49:=⟨Tryz.f295.name,by kernel_rfl,Tryz.func295.trans (congrArg some (by kernel_rfl))⟩
  f50:=⟨Tryz.f296.name,by kernel_rfl,Tryz.func296.trans (congrArg some (by kernel_rfl))⟩
  f57:=⟨Tryz.f312.name,by kernel_rfl,Tryz.func312.trans (congrArg some (by kernel_rfl))⟩
  t0:=Tryz.underlying0
  a0:=Tryz.isAgg0
  z0:=Tryz.sizeOf0
  v0:=Tryz.zeroValue0
  t3:=Tryz.underlying3
  a3:=Tryz.isAgg3
  z3:=Tryz.sizeOf3
  v3:=Tryz.zeroValue3
  t4:=Tryz.underlying4
  a4:=Tryz.isAgg4
  z4:=Tryz.sizeOf4
  v4:=Tryz.zeroValue4
  t5:=Tryz.underlying5
  a5:=Tryz.isAgg5
  z5:=Tryz.sizeOf5
  v5:=Tryz.zeroValue5
  t9:=Tryz.underlying9
  a9:=Tryz.isAgg9
  z9:=Tryz.sizeOf9
  v9:=Tryz.zeroValue9
  t22:=Tryz.underlying111
  a22:=Tryz.isAgg111
  z22:=Tryz.sizeOf111
  v22:=Tryz.zeroValue111
  t25:=Tryz.underlying239
  a25:=Tryz.isAgg239
  z25:=Tryz.sizeOf239
  v25:=Tryz.zeroValue239
  t39:=Tryz.underlying305
  a39:=Tryz.isAgg305
  z39:=Tryz.sizeOf305
  v39:=Tryz.zeroValue305
  t45:=Tryz.underlying392
  a45:=Tryz.isAgg392
  z45:=Tryz.sizeOf392
  v45:=Tryz.zeroValue392
  t46:=Tryz.underlying393
  a46:=Tryz.isAgg393
  z46:=Tryz.sizeOf393
  v46:=Tryz.zeroValue393
  t50:=Tryz.underlying397
  a50:=Tryz.isAgg397
  z50:=Tryz.sizeOf397
  v50:=Tryz.zeroValue397
  t53:=Tryz.underlying117
  a53:=Tryz.isAgg117
  z53:=Tryz.sizeOf117
  v53:=Tryz.zeroValue117
  t55:=Tryz.underlying303
  a55:=Tryz.isAgg303
  z55:=Tryz.sizeOf303
  v55:=Tryz.zeroValue303
  t66:=Tryz.underlying426
  a66:=Tryz.isAgg426
  z66:=Tryz.sizeOf426
  v66:=Tryz.zeroValue426
  t70:=Tryz.underlying430
  a70:=Tryz.isAgg430
  z70:=Tryz.sizeOf430
  v70:=Tryz.zeroValue430
  t76:=Tryz.underlying445
  a76:=Tryz.isAgg445
  z76:=Tryz.sizeOf445
  v76:=Tryz.zeroValue445
  t77:=Tryz.underlying446
  a77:=Tryz.isAgg446
  z77:=Tryz.sizeOf446
  v77:=Tryz.zeroValue446 }
theorem bPC:bHA Tryz.prog 184:=fun blk off cap ss w h1 h2 h3=>Go.Proofs.Any.slices_Sort_string bGg blk off cap ss w h1 h2 h3
theorem bKH (a:List UInt8) (w:World):Calls Tryz.prog 190 #[.string ⟨a.toArray⟩] w fun e w'=>e=.returned (.bool false)∧w'=w:=by
 go_enter Tryz.func190,Tryz.ntmps190
 go_wp2
 go_ret
 exact ⟨by simp,rfl⟩
theorem bSM (a b:List UInt8) (w:World):(binOp .gtr 9 (.string ⟨a.toArray⟩) (.string ⟨b.toArray⟩)).run Tryz.prog w=.ok (.bool (!(Op.bytesLess a b || J6 a b))) w:=Go.Eng.run_binV (P:=Tryz.prog) (t:=9) (op:=.gtr) (x:=.tmp 0) (y:=.tmp 0) (Or.inr (show Tryz.prog.underlying 9=some .string by kernel_rfl)) (bAd (op:=.gtr) (u:=.string ⟨a.toArray⟩) (v:=.string ⟨b.toArray⟩) rfl)
theorem bHx {a b:List UInt8} (h:¬ a<b) (g:¬ a=b):b<a:=by
 refine Decidable.byContradiction fun h2=>g (List.le_antisymm ?_ ?_)
 ·exact List.not_lt.1 h2
 exact List.not_lt.1 h
theorem bPD:SWO (ltOf fun x y:El=>aH4 x.id y.id) where
 irrefl x:=by simp [ltOf,aOj]
 trans x y z h1 h2:=by
  simp only [ltOf,aOj,decide_eq_true_eq] at h1 h2 ⊢
  exact List.lt_trans h1 h2
 ntrans x y z h1 h2:=by
  simp only [ltOf,aOj,decide_eq_false_iff_not] at h1 h2 ⊢
  exact List.not_lt.2 (List.le_trans (List.not_lt.1 h2) (List.not_lt.1 h1))
set_option maxHeartbeats 1000000 in
theorem bTJ (a b:List UInt8) (w:World):Calls Tryz.prog 108 #[.string ⟨a.toArray⟩,.string ⟨b.toArray⟩] w fun e w'=>e=.returned (.int .i64 (aH4 a b))∧w'=w:=by
 go_enter Tryz.func108,Tryz.ntmps108
 go_wp2_with (go_at_call 190;refine (bKH _ _).mono ?_;rintro e w' ⟨rfl,hw⟩;rw [hw])
 ·go_ret
  rename_i h
  rw [bytesLess_eq] at h
  exact ⟨by rw [aH4,if_pos (of_decide_eq_true h)];rfl,rfl⟩
 rename_i h _ _ _ _ _ _
 rw [bSM]
 rw [bytesLess_eq] at h ⊢
 cases hx:(!(decide (a<b) || J6 a b)) with
 | true =>
  go_wp2
  go_ret
  have h3:¬ a<b:=of_decide_eq_false h
  have h4:¬ a=b:=fun e=>by subst e;rw [D5] at hx;simp at hx
  exact ⟨by rw [aH4,if_neg h3,if_pos (bHx h3 h4)];rfl,rfl⟩
 | false =>
  go_wp2
  go_ret
  have h3:¬ a<b:=of_decide_eq_false h
  have h4:a=b:=by
   rw [h,D5] at hx
   simpa using hx
  exact ⟨by rw [aH4,if_neg h3,if_neg (h4 ▸ h3)];rfl,rfl⟩
theorem bSk {l:List Value} (h:l.length=9):∃ a b c d e f g i j,l=[a,b,c,d,e,f,g,i,j]:=by
 match l,h with
 | [a,b,c,d,e,f,g,i,j],_=>exact ⟨a,b,c,d,e,f,g,i,j,rfl⟩
set_option maxHeartbeats 1000000 in
theorem bNq (a b:List UInt8) (x1 x2 x3 x4 x5 x6 x7 x8 x9 y1 y2 y3 y4 y5 y6 y7 y8 y9:Value) (W:World):Calls Tryz.prog 107 #[.agg #[.string ⟨a.toArray⟩,x1,x2,x3,x4,x5,x6,x7,x8,x9],.agg #[.string ⟨b.toArray⟩,y1,y2,y3,y4,y5,y6,y7,y8,y9]] W fun e w'=>e=.returned (.int .i64 (aH4 a b))∧∃ q os',w'=grow (W.drewN q) os':=by
 have hcon:=fun W'=>bTJ a b W'
 generalize aH4 a b=r at hcon ⊢
 go_enter Tryz.func107,Tryz.ntmps107
 go_wp2_with (go_at_call 108;refine (hcon _).mono ?_;rintro e w' ⟨rfl,rfl⟩)
 go_ret
 exact ⟨rfl,0,_,by rw [alloc_eq_grow,alloc_eq_grow,grow_grow];rfl⟩
theorem bIP (blk off size:Nat) (w:World):CmpLays Tryz.prog 107 #[] aEw 10 (fun x y:El=>aH4 x.id y.id) blk off size w:=fun m os dk _ x y=>by
 obtain ⟨xi,xr,xl,_⟩:=x
 obtain ⟨yi,yr,yl,_⟩:=y
 rcases bSk xl with ⟨x1,x2,x3,x4,x5,x6,x7,x8,x9,rfl⟩
 rcases bSk yl with ⟨y1,y2,y3,y4,y5,y6,y7,y8,y9,rfl⟩
 exact bNq xi yi x1 x2 x3 x4 x5 x6 x7 x8 x9 y1 y2 y3 y4 y5 y6 y7 y8 y9 _
theorem bMc:bFD Tryz.prog 106 107:=fun blk off cap d w h1 h2 h3 =>
 Go.Proofs.AnyQ.slices_SortFunc bF3 10 Tryz.isAgg116 Tryz.sizeOf116 aEw (fun x=>by simp [aEw,x.h1]) (fun x v hv=>by rcases List.mem_cons.1 hv with rfl | hv;rfl;exact x.h2 v hv) (fun x y=>aH4 x.id y.id) bPD 107 #[] blk off cap d w (enters_of Tryz.func107 (by kernel_rfl) rfl) (bIP blk off d.size w) h1 h2 h3
end Go.Proofs.YtlceligcgelbdaaGreat
