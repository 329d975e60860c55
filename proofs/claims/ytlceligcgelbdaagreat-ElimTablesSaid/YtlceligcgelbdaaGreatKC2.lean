/- The code of the functions that are walked through, found in the program. -/
import Derived.Test.YtlceligcgelbdaaGreatChecked
import Derived.KernelRfl
import Derived.WalkKit
import Derived.Orders
import Derived.Test.YtlceligcgelbdaaGreatKA6
set_option linter.unusedVariables false
set_option maxRecDepth 100000
set_option maxHeartbeats 4000000
namespace Go.Proofs.YtlceligcgelbdaaGreat
open Go.CE Go.RowKit
theorem aDp {P:Program} {f:Nat} {e:FE} {l:List (Nat×FE)} (h:gU P f e) (g:∀ p,p∈l→gU P p.1 p.2):∀ p,p∈(f,e)::l→gU P p.1 p.2:=by
 intro p hp
 rcases List.mem_cons.1 hp with rfl | hp
 ·exact h
 exact g p hp
theorem aMA {P:Program} {f:Nat} {e:FE} {l:List (Nat×FE)} (h:∀ p∈e.x.rgs,gU P p.1 p.2) (g:∀ p∈l,∀ q∈p.2.x.rgs,gU P q.1 q.2):∀ p∈(f,e)::l,∀ q∈p.2.x.rgs,gU P q.1 q.2:=by
 intro p hp
 rcases List.mem_cons.1 hp with rfl | hp
 ·exact h
 exact g p hp
def aX2:Fc Tryz.prog Tryz.f106:=.m _
theorem bNA:gU Tryz.prog 106 aX2.e:=aX2.ok Tryz.func106
def aYT:Fc Tryz.prog Tryz.f184:=.m _
theorem bM3:gU Tryz.prog 184 aYT.e:=aYT.ok Tryz.func184
def aY3:Fc Tryz.prog Tryz.f188:=.m _
theorem bPn:gU Tryz.prog 188 aY3.e:=aY3.ok Tryz.func188
def aYU:Fc Tryz.prog Tryz.f189:=.m _
theorem bNH:gU Tryz.prog 189 aYU.e:=aYU.ok Tryz.func189
def aXL:Fc Tryz.prog Tryz.f245:=.m _
theorem bQK:gU Tryz.prog 245 aXL.e:=aXL.ok Tryz.func245
def aYi:Fc Tryz.prog Tryz.f250:=.m _
theorem bQS:gU Tryz.prog 250 aYi.e:=aYi.ok Tryz.func250
def aYa:Fc Tryz.prog Tryz.f259:=.m _
theorem bOG:gU Tryz.prog 259 aYa.e:=aYa.ok Tryz.func259
def aXD:Fc Tryz.prog Tryz.f282:=.m _
theorem bQB:gU Tryz.prog 282 aXD.e:=aXD.ok Tryz.func282
def tN:List (Nat×FE):=[(106,aX2.e),(184,aYT.e),(188,aY3.e),(189,aYU.e),(245,aXL.e),(250,aYi.e),(259,aYa.e),(282,aXD.e)]
theorem bT6:aVq Tryz.prog (pC tN):=bG8 (aDp bNA (aDp bM3 (aDp bPn (aDp bNH (aDp bQK (aDp bQS (aDp bOG (aDp bQB (fun p hp=>absurd hp List.not_mem_nil)))))))))
theorem bMj:∀ p∈aX2.e.x.rgs,gU Tryz.prog p.1 p.2:=aX2.rg0
theorem bNO:∀ p∈aYT.e.x.rgs,gU Tryz.prog p.1 p.2:=aYT.rg0
theorem bNR:∀ p∈aY3.e.x.rgs,gU Tryz.prog p.1 p.2:=aY3.rg0
theorem bQl:∀ p∈aYU.e.x.rgs,gU Tryz.prog p.1 p.2:=aYU.rg0
theorem bNw:∀ p∈aXL.e.x.rgs,gU Tryz.prog p.1 p.2:=aXL.rg0
theorem bOv:∀ p∈aYi.e.x.rgs,gU Tryz.prog p.1 p.2:=aYi.rg0
theorem bRb:∀ p∈aYa.e.x.rgs,gU Tryz.prog p.1 p.2:=aYa.rg0
theorem bQ2:∀ p∈aXD.e.x.rgs,gU Tryz.prog p.1 p.2:=aXD.rg0
theorem bRT:bBq Tryz.prog (pC tN):=bG4 (aMA (f:=106) bMj (aMA (f:=184) bNO (aMA (f:=188) bNR (aMA (f:=189) bQl (aMA (f:=245) bNw (aMA (f:=250) bOv (aMA (f:=259) bRb (aMA (f:=282) bQ2 (fun p hp=>absurd hp List.not_mem_nil)))))))))
theorem bPV:Tryz.prog.follows .mixedOrders=true:=by kernel_rfl
theorem bV7:Tryz.prog.funcs.size≤1000000:=Nat.le_of_ble_eq_true (by kernel_rfl)
noncomputable abbrev h1:eE:=evF (pC tN) bA8 100000 20
theorem bT2:Bt Tryz.prog h1:=bFc bPV bT6 bRT bV7 aYA 100000 20
theorem bOr (mem:Tr mU) (nx:Nat):h1 184 [rC] mem nx=some (.tup [],mem,nx):=by kernel_rfl
theorem bPB (mem:Tr mU) (nx:Nat):h1 106 [rC,.c (.fn 107 [] [])] mem nx=some (.tup [],mem,nx):=by kernel_rfl
open Go.CE Go.RowKit
abbrev K0 : Nat := 18446744073709551616
theorem aC {P : Program} {f : Nat} {e : FE} {l : List (Nat × FE)} (h : gU P f e) (g : ∀ p, p ∈ l → gU P p.1 p.2) : ∀ p, p ∈ (f, e) :: l → gU P p.1 p.2 := by
  intro p hp
  rcases List.mem_cons.1 hp with rfl | hp
  · exact h
  · exact g p hp
abbrev Iq (d : Nat) (o : lS) : I := ⟨some d, none, o⟩
abbrev Iv (d g : Nat) (o : lS) : I := ⟨some d, some (g, false), o⟩
abbrev Iw (d g : Nat) (o : lS) : I := ⟨some d, some (g, true), o⟩
abbrev Is (o : lS) : I := ⟨none, none, o⟩
abbrev Im (d : Nat) (x : Go.Eng.Od) : I := ⟨some d, none, .mv x⟩
abbrev Kf : Go.Eng.Od := .k (.bool false)
abbrev Kt : Go.Eng.Od := .k (.bool true)
abbrev Ki (n : Int) : Go.Eng.Od := .k (.int .i64 n)
abbrev Zf : Value := .bool false
abbrev Zs : Value := .slice none 0 0
abbrev Zi : Value := .int .i64 0
abbrev Ze : Value := .string ⟨#[]⟩
abbrev Zq (a b : XC) : XC := .seq a b
abbrev Rg (l : List I) : XC := .region l
abbrev Lt (s : Nat) (x : Go.Eng.Od) : lS := .load true s x
abbrev Lo (x : Go.Eng.Od) : lS := .load false 1 x
abbrev T0 : Go.Eng.Od := .t 0
abbrev T1 : Go.Eng.Od := .t 1
abbrev T2 : Go.Eng.Od := .t 2
abbrev T4 : Go.Eng.Od := .t 4
abbrev T7 : Go.Eng.Od := .t 7
abbrev T8 : Go.Eng.Od := .t 8
abbrev T9 : Go.Eng.Od := .t 9
abbrev T10 : Go.Eng.Od := .t 10
abbrev T11 : Go.Eng.Od := .t 11
abbrev T12 : Go.Eng.Od := .t 12
abbrev T13 : Go.Eng.Od := .t 13
abbrev T14 : Go.Eng.Od := .t 14
abbrev T15 : Go.Eng.Od := .t 15
abbrev T16 : Go.Eng.Od := .t 16
abbrev T17 : Go.Eng.Od := .t 17
abbrev T18 : Go.Eng.Od := .t 18
abbrev T19 : Go.Eng.Od := .t 19
abbrev T20 : Go.Eng.Od := .t 20
abbrev T21 : Go.Eng.Od := .t 21
abbrev T22 : Go.Eng.Od := .t 22
abbrev T23 : Go.Eng.Od := .t 23
abbrev T24 : Go.Eng.Od := .t 24
abbrev T25 : Go.Eng.Od := .t 25
abbrev T26 : Go.Eng.Od := .t 26
abbrev T27 : Go.Eng.Od := .t 27
abbrev T28 : Go.Eng.Od := .t 28
abbrev T29 : Go.Eng.Od := .t 29
abbrev T30 : Go.Eng.Od := .t 30
abbrev T31 : Go.Eng.Od := .t 31
abbrev T32 : Go.Eng.Od := .t 32
abbrev T33 : Go.Eng.Od := .t 33
abbrev T34 : Go.Eng.Od := .t 34
abbrev T35 : Go.Eng.Od := .t 35
abbrev T36 : Go.Eng.Od := .t 36
abbrev T37 : Go.Eng.Od := .t 37
abbrev T38 : Go.Eng.Od := .t 38
abbrev T39 : Go.Eng.Od := .t 39
abbrev T40 : Go.Eng.Od := .t 40
abbrev T41 : Go.Eng.Od := .t 41
abbrev T42 : Go.Eng.Od := .t 42
abbrev T43 : Go.Eng.Od := .t 43
abbrev T44 : Go.Eng.Od := .t 44
abbrev T45 : Go.Eng.Od := .t 45
abbrev T46 : Go.Eng.Od := .t 46
abbrev T47 : Go.Eng.Od := .t 47
abbrev T48 : Go.Eng.Od := .t 48
abbrev T49 : Go.Eng.Od := .t 49
abbrev T50 : Go.Eng.Od := .t 50
abbrev T51 : Go.Eng.Od := .t 51
abbrev T52 : Go.Eng.Od := .t 52
abbrev T53 : Go.Eng.Od := .t 53
abbrev T54 : Go.Eng.Od := .t 54
abbrev T55 : Go.Eng.Od := .t 55
abbrev T56 : Go.Eng.Od := .t 56
abbrev T57 : Go.Eng.Od := .t 57
abbrev T58 : Go.Eng.Od := .t 58
abbrev T59 : Go.Eng.Od := .t 59
abbrev T60 : Go.Eng.Od := .t 60
abbrev T61 : Go.Eng.Od := .t 61
abbrev T62 : Go.Eng.Od := .t 62
abbrev T63 : Go.Eng.Od := .t 63
abbrev T64 : Go.Eng.Od := .t 64
abbrev T65 : Go.Eng.Od := .t 65
abbrev T66 : Go.Eng.Od := .t 66
abbrev T67 : Go.Eng.Od := .t 67
abbrev T68 : Go.Eng.Od := .t 68
abbrev T69 : Go.Eng.Od := .t 69
abbrev T70 : Go.Eng.Od := .t 70
abbrev T71 : Go.Eng.Od := .t 71
abbrev T72 : Go.Eng.Od := .t 72
abbrev T73 : Go.Eng.Od := .t 73
abbrev T74 : Go.Eng.Od := .t 74
abbrev T75 : Go.Eng.Od := .t 75
abbrev T76 : Go.Eng.Od := .t 76
abbrev T77 : Go.Eng.Od := .t 77
abbrev T78 : Go.Eng.Od := .t 78
abbrev T79 : Go.Eng.Od := .t 79
abbrev T80 : Go.Eng.Od := .t 80
abbrev T81 : Go.Eng.Od := .t 81
abbrev T82 : Go.Eng.Od := .t 82
abbrev T83 : Go.Eng.Od := .t 83
abbrev T84 : Go.Eng.Od := .t 84
abbrev T85 : Go.Eng.Od := .t 85
abbrev T86 : Go.Eng.Od := .t 86
abbrev T87 : Go.Eng.Od := .t 87
abbrev T88 : Go.Eng.Od := .t 88
abbrev T89 : Go.Eng.Od := .t 89
abbrev T90 : Go.Eng.Od := .t 90
abbrev T91 : Go.Eng.Od := .t 91
abbrev T92 : Go.Eng.Od := .t 92
abbrev T93 : Go.Eng.Od := .t 93
abbrev T94 : Go.Eng.Od := .t 94
abbrev T95 : Go.Eng.Od := .t 95
abbrev T96 : Go.Eng.Od := .t 96
abbrev T97 : Go.Eng.Od := .t 97
abbrev T98 : Go.Eng.Od := .t 98
abbrev T99 : Go.Eng.Od := .t 99
abbrev bVu : Go.Eng.Od := .t 100
abbrev bVi : Go.Eng.Od := .t 101
abbrev bVv : Go.Eng.Od := .t 102
abbrev bVC : Go.Eng.Od := .t 103
abbrev bVD : Go.Eng.Od := .t 104
abbrev bVo : Go.Eng.Od := .t 105
abbrev bVR : Go.Eng.Od := .t 106
abbrev bVH : Go.Eng.Od := .t 107
abbrev bWe : Go.Eng.Od := .t 108
abbrev bWb : Go.Eng.Od := .t 109
abbrev bVj : Go.Eng.Od := .t 110
abbrev bVU : Go.Eng.Od := .t 111
abbrev bV0 : Go.Eng.Od := .t 112
abbrev bVf : Go.Eng.Od := .t 113
abbrev bVp : Go.Eng.Od := .t 114
abbrev bVM : Go.Eng.Od := .t 115
abbrev bVP : Go.Eng.Od := .t 116
abbrev bUZ : Go.Eng.Od := .t 117
abbrev bVc : Go.Eng.Od := .t 118
abbrev bVz : Go.Eng.Od := .t 119
abbrev bVe : Go.Eng.Od := .t 120
abbrev bVL : Go.Eng.Od := .t 121
abbrev bU7 : Go.Eng.Od := .t 122
abbrev bVF : Go.Eng.Od := .t 123
abbrev bWd : Go.Eng.Od := .t 124
abbrev bVl : Go.Eng.Od := .t 125
abbrev bU0 : Go.Eng.Od := .t 126
abbrev bVw : Go.Eng.Od := .t 127
abbrev bVy : Go.Eng.Od := .t 128
abbrev bVa : Go.Eng.Od := .t 129
abbrev bVN : Go.Eng.Od := .t 130
abbrev bVI : Go.Eng.Od := .t 131
abbrev bVT : Go.Eng.Od := .t 133
theorem gU.mk3 {P : Program} {f : Nat} {fn : Func} {e : FE} (hf : P.funcs[f]? = some fn) (hn : fn.ntmps = e.n) (hb : fn.body.isSome = true) (hname : (fn.name != "runtime.NumGoroutine") = true) (hic : IC.ofS P e.n (fn.body.getD .skip) = e.x.ic) (hr : fn.results.toList.map (RR.of P) = e.ts.map some) (hok : e.x.ok = true) : gU P f e := by
  obtain ⟨c, hc⟩ := Option.isSome_iff_exists.1 hb
  exact ⟨fn, c, hf, hn, hc, hname, by rw [hc] at hic; exact hic, hr, hok⟩
def bDC : Fc Tryz.prog Tryz.f10 := .m _
theorem bSH : gU Tryz.prog 10 bDC.e := bDC.ok Tryz.func10
def bCP : Fc Tryz.prog Tryz.f13 := .m _
theorem bTa : gU Tryz.prog 13 bCP.e := bCP.ok Tryz.func13
def bB7 : Fc Tryz.prog Tryz.f16 := .m _
theorem bS1 : gU Tryz.prog 16 bB7.e := bB7.ok Tryz.func16
def bDm : Fc Tryz.prog Tryz.f17 := .m _
theorem bSI : gU Tryz.prog 17 bDm.e := bDm.ok Tryz.func17
def bCN : Fc Tryz.prog Tryz.f18 := .m _
theorem bTR : gU Tryz.prog 18 bCN.e := bCN.ok Tryz.func18
def bBN : Fc Tryz.prog Tryz.f20 := .m _
theorem bTk : gU Tryz.prog 20 bBN.e := bBN.ok Tryz.func20
def bB5 : Fc Tryz.prog Tryz.f34 := .m _
theorem bRP : gU Tryz.prog 34 bB5.e := bB5.ok Tryz.func34
def bDg : Fc Tryz.prog Tryz.f36 := .m _
theorem bTF : gU Tryz.prog 36 bDg.e := bDg.ok Tryz.func36
def bB0 : Fc Tryz.prog Tryz.f37 := .m _
theorem bS2 : gU Tryz.prog 37 bB0.e := bB0.ok Tryz.func37
def bDV : Fc Tryz.prog Tryz.f39 := .m _
theorem bSy : gU Tryz.prog 39 bDV.e := bDV.ok Tryz.func39
def bDI : Fc Tryz.prog Tryz.f43 := .m _
theorem bSx : gU Tryz.prog 43 bDI.e := bDI.ok Tryz.func43
def bEF : Fc Tryz.prog Tryz.f44 := .m _
theorem bS3 : gU Tryz.prog 44 bEF.e := bEF.ok Tryz.func44
def y45:XC:=(Zq (Rg [Iq 2 (.box 101 T0),Iq 4 (.mv (.k Zs)),Iq 5 (.mv (Ki 0)),Iq 6 (.mv (Ki 0))])
 (Zq (Zq (Rg [Im 17 T1,Iq 18 (.bin .lss T17 (Ki 0)),Im 19 T18,Iv 20 19 (.mv T1),Iv 21 19 (.fad 24 T2),Iv 22 19 (Lo T21),Iv 23 19 (.len false T22),Iv 24 19 (.bin .geq T20 T23),Iq 25 (.pick T19 Kt T24)])
 (.cond T25 (Zq (Rg [Iq 4 (.mv (.k Zs)),Iq 5 (.mv (Ki 0)),Iq 6 (.mv (Ki 2))])
 .ret)
 .skip))
 (Zq (.draw [⟨Iq 26 (Lt 25 T2),[]⟩,⟨Iq 27 (.call 101 [T26]),[0]⟩,⟨Iq 28 (.fad 22 T2),[]⟩,⟨Iq 29 (Lo T28),[2]⟩,⟨Iq 30 (.build [Zs,Zs] [(0,1,T27),(1,1,T29)]),[1,3]⟩,⟨Iq 7 (.alloc 228 [Zs,Zs]),[]⟩,⟨Is (.store 2 T7 T30),[5,4,1,0,1,2,3,4,5]⟩] [0,1,0,4,15,0,63])
 (Zq (Rg [Iq 31 (.fad 24 T2),Iq 32 (Lo T31),Im 33 T1,Iq 34 (.iad 6 T32 T33),Iq 35 (.fad 3 T34),Iq 36 (Lo T35),Im 8 T36])
 (Zq (Rg [Iq 37 (.mkm),Im 9 T37])
 (Zq (Zq (Rg [Im 38 T8,Iq 39 (.len false T38),Iq 40 (.mv (Ki 0))])
 (.block 0 (.loop (Zq (Rg [Iq 41 (.bin .lss T40 T39)])
 (Zq (.cond T41 .skip
 (.exit 0))
 (Zq (.block 1 (Zq (Rg [Im 42 T40,Iq 43 (.iad 10 T38 T40),Iq 44 (Lt 10 T43),Iq 11 (.alloc 136 [Zf,Ze,(.int .u8 0),Ze,Ze,Ze,Zf,Zs,Zf,Zs]),Im 10 T42,Is (.store 10 T11 T44)])
 (.draw [⟨Im 45 T9,[]⟩,⟨Iq 46 (.fad 1 T11),[]⟩,⟨Iq 47 (Lo T46),[1]⟩,⟨Im 48 T9,[]⟩,⟨Iq 49 (.fad 1 T11),[]⟩,⟨Iq 50 (Lo T49),[4]⟩,⟨Iq 51 (.look true [Zs] false T48 T50 false),[3,5]⟩,⟨Im 52 T10,[]⟩,⟨Iq 53 (.bslice 3 1 1 [Zi] [(0,T52)]),[7]⟩,⟨Iq 54 (.app 3 1 8 [Zi] T51 T53),[6,8]⟩,⟨Is (.mupd true T45 T47 T54),[0,2,9,9,0,1,2,3,4,5,6,7,8,9]⟩] [0,0,2,0,0,16,56,0,128,504,1023])))
 (Rg [Iq 55 (.bin .add T40 (Ki 1)),Im 40 T55])))))))
 (Zq (Zq (Rg [Im 56 T8,Iq 57 (.len false T56),Iq 58 (.mv (Ki 0))])
 (.block 2 (.loop (Zq (Rg [Iq 59 (.bin .lss T58 T57)])
 (Zq (.cond T59 .skip
 (.exit 2))
 (Zq (.block 3 (Zq (Rg [Im 60 T58,Iq 61 (.iad 10 T56 T58),Iq 62 (Lt 10 T61),Iq 13 (.alloc 136 [Zf,Ze,(.int .u8 0),Ze,Ze,Ze,Zf,Zs,Zf,Zs]),Im 12 T60,Is (.store 10 T13 T62)])
 (Zq (Rg [Im 63 T9,Iq 64 (.fad 1 T13),Iq 65 (Lo T64),Iq 66 (.look true [Zs] false T63 T65 false),Im 14 T66])
 (Zq (Zq (Rg [Iq 67 (Lt 2 T7),Iq 68 (Lt 10 T13),Iq 69 (.call 102 [T67,T68]),Iq 70 (.un .not T69),Im 71 T70,Iv 72 71 (.mv T14),Iv 73 71 (.len false T72),Iv 74 71 (.bin .neq T73 (Ki 2)),Iq 75 (.pick T71 Kt T74)])
 (.cond T75 (Zq (Rg [Im 76 T12,Iq 4 (.mv (.k Zs)),Im 5 T76,Iq 6 (.mv (Ki 200))])
 .ret)
 .skip))
 (Zq (.draw [⟨Im 77 T8,[]⟩,⟨Im 78 T14,[]⟩,⟨Iq 79 (.iad 1 T78 (Ki 0)),[1]⟩,⟨Iq 80 (Lo T79),[2]⟩,⟨Iq 81 (.iad 10 T77 T80),[0,3]⟩,⟨Iq 82 (Lt 10 T81),[4]⟩,⟨Im 83 T8,[]⟩,⟨Im 84 T14,[]⟩,⟨Iq 85 (.iad 1 T84 (Ki 1)),[7]⟩,⟨Iq 86 (Lo T85),[8]⟩,⟨Iq 87 (.iad 10 T83 T86),[6,9]⟩,⟨Iq 88 (Lt 10 T87),[10]⟩,⟨Iq 15 (.alloc 136 [Zf,Ze,(.int .u8 0),Ze,Ze,Ze,Zf,Zs,Zf,Zs]),[]⟩,⟨Iq 16 (.alloc 136 [Zf,Ze,(.int .u8 0),Ze,Ze,Ze,Zf,Zs,Zf,Zs]),[]⟩,⟨Is (.store 10 T15 T82),[12,5,0,1,2,3,4,5,12,13]⟩,⟨Is (.store 10 T16 T88),[13,11,14,0,1,2,3,4,5,6,7,8,9,10,11,12,13,14]⟩] [0,0,2,6,15,31,0,0,128,384,960,1984,0,0,12351,32767])
 (Zq (Zq (.draw [⟨Iq 89 (Lt 10 T15),[]⟩,⟨Iq 90 (.call 103 [T89]),[0]⟩,⟨Iq 91 (Lt 10 T16),[]⟩,⟨Iq 92 (.call 103 [T91]),[2,1]⟩,⟨Iq 93 (.binA true [.s,.i,.s,.s] T90 T92),[1,3]⟩,⟨Im 94 T93,[4,3]⟩,⟨Iv 95 94 (.fad 0 T15),[5]⟩,⟨Iv 96 94 (Lo T95),[6,5]⟩,⟨Iv 97 94 (.fad 0 T16),[5]⟩,⟨Iv 98 94 (Lo T97),[8,5]⟩,⟨Iv 99 94 (.binB .eql T96 T98),[7,9,5]⟩,⟨Iq 100 (.pick T94 Kt T99),[5,10]⟩,⟨Im 101 bVu,[11,5]⟩,⟨Iv 102 101 (.fad 6 T15),[12]⟩,⟨Iv 103 101 (Lt 4 bVv),[13,12]⟩,⟨Iv 104 101 (.fad 6 T16),[12]⟩,⟨Iv 105 101 (Lt 4 bVD),[15,12]⟩,⟨Iv 106 101 (.call 104 [bVC,bVo]),[14,16,12,12]⟩,⟨Iv 107 101 (.un .not bVR),[17,12]⟩,⟨Iq 108 (.pick bVi Kt bVH),[12,18]⟩] [0,1,0,7,15,31,63,127,63,319,1023,2047,4095,8191,16383,8191,40959,131071,262143,524287])
 (.cond bWe (Zq (Rg [Im 109 T12,Iq 4 (.mv (.k Zs)),Im 5 bWb,Iq 6 (.mv (Ki 200))])
 .ret)
 .skip))
 (Zq (Rg [Iq 110 (.fad 0 T13),Iq 111 (Lo bVj)])
 (.cond bVU (.draw [⟨Im 112 T4,[]⟩,⟨Iq 113 (Lt 2 T7),[]⟩,⟨Iq 114 (Lt 10 T13),[]⟩,⟨Im 115 T8,[]⟩,⟨Im 116 T14,[]⟩,⟨Iq 117 (.iad 1 bVP (Ki 0)),[4]⟩,⟨Iq 118 (Lo bUZ),[5]⟩,⟨Im 119 T14,[]⟩,⟨Iq 120 (.iad 1 bVz (Ki 1)),[7]⟩,⟨Iq 121 (Lo bVe),[8]⟩,⟨Iq 122 (.bin .add bVc bVL),[6,9]⟩,⟨Im 123 T12,[]⟩,⟨Iq 124 (.bin .sub bU7 bVF),[10,11]⟩,⟨Iq 125 (.iad 10 bVM bWd),[3,12]⟩,⟨Iq 126 (Lt 10 bVl),[13]⟩,⟨Iq 127 (.call 105 [bVf,bVp,bU0]),[1,2,14]⟩,⟨Iq 128 (.bslice 116 10 1 [Ze,(.int .u8 0),Zi,Zi,Zi,Zi,Zf,Zs,Zf,Zs] [(0,bVw)]),[15]⟩,⟨Iq 129 (.app 116 10 120 [Ze,(.int .u8 0),Zi,Zi,Zi,Zi,Zf,Zs,Zf,Zs] bV0 bVy),[0,16,15]⟩,⟨Im 4 bVa,[17,17,0,1,2,3,4,5,6,7,8,9,10,11,12,13,14,15,16,17]⟩] [0,0,0,0,0,16,48,0,128,384,1008,0,4080,8184,16376,32766,65534,131071,262143])
 .skip))))))))
 (Rg [Iq 130 (.bin .add T58 (Ki 1)),Im 58 bVN])))))))
 (Zq (Rg [Im 131 T4,Iq 132 (.call 106 [bVI,(.f 107)])])
 (Zq (Rg [Im 133 T4,Im 4 bVT,Iq 5 (.mv (Ki 0)),Iq 6 (.mv (Ki 0))])
 .ret)))))))))
structure bVV where
  e : FE
def bGC : bVV := ⟨⟨134, y45, [.t 4, .t 5, .t 6]⟩⟩
theorem bUw : gU Tryz.prog 45 bGC.e := gU.mk3 Tryz.func45 rfl rfl rfl (by kernel_rfl) (by kernel_rfl) (by kernel_rfl)
def bCL : Fc Tryz.prog Tryz.f48 := .m _
theorem bRV : gU Tryz.prog 48 bCL.e := bCL.ok Tryz.func48
def bCo : Fc Tryz.prog Tryz.f49 := .m _
theorem bTG : gU Tryz.prog 49 bCo.e := bCo.ok Tryz.func49
def bDb : Fc Tryz.prog Tryz.f54 := .m _
theorem bSS : gU Tryz.prog 54 bDb.e := bDb.ok Tryz.func54
def bEv : Fc Tryz.prog Tryz.f55 := .m _
theorem bR8 : gU Tryz.prog 55 bEv.e := bEv.ok Tryz.func55
def bDv : Fc Tryz.prog Tryz.f56 := .m _
theorem bTI : gU Tryz.prog 56 bDv.e := bDv.ok Tryz.func56
def bCB : Fc Tryz.prog Tryz.f57 := .m _
theorem bTe : gU Tryz.prog 57 bCB.e := bCB.ok Tryz.func57
def bEQ : Fc Tryz.prog Tryz.f59 := .m _
theorem bSp : gU Tryz.prog 59 bEQ.e := bEQ.ok Tryz.func59
def bB2 : Fc Tryz.prog Tryz.f60 := .m _
theorem bR6 : gU Tryz.prog 60 bB2.e := bB2.ok Tryz.func60
def bBM : Fc Tryz.prog Tryz.f61 := .m _
theorem bTr : gU Tryz.prog 61 bBM.e := bBM.ok Tryz.func61
def bCC : Fc Tryz.prog Tryz.f62 := .m _
theorem bS4 : gU Tryz.prog 62 bCC.e := bCC.ok Tryz.func62
def bBs : Fc Tryz.prog Tryz.f63 := .m _
theorem bSQ : gU Tryz.prog 63 bBs.e := bBs.ok Tryz.func63
def bCk : Fc Tryz.prog Tryz.f64 := .m _
theorem bTs : gU Tryz.prog 64 bCk.e := bCk.ok Tryz.func64
def bEf : Fc Tryz.prog Tryz.f65 := .m _
theorem bUl : gU Tryz.prog 65 bEf.e := bEf.ok Tryz.func65
def bEO : Fc Tryz.prog Tryz.f73 := .m _
theorem bTj : gU Tryz.prog 73 bEO.e := bEO.ok Tryz.func73
def bCz : Fc Tryz.prog Tryz.f76 := .m _
theorem bUD : gU Tryz.prog 76 bCz.e := bCz.ok Tryz.func76
def bD6 : Fc Tryz.prog Tryz.f83 := .m _
theorem bSL : gU Tryz.prog 83 bD6.e := bD6.ok Tryz.func83
def bBT : Fc Tryz.prog Tryz.f84 := .m _
theorem bSB : gU Tryz.prog 84 bBT.e := bBT.ok Tryz.func84
def bEo : Fc Tryz.prog Tryz.f85 := .m _
theorem bSO : gU Tryz.prog 85 bEo.e := bEo.ok Tryz.func85
def bDn : Fc Tryz.prog Tryz.f86 := .m _
theorem bRM : gU Tryz.prog 86 bDn.e := bDn.ok Tryz.func86
def bC2 : Fc Tryz.prog Tryz.f87 := .m _
theorem bTL : gU Tryz.prog 87 bC2.e := bC2.ok Tryz.func87
def bCA : Fc Tryz.prog Tryz.f88 := .m _
theorem bST : gU Tryz.prog 88 bCA.e := bCA.ok Tryz.func88
def bEy : Fc Tryz.prog Tryz.f89 := .m _
theorem bSE : gU Tryz.prog 89 bEy.e := bEy.ok Tryz.func89
def bDO : Fc Tryz.prog Tryz.f90 := .m _
theorem bRS : gU Tryz.prog 90 bDO.e := bDO.ok Tryz.func90
def bEe : Fc Tryz.prog Tryz.f91 := .m _
theorem bTh : gU Tryz.prog 91 bEe.e := bEe.ok Tryz.func91
def bCS : Fc Tryz.prog Tryz.f93 := .m _
theorem bTm : gU Tryz.prog 93 bCS.e := bCS.ok Tryz.func93
def bEg : Fc Tryz.prog Tryz.f94 := .m _
theorem bSr : gU Tryz.prog 94 bEg.e := bEg.ok Tryz.func94
def bEJ : Fc Tryz.prog Tryz.f95 := .m _
theorem bTi : gU Tryz.prog 95 bEJ.e := bEJ.ok Tryz.func95
def bCQ : Fc Tryz.prog Tryz.f96 := .m _
theorem bSF : gU Tryz.prog 96 bCQ.e := bCQ.ok Tryz.func96
def bBE : Fc Tryz.prog Tryz.f97 := .m _
theorem bR3 : gU Tryz.prog 97 bBE.e := bBE.ok Tryz.func97
def bBX : Fc Tryz.prog Tryz.f98 := .m _
theorem bSf : gU Tryz.prog 98 bBX.e := bBX.ok Tryz.func98
def bCp : Fc Tryz.prog Tryz.f99 := .m _
theorem bTD : gU Tryz.prog 99 bCp.e := bCp.ok Tryz.func99
def aVd : Fc Tryz.prog Tryz.f100 := .m _
theorem bPf : gU Tryz.prog 100 aVd.e := aVd.ok Tryz.func100
def aUh : Fc Tryz.prog Tryz.f101 := .m _
theorem bQw : gU Tryz.prog 101 aUh.e := aUh.ok Tryz.func101
def aTv : Fc Tryz.prog Tryz.f102 := .m _
theorem bN2 : gU Tryz.prog 102 aTv.e := aTv.ok Tryz.func102
def aVX : Fc Tryz.prog Tryz.f103 := .m _
theorem bP5 : gU Tryz.prog 103 aVX.e := aVX.ok Tryz.func103
def aV7 : Fc Tryz.prog Tryz.f104 := .m _
theorem bMR : gU Tryz.prog 104 aV7.e := aV7.ok Tryz.func104
def aUo : Fc Tryz.prog Tryz.f105 := .m _
theorem bPx : gU Tryz.prog 105 aUo.e := aUo.ok Tryz.func105
def aYt : Fc Tryz.prog Tryz.f107 := .m _
theorem bMx : gU Tryz.prog 107 aYt.e := aYt.ok Tryz.func107
def aYV : Fc Tryz.prog Tryz.f108 := .m _
theorem bPp : gU Tryz.prog 108 aYV.e := aYV.ok Tryz.func108
def aUl : Fc Tryz.prog Tryz.f111 := .m _
theorem bMk : gU Tryz.prog 111 aUl.e := aUl.ok Tryz.func111
def aUx : Fc Tryz.prog Tryz.f112 := .m _
theorem bN1 : gU Tryz.prog 112 aUx.e := aUx.ok Tryz.func112
def aUz : Fc Tryz.prog Tryz.f118 := .m _
theorem bRh : gU Tryz.prog 118 aUz.e := aUz.ok Tryz.func118
def aVU : Fc Tryz.prog Tryz.f121 := .m _
theorem bNF : gU Tryz.prog 121 aVU.e := aVU.ok Tryz.func121
def aVh : Fc Tryz.prog Tryz.f122 := .m _
theorem bOX : gU Tryz.prog 122 aVh.e := aVh.ok Tryz.func122
def aUW : Fc Tryz.prog Tryz.f123 := .m _
theorem bMU : gU Tryz.prog 123 aUW.e := aUW.ok Tryz.func123
def aV8 : Fc Tryz.prog Tryz.f124 := .m _
theorem bPh : gU Tryz.prog 124 aV8.e := aV8.ok Tryz.func124
def aUi : Fc Tryz.prog Tryz.f125 := .m _
theorem bQ8 : gU Tryz.prog 125 aUi.e := aUi.ok Tryz.func125
def aU0 : Fc Tryz.prog Tryz.f126 := .m _
theorem bMS : gU Tryz.prog 126 aU0.e := aU0.ok Tryz.func126
def aU7 : Fc Tryz.prog Tryz.f127 := .m _
theorem bMf : gU Tryz.prog 127 aU7.e := aU7.ok Tryz.func127
def aUB : Fc Tryz.prog Tryz.f128 := .m _
theorem bND : gU Tryz.prog 128 aUB.e := aUB.ok Tryz.func128
def aVF : Fc Tryz.prog Tryz.f129 := .m _
theorem bOw : gU Tryz.prog 129 aVF.e := aVF.ok Tryz.func129
def aVV : Fc Tryz.prog Tryz.f130 := .m _
theorem bRm : gU Tryz.prog 130 aVV.e := aVV.ok Tryz.func130
def aVY : Fc Tryz.prog Tryz.f131 := .m _
theorem bQt : gU Tryz.prog 131 aVY.e := aVY.ok Tryz.func131
def aV2 : Fc Tryz.prog Tryz.f132 := .m _
theorem bRe : gU Tryz.prog 132 aV2.e := aV2.ok Tryz.func132
def aV6 : Fc Tryz.prog Tryz.f133 := .m _
theorem bMZ : gU Tryz.prog 133 aV6.e := aV6.ok Tryz.func133
def aTG : Fc Tryz.prog Tryz.f134 := .m _
theorem bMV : gU Tryz.prog 134 aTG.e := aTG.ok Tryz.func134
def aVr : Fc Tryz.prog Tryz.f145 := .m _
theorem bQV : gU Tryz.prog 145 aVr.e := aVr.ok Tryz.func145
def aVn : Fc Tryz.prog Tryz.f146 := .m _
theorem bPO : gU Tryz.prog 146 aVn.e := aVn.ok Tryz.func146
def aUL : Fc Tryz.prog Tryz.f148 := .m _
theorem bQd : gU Tryz.prog 148 aUL.e := aUL.ok Tryz.func148
def aVx : Fc Tryz.prog Tryz.f149 := .m _
theorem bPG : gU Tryz.prog 149 aVx.e := aVx.ok Tryz.func149
def aVg : Fc Tryz.prog Tryz.f153 := .m _
theorem bNe : gU Tryz.prog 153 aVg.e := aVg.ok Tryz.func153
def aUe : Fc Tryz.prog Tryz.f163 := .m _
theorem bLX : gU Tryz.prog 163 aUe.e := aUe.ok Tryz.func163
def aUJ : Fc Tryz.prog Tryz.f164 := .m _
theorem bNh : gU Tryz.prog 164 aUJ.e := aUJ.ok Tryz.func164
def aUg : Fc Tryz.prog Tryz.f165 := .m _
theorem bQv : gU Tryz.prog 165 aUg.e := aUg.ok Tryz.func165
def aTZ : Fc Tryz.prog Tryz.f166 := .m _
theorem bRv : gU Tryz.prog 166 aTZ.e := aTZ.ok Tryz.func166
def aTz : Fc Tryz.prog Tryz.f167 := .m _
theorem bNU : gU Tryz.prog 167 aTz.e := aTz.ok Tryz.func167
def aTF : Fc Tryz.prog Tryz.f168 := .m _
theorem bNz : gU Tryz.prog 168 aTF.e := aTF.ok Tryz.func168
def aVm : Fc Tryz.prog Tryz.f169 := .m _
theorem bPo : gU Tryz.prog 169 aVm.e := aVm.ok Tryz.func169
def aVW : Fc Tryz.prog Tryz.f170 := .m _
theorem bOj : gU Tryz.prog 170 aVW.e := aVW.ok Tryz.func170
def aVT : Fc Tryz.prog Tryz.f171 := .m _
theorem bQ6 : gU Tryz.prog 171 aVT.e := aVT.ok Tryz.func171
def aUm : Fc Tryz.prog Tryz.f172 := .m _
theorem bOU : gU Tryz.prog 172 aUm.e := aUm.ok Tryz.func172
def aUD : Fc Tryz.prog Tryz.f173 := .m _
theorem bP7 : gU Tryz.prog 173 aUD.e := aUD.ok Tryz.func173
def aVi : Fc Tryz.prog Tryz.f174 := .m _
theorem bMh : gU Tryz.prog 174 aVi.e := aVi.ok Tryz.func174
def aUX : Fc Tryz.prog Tryz.f175 := .m _
theorem bL2 : gU Tryz.prog 175 aUX.e := aUX.ok Tryz.func175
def aUT : Fc Tryz.prog Tryz.f183 := .m _
theorem bQx : gU Tryz.prog 183 aUT.e := aUT.ok Tryz.func183
def aTQ : Fc Tryz.prog Tryz.f185 := .m _
theorem bOB : gU Tryz.prog 185 aTQ.e := aTQ.ok Tryz.func185
def aUK : Fc Tryz.prog Tryz.f186 := .m _
theorem bOy : gU Tryz.prog 186 aUK.e := aUK.ok Tryz.func186
def aTM : Fc Tryz.prog Tryz.f187 := .m _
theorem bPN : gU Tryz.prog 187 aTM.e := aTM.ok Tryz.func187
def aY7 : Fc Tryz.prog Tryz.f190 := .m _
theorem bOL : gU Tryz.prog 190 aY7.e := aY7.ok Tryz.func190
def aVj : Fc Tryz.prog Tryz.f192 := .m _
theorem bPm : gU Tryz.prog 192 aVj.e := aVj.ok Tryz.func192
def aT2 : Fc Tryz.prog Tryz.f206 := .m _
theorem bMJ : gU Tryz.prog 206 aT2.e := aT2.ok Tryz.func206
def aVc : Fc Tryz.prog Tryz.f207 := .m _
theorem bN3 : gU Tryz.prog 207 aVc.e := aVc.ok Tryz.func207
def aVI : Fc Tryz.prog Tryz.f208 := .m _
theorem bRp : gU Tryz.prog 208 aVI.e := aVI.ok Tryz.func208
def aMr : Fc Tryz.prog Tryz.f209 := .m _
theorem bGE : gU Tryz.prog 209 aMr.e := aMr.ok Tryz.func209
def aVP : Fc Tryz.prog Tryz.f210 := .m _
theorem bOp : gU Tryz.prog 210 aVP.e := aVP.ok Tryz.func210
def aTY : Fc Tryz.prog Tryz.f211 := .m _
theorem bRr : gU Tryz.prog 211 aTY.e := aTY.ok Tryz.func211
def aU4 : Fc Tryz.prog Tryz.f212 := .m _
theorem bQN : gU Tryz.prog 212 aU4.e := aU4.ok Tryz.func212
def aUu : Fc Tryz.prog Tryz.f213 := .m _
theorem bN6 : gU Tryz.prog 213 aUu.e := aUu.ok Tryz.func213
def aU5 : Fc Tryz.prog Tryz.f214 := .m _
theorem bMN : gU Tryz.prog 214 aU5.e := aU5.ok Tryz.func214
def aTV : Fc Tryz.prog Tryz.f215 := .m _
theorem bOe : gU Tryz.prog 215 aTV.e := aTV.ok Tryz.func215
def aVE : Fc Tryz.prog Tryz.f216 := .m _
theorem bPZ : gU Tryz.prog 216 aVE.e := aVE.ok Tryz.func216
def aUb : Fc Tryz.prog Tryz.f217 := .m _
theorem bOO : gU Tryz.prog 217 aUb.e := aUb.ok Tryz.func217
def aVa : Fc Tryz.prog Tryz.f218 := .m _
theorem bOm : gU Tryz.prog 218 aVa.e := aVa.ok Tryz.func218
def aUO : Fc Tryz.prog Tryz.f219 := .m _
theorem bNt : gU Tryz.prog 219 aUO.e := aUO.ok Tryz.func219
def aVR : Fc Tryz.prog Tryz.f220 := .m _
theorem bM9 : gU Tryz.prog 220 aVR.e := aVR.ok Tryz.func220
def aT5 : Fc Tryz.prog Tryz.f233 := .m _
theorem bPH : gU Tryz.prog 233 aT5.e := aT5.ok Tryz.func233
def aUv : Fc Tryz.prog Tryz.f234 := .m _
theorem bQF : gU Tryz.prog 234 aUv.e := aUv.ok Tryz.func234
def aTS : Fc Tryz.prog Tryz.f236 := .m _
theorem bQW : gU Tryz.prog 236 aTS.e := aTS.ok Tryz.func236
def aVs : Fc Tryz.prog Tryz.f237 := .m _
theorem bOR : gU Tryz.prog 237 aVs.e := aVs.ok Tryz.func237
def aVb : Fc Tryz.prog Tryz.f240 := .m _
theorem bOn : gU Tryz.prog 240 aVb.e := aVb.ok Tryz.func240
def aTI : Fc Tryz.prog Tryz.f241 := .m _
theorem bMb : gU Tryz.prog 241 aTI.e := aTI.ok Tryz.func241
def aUy : Fc Tryz.prog Tryz.f242 := .m _
theorem bPd : gU Tryz.prog 242 aUy.e := aUy.ok Tryz.func242
def aVO : Fc Tryz.prog Tryz.f243 := .m _
theorem bNS : gU Tryz.prog 243 aVO.e := aVO.ok Tryz.func243
def aTH : Fc Tryz.prog Tryz.f246 := .m _
theorem bPW : gU Tryz.prog 246 aTH.e := aTH.ok Tryz.func246
def aTR : Fc Tryz.prog Tryz.f247 := .m _
theorem bPv : gU Tryz.prog 247 aTR.e := aTR.ok Tryz.func247
def aTJ : Fc Tryz.prog Tryz.f248 := .m _
theorem bNb : gU Tryz.prog 248 aTJ.e := aTJ.ok Tryz.func248
def aVD : Fc Tryz.prog Tryz.f249 := .m _
theorem bMM : gU Tryz.prog 249 aVD.e := aVD.ok Tryz.func249
def aVQ : Fc Tryz.prog Tryz.f258 := .m _
theorem bNK : gU Tryz.prog 258 aVQ.e := aVQ.ok Tryz.func258
def aUj : Fc Tryz.prog Tryz.f265 := .m _
theorem bOi : gU Tryz.prog 265 aUj.e := aUj.ok Tryz.func265
def aTO : Fc Tryz.prog Tryz.f266 := .m _
theorem bL8 : gU Tryz.prog 266 aTO.e := aTO.ok Tryz.func266
def aUs : Fc Tryz.prog Tryz.f267 := .m _
theorem bQT : gU Tryz.prog 267 aUs.e := aUs.ok Tryz.func267
def aU1 : Fc Tryz.prog Tryz.f268 := .m _
theorem bM6 : gU Tryz.prog 268 aU1.e := aU1.ok Tryz.func268
def aVf : Fc Tryz.prog Tryz.f269 := .m _
theorem bQM : gU Tryz.prog 269 aVf.e := aVf.ok Tryz.func269
def aUS : Fc Tryz.prog Tryz.f270 := .m _
theorem bMK : gU Tryz.prog 270 aUS.e := aUS.ok Tryz.func270
def aVp : Fc Tryz.prog Tryz.f271 := .m _
theorem bRd : gU Tryz.prog 271 aVp.e := aVp.ok Tryz.func271
def aT3 : Fc Tryz.prog Tryz.f272 := .m _
theorem bQ9 : gU Tryz.prog 272 aT3.e := aT3.ok Tryz.func272
def aVu : Fc Tryz.prog Tryz.f273 := .m _
theorem bQm : gU Tryz.prog 273 aVu.e := aVu.ok Tryz.func273
def aTK : Fc Tryz.prog Tryz.f277 := .m _
theorem bRa : gU Tryz.prog 277 aTK.e := aTK.ok Tryz.func277
def aUU : Fc Tryz.prog Tryz.f278 := .m _
theorem bOA : gU Tryz.prog 278 aUU.e := aUU.ok Tryz.func278
def aV1 : Fc Tryz.prog Tryz.f279 := .m _
theorem bQO : gU Tryz.prog 279 aV1.e := aV1.ok Tryz.func279
def aUd : Fc Tryz.prog Tryz.f280 := .m _
theorem bMt : gU Tryz.prog 280 aUd.e := aUd.ok Tryz.func280
def aUZ : Fc Tryz.prog Tryz.f281 := .m _
theorem bN9 : gU Tryz.prog 281 aUZ.e := aUZ.ok Tryz.func281
def aUk : Fc Tryz.prog Tryz.f291 := .m _
theorem bP0 : gU Tryz.prog 291 aUk.e := aUk.ok Tryz.func291
def aVB : Fc Tryz.prog Tryz.f297 := .m _
theorem bO4 : gU Tryz.prog 297 aVB.e := aVB.ok Tryz.func297
def aTW : Fc Tryz.prog Tryz.f298 := .m _
theorem bQ4 : gU Tryz.prog 298 aTW.e := aTW.ok Tryz.func298
def aT7 : Fc Tryz.prog Tryz.f299 := .m _
theorem bMH : gU Tryz.prog 299 aT7.e := aT7.ok Tryz.func299
def aVt : Fc Tryz.prog Tryz.f300 := .m _
theorem bRw : gU Tryz.prog 300 aVt.e := aVt.ok Tryz.func300
def aT6 : Fc Tryz.prog Tryz.f301 := .m _
theorem bOK : gU Tryz.prog 301 aT6.e := aT6.ok Tryz.func301
def aU8 : Fc Tryz.prog Tryz.f302 := .m _
theorem bQY : gU Tryz.prog 302 aU8.e := aU8.ok Tryz.func302
def aVy : Fc Tryz.prog Tryz.f303 := .m _
theorem bNj : gU Tryz.prog 303 aVy.e := aVy.ok Tryz.func303
def aUc : Fc Tryz.prog Tryz.f304 := .m _
theorem bMW : gU Tryz.prog 304 aUc.e := aUc.ok Tryz.func304
def aT4 : Fc Tryz.prog Tryz.f305 := .m _
theorem bMl : gU Tryz.prog 305 aT4.e := aT4.ok Tryz.func305
def aUC : Fc Tryz.prog Tryz.f306 := .m _
theorem bQ7 : gU Tryz.prog 306 aUC.e := aUC.ok Tryz.func306
def aT8 : Fc Tryz.prog Tryz.f307 := .m _
theorem bRA : gU Tryz.prog 307 aT8.e := aT8.ok Tryz.func307
def aVS : Fc Tryz.prog Tryz.f308 := .m _
theorem bL6 : gU Tryz.prog 308 aVS.e := aVS.ok Tryz.func308
def aUw : Fc Tryz.prog Tryz.f313 := .m _
theorem bPL : gU Tryz.prog 313 aUw.e := aUw.ok Tryz.func313
def aUG : Fc Tryz.prog Tryz.f314 := .m _
theorem bMe : gU Tryz.prog 314 aUG.e := aUG.ok Tryz.func314
def aUa : Fc Tryz.prog Tryz.f315 := .m _
theorem bQA : gU Tryz.prog 315 aUa.e := aUa.ok Tryz.func315
def aVk : Fc Tryz.prog Tryz.f316 := .m _
theorem bMT : gU Tryz.prog 316 aVk.e := aVk.ok Tryz.func316
def aVJ : Fc Tryz.prog Tryz.f317 := .m _
theorem bQf : gU Tryz.prog 317 aVJ.e := aVJ.ok Tryz.func317
def aTx : Fc Tryz.prog Tryz.f318 := .m _
theorem bNJ : gU Tryz.prog 318 aTx.e := aTx.ok Tryz.func318
def aUf : Fc Tryz.prog Tryz.f319 := .m _
theorem bPq : gU Tryz.prog 319 aUf.e := aUf.ok Tryz.func319
def aUE : Fc Tryz.prog Tryz.f322 := .m _
theorem bQa : gU Tryz.prog 322 aUE.e := aUE.ok Tryz.func322
def aTT : Fc Tryz.prog Tryz.f323 := .m _
theorem bPe : gU Tryz.prog 323 aTT.e := aTT.ok Tryz.func323
def bBQ : Fc Tryz.prog Tryz.f58 [(209, aMr.e.n, aMr.e.x)] := .m _
theorem bSV : gU Tryz.prog 58 bBQ.e := bBQ.ok Tryz.func58
def tS : List (Nat × FE) := [(10, bDC.e), (13, bCP.e), (16, bB7.e), (17, bDm.e), (18, bCN.e), (20, bBN.e), (34, bB5.e), (36, bDg.e), (37, bB0.e), (39, bDV.e), (43, bDI.e), (44, bEF.e), (45, bGC.e), (48, bCL.e), (49, bCo.e), (54, bDb.e), (55, bEv.e), (56, bDv.e), (57, bCB.e), (59, bEQ.e), (60, bB2.e), (61, bBM.e), (62, bCC.e), (63, bBs.e), (64, bCk.e), (65, bEf.e), (73, bEO.e), (76, bCz.e), (83, bD6.e), (84, bBT.e), (85, bEo.e), (86, bDn.e), (87, bC2.e), (88, bCA.e), (89, bEy.e), (90, bDO.e), (91, bEe.e), (93, bCS.e), (94, bEg.e), (95, bEJ.e), (96, bCQ.e), (97, bBE.e), (98, bBX.e), (99, bCp.e), (100, aVd.e), (101, aUh.e), (102, aTv.e), (103, aVX.e), (104, aV7.e), (105, aUo.e), (107, aYt.e), (108, aYV.e), (111, aUl.e), (112, aUx.e), (118, aUz.e), (121, aVU.e), (122, aVh.e), (123, aUW.e), (124, aV8.e), (125, aUi.e), (126, aU0.e), (127, aU7.e), (128, aUB.e), (129, aVF.e), (130, aVV.e), (131, aVY.e), (132, aV2.e), (133, aV6.e), (134, aTG.e), (145, aVr.e), (146, aVn.e), (148, aUL.e), (149, aVx.e), (153, aVg.e), (163, aUe.e), (164, aUJ.e), (165, aUg.e), (166, aTZ.e), (167, aTz.e), (168, aTF.e), (169, aVm.e), (170, aVW.e), (171, aVT.e), (172, aUm.e), (173, aUD.e), (174, aVi.e), (175, aUX.e), (183, aUT.e), (185, aTQ.e), (186, aUK.e), (187, aTM.e), (190, aY7.e), (192, aVj.e), (206, aT2.e), (207, aVc.e), (208, aVI.e), (209, aMr.e), (210, aVP.e), (211, aTY.e), (212, aU4.e), (213, aUu.e), (214, aU5.e), (215, aTV.e), (216, aVE.e), (217, aUb.e), (218, aVa.e), (219, aUO.e), (220, aVR.e), (233, aT5.e), (234, aUv.e), (236, aTS.e), (237, aVs.e), (240, aVb.e), (241, aTI.e), (242, aUy.e), (243, aVO.e), (246, aTH.e), (247, aTR.e), (248, aTJ.e), (249, aVD.e), (258, aVQ.e), (265, aUj.e), (266, aTO.e), (267, aUs.e), (268, aU1.e), (269, aVf.e), (270, aUS.e), (271, aVp.e), (272, aT3.e), (273, aVu.e), (277, aTK.e), (278, aUU.e), (279, aV1.e), (280, aUd.e), (281, aUZ.e), (291, aUk.e), (297, aVB.e), (298, aTW.e), (299, aT7.e), (300, aVt.e), (301, aT6.e), (302, aU8.e), (303, aVy.e), (304, aUc.e), (305, aT4.e), (306, aUC.e), (307, aT8.e), (308, aVS.e), (313, aUw.e), (314, aUG.e), (315, aUa.e), (316, aVk.e), (317, aVJ.e), (318, aTx.e), (319, aUf.e), (322, aUE.e), (323, aTT.e), (58, bBQ.e)]
theorem bSb : aVq Tryz.prog (pC tS) := bG8 (aC bSH (aC bTa (aC bS1 (aC bSI (aC bTR (aC bTk (aC bRP (aC bTF (aC bS2 (aC bSy (aC bSx (aC bS3 (aC bUw (aC bRV (aC bTG (aC bSS (aC bR8 (aC bTI (aC bTe (aC bSp (aC bR6 (aC bTr (aC bS4 (aC bSQ (aC bTs (aC bUl (aC bTj (aC bUD (aC bSL (aC bSB (aC bSO (aC bRM (aC bTL (aC bST (aC bSE (aC bRS (aC bTh (aC bTm (aC bSr (aC bTi (aC bSF (aC bR3 (aC bSf (aC bTD (aC bPf (aC bQw (aC bN2 (aC bP5 (aC bMR (aC bPx (aC bMx (aC bPp (aC bMk (aC bN1 (aC bRh (aC bNF (aC bOX (aC bMU (aC bPh (aC bQ8 (aC bMS (aC bMf (aC bND (aC bOw (aC bRm (aC bQt (aC bRe (aC bMZ (aC bMV (aC bQV (aC bPO (aC bQd (aC bPG (aC bNe (aC bLX (aC bNh (aC bQv (aC bRv (aC bNU (aC bNz (aC bPo (aC bOj (aC bQ6 (aC bOU (aC bP7 (aC bMh (aC bL2 (aC bQx (aC bOB (aC bOy (aC bPN (aC bOL (aC bPm (aC bMJ (aC bN3 (aC bRp (aC bGE (aC bOp (aC bRr (aC bQN (aC bN6 (aC bMN (aC bOe (aC bPZ (aC bOO (aC bOm (aC bNt (aC bM9 (aC bPH (aC bQF (aC bQW (aC bOR (aC bOn (aC bMb (aC bPd (aC bNS (aC bPW (aC bPv (aC bNb (aC bMM (aC bNK (aC bOi (aC bL8 (aC bQT (aC bM6 (aC bQM (aC bMK (aC bRd (aC bQ9 (aC bQm (aC bRa (aC bOA (aC bQO (aC bMt (aC bN9 (aC bP0 (aC bO4 (aC bQ4 (aC bMH (aC bRw (aC bOK (aC bQY (aC bNj (aC bMW (aC bMl (aC bQ7 (aC bRA (aC bL6 (aC bPL (aC bMe (aC bQA (aC bMT (aC bQf (aC bNJ (aC bPq (aC bQa (aC bPe (aC bSV (fun p hp => absurd hp List.not_mem_nil)))))))))))))))))))))))))))))))))))))))))))))))))))))))))))))))))))))))))))))))))))))))))))))))))))))))))))))))))))))))))))))))))))))))))))))))))))))))))))))))
theorem bSA : ∀ p ∈ bDC.e.x.rgs, gU Tryz.prog p.1 p.2 := bDC.rg0
theorem bSv : ∀ p ∈ bCP.e.x.rgs, gU Tryz.prog p.1 p.2 := bCP.rg0
theorem bTf : ∀ p ∈ bB7.e.x.rgs, gU Tryz.prog p.1 p.2 := bB7.rg0
theorem bSl : ∀ p ∈ bDm.e.x.rgs, gU Tryz.prog p.1 p.2 := bDm.rg0
theorem bTq : ∀ p ∈ bCN.e.x.rgs, gU Tryz.prog p.1 p.2 := bCN.rg0
theorem bUf : ∀ p ∈ bBN.e.x.rgs, gU Tryz.prog p.1 p.2 := bBN.rg0
theorem bSm : ∀ p ∈ bB5.e.x.rgs, gU Tryz.prog p.1 p.2 := bB5.rg0
theorem bTn : ∀ p ∈ bDg.e.x.rgs, gU Tryz.prog p.1 p.2 := bDg.rg0
theorem bSd : ∀ p ∈ bB0.e.x.rgs, gU Tryz.prog p.1 p.2 := bB0.rg0
theorem bUe : ∀ p ∈ bDV.e.x.rgs, gU Tryz.prog p.1 p.2 := bDV.rg0
theorem bSz : ∀ p ∈ bDI.e.x.rgs, gU Tryz.prog p.1 p.2 := bDI.rg0
theorem bUE : ∀ p ∈ bEF.e.x.rgs, gU Tryz.prog p.1 p.2 := bEF.rg0
theorem bTz : ∀ p ∈ bGC.e.x.rgs, gU Tryz.prog p.1 p.2 := fun p h => by
  rw [show bGC.e.x.rgs = [] by kernel_rfl] at h
  cases h
theorem bUd : ∀ p ∈ bCL.e.x.rgs, gU Tryz.prog p.1 p.2 := bCL.rg0
theorem bSo : ∀ p ∈ bCo.e.x.rgs, gU Tryz.prog p.1 p.2 := bCo.rg0
theorem bTB : ∀ p ∈ bDb.e.x.rgs, gU Tryz.prog p.1 p.2 := bDb.rg0
theorem bSD : ∀ p ∈ bEv.e.x.rgs, gU Tryz.prog p.1 p.2 := bEv.rg0
theorem bTA : ∀ p ∈ bDv.e.x.rgs, gU Tryz.prog p.1 p.2 := bDv.rg0
theorem bTb : ∀ p ∈ bCB.e.x.rgs, gU Tryz.prog p.1 p.2 := bCB.rg0
theorem bT1 : ∀ p ∈ bEQ.e.x.rgs, gU Tryz.prog p.1 p.2 := bEQ.rg0
theorem bR4 : ∀ p ∈ bB2.e.x.rgs, gU Tryz.prog p.1 p.2 := bB2.rg0
theorem bSt : ∀ p ∈ bBM.e.x.rgs, gU Tryz.prog p.1 p.2 := bBM.rg0
theorem bTV : ∀ p ∈ bCC.e.x.rgs, gU Tryz.prog p.1 p.2 := bCC.rg0
theorem bRZ : ∀ p ∈ bBs.e.x.rgs, gU Tryz.prog p.1 p.2 := bBs.rg0
theorem bR0 : ∀ p ∈ bCk.e.x.rgs, gU Tryz.prog p.1 p.2 := bCk.rg0
theorem bTT : ∀ p ∈ bEf.e.x.rgs, gU Tryz.prog p.1 p.2 := bEf.rg0
theorem bSY : ∀ p ∈ bEO.e.x.rgs, gU Tryz.prog p.1 p.2 := bEO.rg0
theorem bSR : ∀ p ∈ bCz.e.x.rgs, gU Tryz.prog p.1 p.2 := bCz.rg0
theorem bT4 : ∀ p ∈ bD6.e.x.rgs, gU Tryz.prog p.1 p.2 := bD6.rg0
theorem bTx : ∀ p ∈ bBT.e.x.rgs, gU Tryz.prog p.1 p.2 := bBT.rg0
theorem bUr : ∀ p ∈ bEo.e.x.rgs, gU Tryz.prog p.1 p.2 := bEo.rg0
theorem bS5 : ∀ p ∈ bDn.e.x.rgs, gU Tryz.prog p.1 p.2 := bDn.rg0
theorem bS0 : ∀ p ∈ bC2.e.x.rgs, gU Tryz.prog p.1 p.2 := bC2.rg0
theorem bUy : ∀ p ∈ bCA.e.x.rgs, gU Tryz.prog p.1 p.2 := bCA.rg0
theorem bUm : ∀ p ∈ bEy.e.x.rgs, gU Tryz.prog p.1 p.2 := bEy.rg0
theorem bUk : ∀ p ∈ bDO.e.x.rgs, gU Tryz.prog p.1 p.2 := bDO.rg0
theorem bTl : ∀ p ∈ bEe.e.x.rgs, gU Tryz.prog p.1 p.2 := bEe.rg0
theorem bTg : ∀ p ∈ bCS.e.x.rgs, gU Tryz.prog p.1 p.2 := bCS.rg0
theorem bUn : ∀ p ∈ bEg.e.x.rgs, gU Tryz.prog p.1 p.2 := bEg.rg0
theorem bTw : ∀ p ∈ bEJ.e.x.rgs, gU Tryz.prog p.1 p.2 := bEJ.rg0
theorem bUu : ∀ p ∈ bCQ.e.x.rgs, gU Tryz.prog p.1 p.2 := bCQ.rg0
theorem bUb : ∀ p ∈ bBE.e.x.rgs, gU Tryz.prog p.1 p.2 := bBE.rg0
theorem bT0 : ∀ p ∈ bBX.e.x.rgs, gU Tryz.prog p.1 p.2 := bBX.rg0
theorem bUK : ∀ p ∈ bCp.e.x.rgs, gU Tryz.prog p.1 p.2 := bCp.rg0
theorem bNc : ∀ p ∈ aVd.e.x.rgs, gU Tryz.prog p.1 p.2 := aVd.rg0
theorem bNP : ∀ p ∈ aUh.e.x.rgs, gU Tryz.prog p.1 p.2 := aUh.rg0
theorem bOT : ∀ p ∈ aTv.e.x.rgs, gU Tryz.prog p.1 p.2 := aTv.rg0
theorem bO9 : ∀ p ∈ aVX.e.x.rgs, gU Tryz.prog p.1 p.2 := aVX.rg0
theorem bOz : ∀ p ∈ aV7.e.x.rgs, gU Tryz.prog p.1 p.2 := aV7.rg0
theorem bQU : ∀ p ∈ aUo.e.x.rgs, gU Tryz.prog p.1 p.2 := aUo.rg0
theorem bNZ : ∀ p ∈ aYt.e.x.rgs, gU Tryz.prog p.1 p.2 := aYt.rg0
theorem bLZ : ∀ p ∈ aYV.e.x.rgs, gU Tryz.prog p.1 p.2 := aYV.rg0
theorem bNg : ∀ p ∈ aUl.e.x.rgs, gU Tryz.prog p.1 p.2 := aUl.rg0
theorem bNQ : ∀ p ∈ aUx.e.x.rgs, gU Tryz.prog p.1 p.2 := aUx.rg0
theorem bQg : ∀ p ∈ aUz.e.x.rgs, gU Tryz.prog p.1 p.2 := aUz.rg0
theorem bPc : ∀ p ∈ aVU.e.x.rgs, gU Tryz.prog p.1 p.2 := aVU.rg0
theorem bMG : ∀ p ∈ aVh.e.x.rgs, gU Tryz.prog p.1 p.2 := aVh.rg0
theorem bQy : ∀ p ∈ aUW.e.x.rgs, gU Tryz.prog p.1 p.2 := aUW.rg0
theorem bQb : ∀ p ∈ aV8.e.x.rgs, gU Tryz.prog p.1 p.2 := aV8.rg0
theorem bN5 : ∀ p ∈ aUi.e.x.rgs, gU Tryz.prog p.1 p.2 := aUi.rg0
theorem bNV : ∀ p ∈ aU0.e.x.rgs, gU Tryz.prog p.1 p.2 := aU0.rg0
theorem bNv : ∀ p ∈ aU7.e.x.rgs, gU Tryz.prog p.1 p.2 := aU7.rg0
theorem bNC : ∀ p ∈ aUB.e.x.rgs, gU Tryz.prog p.1 p.2 := aUB.rg0
theorem bOf : ∀ p ∈ aVF.e.x.rgs, gU Tryz.prog p.1 p.2 := aVF.rg0
theorem bMB : ∀ p ∈ aVV.e.x.rgs, gU Tryz.prog p.1 p.2 := aVV.rg0
theorem bQG : ∀ p ∈ aVY.e.x.rgs, gU Tryz.prog p.1 p.2 := aVY.rg0
theorem bMP : ∀ p ∈ aV2.e.x.rgs, gU Tryz.prog p.1 p.2 := aV2.rg0
theorem bL7 : ∀ p ∈ aV6.e.x.rgs, gU Tryz.prog p.1 p.2 := aV6.rg0
theorem bRx : ∀ p ∈ aTG.e.x.rgs, gU Tryz.prog p.1 p.2 := aTG.rg0
theorem bO3 : ∀ p ∈ aVr.e.x.rgs, gU Tryz.prog p.1 p.2 := aVr.rg0
theorem bME : ∀ p ∈ aVn.e.x.rgs, gU Tryz.prog p.1 p.2 := aVn.rg0
theorem bM5 : ∀ p ∈ aUL.e.x.rgs, gU Tryz.prog p.1 p.2 := aUL.rg0
theorem bP4 : ∀ p ∈ aVx.e.x.rgs, gU Tryz.prog p.1 p.2 := aVx.rg0
theorem bML : ∀ p ∈ aVg.e.x.rgs, gU Tryz.prog p.1 p.2 := aVg.rg0
theorem bOH : ∀ p ∈ aUe.e.x.rgs, gU Tryz.prog p.1 p.2 := aUe.rg0
theorem bO0 : ∀ p ∈ aUJ.e.x.rgs, gU Tryz.prog p.1 p.2 := aUJ.rg0
theorem bNN : ∀ p ∈ aUg.e.x.rgs, gU Tryz.prog p.1 p.2 := aUg.rg0
theorem bMY : ∀ p ∈ aTZ.e.x.rgs, gU Tryz.prog p.1 p.2 := aTZ.rg0
theorem bPs : ∀ p ∈ aTz.e.x.rgs, gU Tryz.prog p.1 p.2 := aTz.rg0
theorem bO7 : ∀ p ∈ aTF.e.x.rgs, gU Tryz.prog p.1 p.2 := aTF.rg0
theorem bM7 : ∀ p ∈ aVm.e.x.rgs, gU Tryz.prog p.1 p.2 := aVm.rg0
theorem bNn : ∀ p ∈ aVW.e.x.rgs, gU Tryz.prog p.1 p.2 := aVW.rg0
theorem bPE : ∀ p ∈ aVT.e.x.rgs, gU Tryz.prog p.1 p.2 := aVT.rg0
theorem bNm : ∀ p ∈ aUm.e.x.rgs, gU Tryz.prog p.1 p.2 := aUm.rg0
theorem bOa : ∀ p ∈ aUD.e.x.rgs, gU Tryz.prog p.1 p.2 := aUD.rg0
theorem bQo : ∀ p ∈ aVi.e.x.rgs, gU Tryz.prog p.1 p.2 := aVi.rg0
theorem bNX : ∀ p ∈ aUX.e.x.rgs, gU Tryz.prog p.1 p.2 := aUX.rg0
theorem bPa : ∀ p ∈ aUT.e.x.rgs, gU Tryz.prog p.1 p.2 := aUT.rg0
theorem bQR : ∀ p ∈ aTQ.e.x.rgs, gU Tryz.prog p.1 p.2 := aTQ.rg0
theorem bMq : ∀ p ∈ aUK.e.x.rgs, gU Tryz.prog p.1 p.2 := aUK.rg0
theorem bMI : ∀ p ∈ aTM.e.x.rgs, gU Tryz.prog p.1 p.2 := aTM.rg0
theorem bP9 : ∀ p ∈ aY7.e.x.rgs, gU Tryz.prog p.1 p.2 := aY7.rg0
theorem bQJ : ∀ p ∈ aVj.e.x.rgs, gU Tryz.prog p.1 p.2 := aVj.rg0
theorem bO6 : ∀ p ∈ aT2.e.x.rgs, gU Tryz.prog p.1 p.2 := aT2.rg0
theorem bP2 : ∀ p ∈ aVc.e.x.rgs, gU Tryz.prog p.1 p.2 := aVc.rg0
theorem bQZ : ∀ p ∈ aVI.e.x.rgs, gU Tryz.prog p.1 p.2 := aVI.rg0
theorem bFz : ∀ p ∈ aMr.e.x.rgs, gU Tryz.prog p.1 p.2 := aMr.rg0
theorem bMw : ∀ p ∈ aVP.e.x.rgs, gU Tryz.prog p.1 p.2 := aVP.rg0
theorem bQ1 : ∀ p ∈ aTY.e.x.rgs, gU Tryz.prog p.1 p.2 := aTY.rg0
theorem bQc : ∀ p ∈ aU4.e.x.rgs, gU Tryz.prog p.1 p.2 := aU4.rg0
theorem bMi : ∀ p ∈ aUu.e.x.rgs, gU Tryz.prog p.1 p.2 := aUu.rg0
theorem bNx : ∀ p ∈ aU5.e.x.rgs, gU Tryz.prog p.1 p.2 := aU5.rg0
theorem bQr : ∀ p ∈ aTV.e.x.rgs, gU Tryz.prog p.1 p.2 := aTV.rg0
theorem bLW : ∀ p ∈ aVE.e.x.rgs, gU Tryz.prog p.1 p.2 := aVE.rg0
theorem bM1 : ∀ p ∈ aUb.e.x.rgs, gU Tryz.prog p.1 p.2 := aUb.rg0
theorem bPr : ∀ p ∈ aVa.e.x.rgs, gU Tryz.prog p.1 p.2 := aVa.rg0
theorem bRo : ∀ p ∈ aUO.e.x.rgs, gU Tryz.prog p.1 p.2 := aUO.rg0
theorem bOC : ∀ p ∈ aVR.e.x.rgs, gU Tryz.prog p.1 p.2 := aVR.rg0
theorem bN7 : ∀ p ∈ aT5.e.x.rgs, gU Tryz.prog p.1 p.2 := aT5.rg0
theorem bQz : ∀ p ∈ aUv.e.x.rgs, gU Tryz.prog p.1 p.2 := aUv.rg0
theorem bN4 : ∀ p ∈ aTS.e.x.rgs, gU Tryz.prog p.1 p.2 := aTS.rg0
theorem bQi : ∀ p ∈ aVs.e.x.rgs, gU Tryz.prog p.1 p.2 := aVs.rg0
theorem bQk : ∀ p ∈ aVb.e.x.rgs, gU Tryz.prog p.1 p.2 := aVb.rg0
theorem bMQ : ∀ p ∈ aTI.e.x.rgs, gU Tryz.prog p.1 p.2 := aTI.rg0
theorem bOx : ∀ p ∈ aUy.e.x.rgs, gU Tryz.prog p.1 p.2 := aUy.rg0
theorem bPK : ∀ p ∈ aVO.e.x.rgs, gU Tryz.prog p.1 p.2 := aVO.rg0
theorem bOJ : ∀ p ∈ aTH.e.x.rgs, gU Tryz.prog p.1 p.2 := aTH.rg0
theorem bMa : ∀ p ∈ aTR.e.x.rgs, gU Tryz.prog p.1 p.2 := aTR.rg0
theorem bPQ : ∀ p ∈ aTJ.e.x.rgs, gU Tryz.prog p.1 p.2 := aTJ.rg0
theorem bO2 : ∀ p ∈ aVD.e.x.rgs, gU Tryz.prog p.1 p.2 := aVD.rg0
theorem bOs : ∀ p ∈ aVQ.e.x.rgs, gU Tryz.prog p.1 p.2 := aVQ.rg0
theorem bPk : ∀ p ∈ aUj.e.x.rgs, gU Tryz.prog p.1 p.2 := aUj.rg0
theorem bRc : ∀ p ∈ aTO.e.x.rgs, gU Tryz.prog p.1 p.2 := aTO.rg0
theorem bO1 : ∀ p ∈ aUs.e.x.rgs, gU Tryz.prog p.1 p.2 := aUs.rg0
theorem bQI : ∀ p ∈ aU1.e.x.rgs, gU Tryz.prog p.1 p.2 := aU1.rg0
theorem bNY : ∀ p ∈ aVf.e.x.rgs, gU Tryz.prog p.1 p.2 := aVf.rg0
theorem bQE : ∀ p ∈ aUS.e.x.rgs, gU Tryz.prog p.1 p.2 := aUS.rg0
theorem bRu : ∀ p ∈ aVp.e.x.rgs, gU Tryz.prog p.1 p.2 := aVp.rg0
theorem bMm : ∀ p ∈ aT3.e.x.rgs, gU Tryz.prog p.1 p.2 := aT3.rg0
theorem bMp : ∀ p ∈ aVu.e.x.rgs, gU Tryz.prog p.1 p.2 := aVu.rg0
theorem bPi : ∀ p ∈ aTK.e.x.rgs, gU Tryz.prog p.1 p.2 := aTK.rg0
theorem bPJ : ∀ p ∈ aUU.e.x.rgs, gU Tryz.prog p.1 p.2 := aUU.rg0
theorem bP8 : ∀ p ∈ aV1.e.x.rgs, gU Tryz.prog p.1 p.2 := aV1.rg0
theorem bM2 : ∀ p ∈ aUd.e.x.rgs, gU Tryz.prog p.1 p.2 := aUd.rg0
theorem bRy : ∀ p ∈ aUZ.e.x.rgs, gU Tryz.prog p.1 p.2 := aUZ.rg0
theorem bPI : ∀ p ∈ aUk.e.x.rgs, gU Tryz.prog p.1 p.2 := aUk.rg0
theorem bLY : ∀ p ∈ aVB.e.x.rgs, gU Tryz.prog p.1 p.2 := aVB.rg0
theorem bOI : ∀ p ∈ aTW.e.x.rgs, gU Tryz.prog p.1 p.2 := aTW.rg0
theorem bNs : ∀ p ∈ aT7.e.x.rgs, gU Tryz.prog p.1 p.2 := aT7.rg0
theorem bPy : ∀ p ∈ aVt.e.x.rgs, gU Tryz.prog p.1 p.2 := aVt.rg0
theorem bNa : ∀ p ∈ aT6.e.x.rgs, gU Tryz.prog p.1 p.2 := aT6.rg0
theorem bO8 : ∀ p ∈ aU8.e.x.rgs, gU Tryz.prog p.1 p.2 := aU8.rg0
theorem bPT : ∀ p ∈ aVy.e.x.rgs, gU Tryz.prog p.1 p.2 := aVy.rg0
theorem bMA : ∀ p ∈ aUc.e.x.rgs, gU Tryz.prog p.1 p.2 := aUc.rg0
theorem bPU : ∀ p ∈ aT4.e.x.rgs, gU Tryz.prog p.1 p.2 := aT4.rg0
theorem bOk : ∀ p ∈ aUC.e.x.rgs, gU Tryz.prog p.1 p.2 := aUC.rg0
theorem bMO : ∀ p ∈ aT8.e.x.rgs, gU Tryz.prog p.1 p.2 := aT8.rg0
theorem bOg : ∀ p ∈ aVS.e.x.rgs, gU Tryz.prog p.1 p.2 := aVS.rg0
theorem bRg : ∀ p ∈ aUw.e.x.rgs, gU Tryz.prog p.1 p.2 := aUw.rg0
theorem bQP : ∀ p ∈ aUG.e.x.rgs, gU Tryz.prog p.1 p.2 := aUG.rg0
theorem bQu : ∀ p ∈ aUa.e.x.rgs, gU Tryz.prog p.1 p.2 := aUa.rg0
theorem bRB : ∀ p ∈ aVk.e.x.rgs, gU Tryz.prog p.1 p.2 := aVk.rg0
theorem bPA : ∀ p ∈ aVJ.e.x.rgs, gU Tryz.prog p.1 p.2 := aVJ.rg0
theorem bP1 : ∀ p ∈ aTx.e.x.rgs, gU Tryz.prog p.1 p.2 := aTx.rg0
theorem bQs : ∀ p ∈ aUf.e.x.rgs, gU Tryz.prog p.1 p.2 := aUf.rg0
theorem bN8 : ∀ p ∈ aUE.e.x.rgs, gU Tryz.prog p.1 p.2 := aUE.rg0
theorem bMD : ∀ p ∈ aTT.e.x.rgs, gU Tryz.prog p.1 p.2 := aTT.rg0
theorem bRN : ∀ p ∈ bBQ.e.x.rgs, gU Tryz.prog p.1 p.2 := bBQ.rg (bO5 bGE bFz bRt)
theorem dN {P : Program} {f : Nat} {e : FE} {l : List (Nat × FE)} (h : ∀ p ∈ e.x.rgs, gU P p.1 p.2) (g : ∀ p ∈ l, ∀ q ∈ p.2.x.rgs, gU P q.1 q.2) : ∀ p ∈ (f, e) :: l, ∀ q ∈ p.2.x.rgs, gU P q.1 q.2 := by
  intro p hp
  rcases List.mem_cons.1 hp with rfl | hp
  · exact h
  · exact g p hp
theorem bUH : bBq Tryz.prog (pC tS) := bG4 (dN (f := 10) bSA (dN (f := 13) bSv (dN (f := 16) bTf (dN (f := 17) bSl (dN (f := 18) bTq (dN (f := 20) bUf (dN (f := 34) bSm (dN (f := 36) bTn (dN (f := 37) bSd (dN (f := 39) bUe (dN (f := 43) bSz (dN (f := 44) bUE (dN (f := 45) bTz (dN (f := 48) bUd (dN (f := 49) bSo (dN (f := 54) bTB (dN (f := 55) bSD (dN (f := 56) bTA (dN (f := 57) bTb (dN (f := 59) bT1 (dN (f := 60) bR4 (dN (f := 61) bSt (dN (f := 62) bTV (dN (f := 63) bRZ (dN (f := 64) bR0 (dN (f := 65) bTT (dN (f := 73) bSY (dN (f := 76) bSR (dN (f := 83) bT4 (dN (f := 84) bTx (dN (f := 85) bUr (dN (f := 86) bS5 (dN (f := 87) bS0 (dN (f := 88) bUy (dN (f := 89) bUm (dN (f := 90) bUk (dN (f := 91) bTl (dN (f := 93) bTg (dN (f := 94) bUn (dN (f := 95) bTw (dN (f := 96) bUu (dN (f := 97) bUb (dN (f := 98) bT0 (dN (f := 99) bUK (dN (f := 100) bNc (dN (f := 101) bNP (dN (f := 102) bOT (dN (f := 103) bO9 (dN (f := 104) bOz (dN (f := 105) bQU (dN (f := 107) bNZ (dN (f := 108) bLZ (dN (f := 111) bNg (dN (f := 112) bNQ (dN (f := 118) bQg (dN (f := 121) bPc (dN (f := 122) bMG (dN (f := 123) bQy (dN (f := 124) bQb (dN (f := 125) bN5 (dN (f := 126) bNV (dN (f := 127) bNv (dN (f := 128) bNC (dN (f := 129) bOf (dN (f := 130) bMB (dN (f := 131) bQG (dN (f := 132) bMP (dN (f := 133) bL7 (dN (f := 134) bRx (dN (f := 145) bO3 (dN (f := 146) bME (dN (f := 148) bM5 (dN (f := 149) bP4 (dN (f := 153) bML (dN (f := 163) bOH (dN (f := 164) bO0 (dN (f := 165) bNN (dN (f := 166) bMY (dN (f := 167) bPs (dN (f := 168) bO7 (dN (f := 169) bM7 (dN (f := 170) bNn (dN (f := 171) bPE (dN (f := 172) bNm (dN (f := 173) bOa (dN (f := 174) bQo (dN (f := 175) bNX (dN (f := 183) bPa (dN (f := 185) bQR (dN (f := 186) bMq (dN (f := 187) bMI (dN (f := 190) bP9 (dN (f := 192) bQJ (dN (f := 206) bO6 (dN (f := 207) bP2 (dN (f := 208) bQZ (dN (f := 209) bFz (dN (f := 210) bMw (dN (f := 211) bQ1 (dN (f := 212) bQc (dN (f := 213) bMi (dN (f := 214) bNx (dN (f := 215) bQr (dN (f := 216) bLW (dN (f := 217) bM1 (dN (f := 218) bPr (dN (f := 219) bRo (dN (f := 220) bOC (dN (f := 233) bN7 (dN (f := 234) bQz (dN (f := 236) bN4 (dN (f := 237) bQi (dN (f := 240) bQk (dN (f := 241) bMQ (dN (f := 242) bOx (dN (f := 243) bPK (dN (f := 246) bOJ (dN (f := 247) bMa (dN (f := 248) bPQ (dN (f := 249) bO2 (dN (f := 258) bOs (dN (f := 265) bPk (dN (f := 266) bRc (dN (f := 267) bO1 (dN (f := 268) bQI (dN (f := 269) bNY (dN (f := 270) bQE (dN (f := 271) bRu (dN (f := 272) bMm (dN (f := 273) bMp (dN (f := 277) bPi (dN (f := 278) bPJ (dN (f := 279) bP8 (dN (f := 280) bM2 (dN (f := 281) bRy (dN (f := 291) bPI (dN (f := 297) bLY (dN (f := 298) bOI (dN (f := 299) bNs (dN (f := 300) bPy (dN (f := 301) bNa (dN (f := 302) bO8 (dN (f := 303) bPT (dN (f := 304) bMA (dN (f := 305) bPU (dN (f := 306) bOk (dN (f := 307) bMO (dN (f := 308) bOg (dN (f := 313) bRg (dN (f := 314) bQP (dN (f := 315) bQu (dN (f := 316) bRB (dN (f := 317) bPA (dN (f := 318) bP1 (dN (f := 319) bQs (dN (f := 322) bN8 (dN (f := 323) bMD (dN (f := 58) bRN (fun p hp => absurd hp List.not_mem_nil)))))))))))))))))))))))))))))))))))))))))))))))))))))))))))))))))))))))))))))))))))))))))))))))))))))))))))))))))))))))))))))))))))))))))))))))))))))))))))))))
theorem bH0 : (pC tS).get 10 = some bDC.e := by kernel_rfl
theorem bGZ : (pC tS).get 13 = some bCP.e := by kernel_rfl
theorem bF5 : (pC tS).get 16 = some bB7.e := by kernel_rfl
theorem bHZ : (pC tS).get 17 = some bDm.e := by kernel_rfl
theorem bF6 : (pC tS).get 18 = some bCN.e := by kernel_rfl
theorem bGF : (pC tS).get 20 = some bBN.e := by kernel_rfl
theorem bFH : (pC tS).get 34 = some bB5.e := by kernel_rfl
theorem bFR : (pC tS).get 36 = some bDg.e := by kernel_rfl
theorem bHK : (pC tS).get 37 = some bB0.e := by kernel_rfl
theorem bFT : (pC tS).get 39 = some bDV.e := by kernel_rfl
theorem bHy : (pC tS).get 43 = some bDI.e := by kernel_rfl
theorem bFq : (pC tS).get 44 = some bEF.e := by kernel_rfl
theorem bIu : (pC tS).get 45 = some bGC.e := by kernel_rfl
theorem bGG : (pC tS).get 48 = some bCL.e := by kernel_rfl
theorem bHH : (pC tS).get 49 = some bCo.e := by kernel_rfl
theorem bHf : (pC tS).get 54 = some bDb.e := by kernel_rfl
theorem bFh : (pC tS).get 55 = some bEv.e := by kernel_rfl
theorem bFa : (pC tS).get 56 = some bDv.e := by kernel_rfl
theorem bIp : (pC tS).get 57 = some bCB.e := by kernel_rfl
theorem bHi : (pC tS).get 59 = some bEQ.e := by kernel_rfl
theorem bHo : (pC tS).get 60 = some bB2.e := by kernel_rfl
theorem bHe : (pC tS).get 61 = some bBM.e := by kernel_rfl
theorem bGM : (pC tS).get 62 = some bCC.e := by kernel_rfl
theorem bFU : (pC tS).get 63 = some bBs.e := by kernel_rfl
theorem bGt : (pC tS).get 64 = some bCk.e := by kernel_rfl
theorem bFN : (pC tS).get 65 = some bEf.e := by kernel_rfl
theorem bHc : (pC tS).get 73 = some bEO.e := by kernel_rfl
theorem bFA : (pC tS).get 76 = some bCz.e := by kernel_rfl
theorem bH6 : (pC tS).get 83 = some bD6.e := by kernel_rfl
theorem bHO : (pC tS).get 84 = some bBT.e := by kernel_rfl
theorem bFM : (pC tS).get 85 = some bEo.e := by kernel_rfl
theorem bFm : (pC tS).get 86 = some bDn.e := by kernel_rfl
theorem bIy : (pC tS).get 87 = some bC2.e := by kernel_rfl
theorem bFd : (pC tS).get 88 = some bCA.e := by kernel_rfl
theorem bE4 : (pC tS).get 89 = some bEy.e := by kernel_rfl
theorem bGu : (pC tS).get 90 = some bDO.e := by kernel_rfl
theorem bFP : (pC tS).get 91 = some bEe.e := by kernel_rfl
theorem bFX : (pC tS).get 93 = some bCS.e := by kernel_rfl
theorem bGQ : (pC tS).get 94 = some bEg.e := by kernel_rfl
theorem bHa : (pC tS).get 95 = some bEJ.e := by kernel_rfl
theorem bFi : (pC tS).get 96 = some bCQ.e := by kernel_rfl
theorem bHE : (pC tS).get 97 = some bBE.e := by kernel_rfl
theorem bFB : (pC tS).get 98 = some bBX.e := by kernel_rfl
theorem bHR : (pC tS).get 99 = some bCp.e := by kernel_rfl
theorem bBp : (pC tS).get 100 = some aVd.e := by kernel_rfl
theorem bCF : (pC tS).get 101 = some aUh.e := by kernel_rfl
theorem bEw : (pC tS).get 102 = some aTv.e := by kernel_rfl
theorem bDN : (pC tS).get 103 = some aVX.e := by kernel_rfl
theorem bDw : (pC tS).get 104 = some aV7.e := by kernel_rfl
theorem bBK : (pC tS).get 105 = some aUo.e := by kernel_rfl
theorem bDk : (pC tS).get 111 = some aUl.e := by kernel_rfl
theorem bCs : (pC tS).get 112 = some aUx.e := by kernel_rfl
theorem bCV : (pC tS).get 118 = some aUz.e := by kernel_rfl
theorem bEl : (pC tS).get 121 = some aVU.e := by kernel_rfl
theorem bEW : (pC tS).get 122 = some aVh.e := by kernel_rfl
theorem bDu : (pC tS).get 123 = some aUW.e := by kernel_rfl
theorem bC4 : (pC tS).get 124 = some aV8.e := by kernel_rfl
theorem bCG : (pC tS).get 125 = some aUi.e := by kernel_rfl
theorem bDP : (pC tS).get 126 = some aU0.e := by kernel_rfl
theorem bDJ : (pC tS).get 127 = some aU7.e := by kernel_rfl
theorem bCf : (pC tS).get 128 = some aUB.e := by kernel_rfl
theorem bCn : (pC tS).get 129 = some aVF.e := by kernel_rfl
theorem bD3 : (pC tS).get 130 = some aVV.e := by kernel_rfl
theorem bEj : (pC tS).get 131 = some aVY.e := by kernel_rfl
theorem bDB : (pC tS).get 132 = some aV2.e := by kernel_rfl
theorem bDX : (pC tS).get 133 = some aV6.e := by kernel_rfl
theorem bEK : (pC tS).get 134 = some aTG.e := by kernel_rfl
theorem bEq : (pC tS).get 145 = some aVr.e := by kernel_rfl
theorem bDF : (pC tS).get 146 = some aVn.e := by kernel_rfl
theorem bEi : (pC tS).get 148 = some aUL.e := by kernel_rfl
theorem bEu : (pC tS).get 149 = some aVx.e := by kernel_rfl
theorem bEz : (pC tS).get 153 = some aVg.e := by kernel_rfl
theorem bEB : (pC tS).get 163 = some aUe.e := by kernel_rfl
theorem bB4 : (pC tS).get 164 = some aUJ.e := by kernel_rfl
theorem bEn : (pC tS).get 165 = some aUg.e := by kernel_rfl
theorem bDy : (pC tS).get 166 = some aTZ.e := by kernel_rfl
theorem bBS : (pC tS).get 167 = some aTz.e := by kernel_rfl
theorem bCv : (pC tS).get 168 = some aTF.e := by kernel_rfl
theorem bEa : (pC tS).get 169 = some aVm.e := by kernel_rfl
theorem bEG : (pC tS).get 170 = some aVW.e := by kernel_rfl
theorem bCq : (pC tS).get 171 = some aVT.e := by kernel_rfl
theorem bCO : (pC tS).get 172 = some aUm.e := by kernel_rfl
theorem bC0 : (pC tS).get 173 = some aUD.e := by kernel_rfl
theorem bBy : (pC tS).get 174 = some aVi.e := by kernel_rfl
theorem bBD : (pC tS).get 175 = some aUX.e := by kernel_rfl
theorem bB1 : (pC tS).get 183 = some aUT.e := by kernel_rfl
theorem bD7 : (pC tS).get 185 = some aTQ.e := by kernel_rfl
theorem bD1 : (pC tS).get 186 = some aUK.e := by kernel_rfl
theorem Wh : (pC tS).get 187 = some aTM.e := by kernel_rfl
theorem aUQ : (pC tS).get 192 = some aVj.e := by kernel_rfl
theorem bBk : (pC tS).get 206 = some aT2.e := by kernel_rfl
theorem bCl : (pC tS).get 207 = some aVc.e := by kernel_rfl
theorem bEm : (pC tS).get 208 = some aVI.e := by kernel_rfl
theorem bBC : (pC tS).get 210 = some aVP.e := by kernel_rfl
theorem bBz : (pC tS).get 211 = some aTY.e := by kernel_rfl
theorem bB8 : (pC tS).get 212 = some aU4.e := by kernel_rfl
theorem bDh : (pC tS).get 213 = some aUu.e := by kernel_rfl
theorem bCE : (pC tS).get 214 = some aU5.e := by kernel_rfl
theorem bC3 : (pC tS).get 215 = some aTV.e := by kernel_rfl
theorem bBh : (pC tS).get 216 = some aVE.e := by kernel_rfl
theorem bBG : (pC tS).get 217 = some aUb.e := by kernel_rfl
theorem bCM : (pC tS).get 218 = some aVa.e := by kernel_rfl
theorem bEr : (pC tS).get 219 = some aUO.e := by kernel_rfl
theorem bBj : (pC tS).get 220 = some aVR.e := by kernel_rfl
theorem bCx : (pC tS).get 233 = some aT5.e := by kernel_rfl
theorem bEx : (pC tS).get 234 = some aUv.e := by kernel_rfl
theorem bDc : (pC tS).get 236 = some aTS.e := by kernel_rfl
theorem bCX : (pC tS).get 237 = some aVs.e := by kernel_rfl
theorem bBo : (pC tS).get 240 = some aVb.e := by kernel_rfl
theorem bBu : (pC tS).get 241 = some aTI.e := by kernel_rfl
theorem bBR : (pC tS).get 242 = some aUy.e := by kernel_rfl
theorem bCj : (pC tS).get 243 = some aVO.e := by kernel_rfl
theorem bCy : (pC tS).get 246 = some aTH.e := by kernel_rfl
theorem bEd : (pC tS).get 247 = some aTR.e := by kernel_rfl
theorem bDa : (pC tS).get 248 = some aTJ.e := by kernel_rfl
theorem bBZ : (pC tS).get 249 = some aVD.e := by kernel_rfl
theorem bDS : (pC tS).get 258 = some aVQ.e := by kernel_rfl
theorem bDj : (pC tS).get 265 = some aUj.e := by kernel_rfl
theorem bCi : (pC tS).get 266 = some aTO.e := by kernel_rfl
theorem bCJ : (pC tS).get 267 = some aUs.e := by kernel_rfl
theorem bDD : (pC tS).get 268 = some aU1.e := by kernel_rfl
theorem bBH : (pC tS).get 269 = some aVf.e := by kernel_rfl
theorem bB3 : (pC tS).get 270 = some aUS.e := by kernel_rfl
theorem bDU : (pC tS).get 271 = some aVp.e := by kernel_rfl
theorem bBW : (pC tS).get 272 = some aT3.e := by kernel_rfl
theorem bCc : (pC tS).get 273 = some aVu.e := by kernel_rfl
theorem bEN : (pC tS).get 277 = some aTK.e := by kernel_rfl
theorem bEM : (pC tS).get 278 = some aUU.e := by kernel_rfl
theorem bCh : (pC tS).get 279 = some aV1.e := by kernel_rfl
theorem bC5 : (pC tS).get 280 = some aUd.e := by kernel_rfl
theorem bBV : (pC tS).get 281 = some aUZ.e := by kernel_rfl
theorem bDL : (pC tS).get 291 = some aUk.e := by kernel_rfl
theorem bBO : (pC tS).get 297 = some aVB.e := by kernel_rfl
theorem bDi : (pC tS).get 298 = some aTW.e := by kernel_rfl
theorem bCa : (pC tS).get 299 = some aT7.e := by kernel_rfl
theorem bCT : (pC tS).get 300 = some aVt.e := by kernel_rfl
theorem bD4 : (pC tS).get 301 = some aT6.e := by kernel_rfl
theorem aVM : (pC tS).get 302 = some aU8.e := by kernel_rfl
theorem bEA : (pC tS).get 303 = some aVy.e := by kernel_rfl
theorem bD5 : (pC tS).get 304 = some aUc.e := by kernel_rfl
theorem bDY : (pC tS).get 305 = some aT4.e := by kernel_rfl
theorem bBP : (pC tS).get 306 = some aUC.e := by kernel_rfl
theorem bEI : (pC tS).get 307 = some aT8.e := by kernel_rfl
theorem bBt : (pC tS).get 308 = some aVS.e := by kernel_rfl
theorem bBm : (pC tS).get 313 = some aUw.e := by kernel_rfl
theorem bCe : (pC tS).get 314 = some aUG.e := by kernel_rfl
theorem bC9 : (pC tS).get 315 = some aUa.e := by kernel_rfl
theorem bBA : (pC tS).get 316 = some aVk.e := by kernel_rfl
theorem bBJ : (pC tS).get 317 = some aVJ.e := by kernel_rfl
theorem bEs : (pC tS).get 318 = some aTx.e := by kernel_rfl
theorem bCD : (pC tS).get 319 = some aUf.e := by kernel_rfl
theorem bD2 : (pC tS).get 322 = some aUE.e := by kernel_rfl
theorem bBw : (pC tS).get 323 = some aTT.e := by kernel_rfl
theorem bGd : (pC tS).get 58 = some bBQ.e := by kernel_rfl
theorem bFQ : (pC tS).get 184 = none := by kernel_rfl
theorem bGb : (pC tS).get 106 = none := by kernel_rfl
theorem bJZ : (pC tS).get 321 = none := by kernel_rfl
noncomputable abbrev E (k : Nat) : eE := evF (pC tS) (aLQ 321 117 (aEu 184 (aC3 106 107 h1))) K0 k
end Go.Proofs.YtlceligcgelbdaaGreat
