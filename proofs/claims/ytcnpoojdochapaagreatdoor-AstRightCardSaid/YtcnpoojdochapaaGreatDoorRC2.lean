/- The code of the functions that are walked through (2), and that it is the program's. -/
import Derived.WalkKit
import Derived.Orders
import Derived.Test.YtcnpoojdochapaaGreatDoorRC1
set_option linter.unusedVariables false
set_option maxRecDepth 100000
namespace Go.Proofs.YtcnpoojdochapaaGreatDoor
open Go.CE Go.RowKit
def y87:XC:=(Zq (Rg [Iq 0 (.alloc 92 [Zi,Zs,Zs,Zs,Zs,Zs])])
 (Zq (Rg [Iq 2 (.build [Zi,Zs,Zs,Zs,Zs,Zs] [(0,1,(Ki 2020))]),Iq 1 (.alloc 92 [Zi,Zs,Zs,Zs,Zs,Zs]),Is (.store 6 T1 T2)])
 (Zq (Rg [Iq 3 (.call 85 [(Ki 10000)]),Iq 4 (.build [Ze,Ze,Zf,Zs,Zf,Zs] [(0,1,(.k (.string ⟨#[80]⟩))),(1,1,(.k (.string ⟨#[65]⟩))),(2,4,T3)]),Iq 5 (.call 85 [(Ki 5000)]),Iq 6 (.build [Ze,Ze,Zf,Zs,Zf,Zs] [(0,1,(.k (.string ⟨#[65]⟩))),(1,1,(.k (.string ⟨#[66]⟩))),(2,4,T5)]),Iq 7 (.call 85 [(Ki 3000)]),Iq 8 (.build [Ze,Ze,Zf,Zs,Zf,Zs] [(0,1,(.k (.string ⟨#[80]⟩))),(1,1,(.k (.string ⟨#[66]⟩))),(2,4,T7)]),Iq 9 (.call 85 [(Ki 4000)]),Iq 10 (.build [Ze,Ze,Zf,Zs,Zf,Zs] [(0,1,(.k (.string ⟨#[80]⟩))),(1,1,(.k (.string ⟨#[67]⟩))),(2,4,T9)]),Iq 11 (.call 85 [(Ki 10000)]),Iq 12 (.build [Ze,Ze,Zf,Zs,Zf,Zs] [(0,1,(.k (.string ⟨#[67]⟩))),(1,1,(.k (.string ⟨#[68]⟩))),(2,4,pO)]),Iq 13 (.bslice 172 6 5 [Ze,Ze,Zf,Zs,Zf,Zs] [(0,T4),(1,T6),(2,T8),(3,pU),(4,qC)]),Iq 14 (.fad 1 T1),Is (.store 1 uE uY)])
 (Zq (Rg [Iq 15 (.call 84 [(Ki 100000)]),Iq 16 (.build [Ze,Ze,Zf,Zs,Zf,Zs] [(0,1,(.k (.string ⟨#[80]⟩))),(1,1,(.k (.string ⟨#[115,97,108,101,115]⟩))),(2,4,vB)]),Iq 17 (.call 84 [(Ki 40000)]),Iq 18 (.build [Ze,Ze,Zf,Zs,Zf,Zs] [(0,1,(.k (.string ⟨#[80]⟩))),(1,1,(.k (.string ⟨#[99,111,115,116]⟩))),(2,4,yM)]),Iq 19 (.call 84 [(Ki 20000)]),Iq 20 (.build [Ze,Ze,Zf,Zs,Zf,Zs] [(0,1,(.k (.string ⟨#[80]⟩))),(1,1,(.k (.string ⟨#[105,110,116,45,111,117,116]⟩))),(2,4,yB)]),Iq 21 (.call 84 [(Ki 50000)]),Iq 22 (.build [Ze,Ze,Zf,Zs,Zf,Zs] [(0,1,(.k (.string ⟨#[65]⟩))),(1,1,(.k (.string ⟨#[115,97,108,101,115]⟩))),(2,4,Ce)]),Iq 23 (.call 84 [(Ki 90000)]),Iq 24 (.build [Ze,Ze,Zf,Zs,Zf,Zs] [(0,1,(.k (.string ⟨#[65]⟩))),(1,1,(.k (.string ⟨#[99,111,115,116]⟩))),(2,4,Eh)]),Iq 25 (.call 84 [(Ki 4001)]),Iq 26 (.build [Ze,Ze,Zf,Zs,Zf,Zs] [(0,1,(.k (.string ⟨#[65]⟩))),(1,1,(.k (.string ⟨#[109,101,97,108,115]⟩))),(2,4,Ef)]),Iq 27 (.call 84 [(Ki 9000)]),Iq 28 (.build [Ze,Ze,Zf,Zs,Zf,Zs] [(0,1,(.k (.string ⟨#[65]⟩))),(1,1,(.k (.string ⟨#[97,100,115]⟩))),(2,4,Ed)]),Iq 29 (.call 84 [(Ki 30000)]),Iq 30 (.build [Ze,Ze,Zf,Zs,Zf,Zs] [(0,1,(.k (.string ⟨#[66]⟩))),(1,1,(.k (.string ⟨#[115,97,108,101,115]⟩))),(2,4,J1)]),Iq 31 (.call 84 [(Ki 3000)]),Iq 32 (.build [Ze,Ze,Zf,Zs,Zf,Zs] [(0,1,(.k (.string ⟨#[66]⟩))),(1,1,(.k (.string ⟨#[100,101,112]⟩))),(2,4,Lp)]),Iq 33 (.call 84 [(Ki 2000)]),Iq 34 (.build [Ze,Ze,Zf,Zs,Zf,Zs] [(0,1,(.k (.string ⟨#[66]⟩))),(1,1,(.k (.string ⟨#[105,110,116,45,105,110]⟩))),(2,4,Pm)]),Iq 35 (.call 84 [(Ki 25000)]),Iq 36 (.build [Ze,Ze,Zf,Zs,Zf,Zs] [(0,1,(.k (.string ⟨#[67]⟩))),(1,1,(.k (.string ⟨#[99,111,115,116]⟩))),(2,4,Ro)]),Iq 37 (.call 84 [(Ki 5000)]),Iq 38 (.build [Ze,Ze,Zf,Zs,Zf,Zs] [(0,1,(.k (.string ⟨#[67]⟩))),(1,1,(.k (.string ⟨#[115,97,108,101,115]⟩))),(2,4,T37)]),Iq 39 (.call 84 [(Ki 777)]),Iq 40 (.build [Ze,Ze,Zf,Zs,Zf,Zs] [(0,1,(.k (.string ⟨#[68]⟩))),(1,1,(.k (.string ⟨#[102,114,101,101]⟩))),(2,4,T39)]),Iq 41 (.bslice 174 6 13 [Ze,Ze,Zf,Zs,Zf,Zs] [(0,xJ),(1,wO),(2,zK),(3,By),(4,Dp),(5,Ho),(6,J9),(7,Kz),(8,Lq),(9,O1),(10,Yf),(11,T38),(12,T40)]),Iq 42 (.fad 2 T1),Is (.store 1 T42 T41)])
 (Zq (Rg [Iq 43 (.call 157 [(.k (.string ⟨#[71,49]⟩)),(.k (.int .u8 1)),(.k (.string ⟨#[65]⟩)),(.k (.string ⟨#[80]⟩)),(.k (.string ⟨#[115,97,108,101,115]⟩)),(.k (.string ⟨#[99,111,115,116]⟩)),(Ki 12000)]),Iq 44 (.call 157 [(.k (.string ⟨#[76,49]⟩)),(.k (.int .u8 3)),(.k (.string ⟨#[66]⟩)),(.k (.string ⟨#[80]⟩)),(.k (.string ⟨#[105,110,116,45,105,110]⟩)),(.k (.string ⟨#[105,110,116,45,111,117,116]⟩)),(Ki 2000)]),Iq 45 (.app 176 10 144 [Zf,Ze,(.int .u8 0),Ze,Ze,Ze,Zf,Zs,Zf,Zs] T43 T44),Iq 46 (.fad 3 T1),Is (.store 1 T46 T45)])
 (Zq (Rg [Iq 47 (.call 84 [(Ki 3000)]),Iq 48 (.call 85 [(Ki 5000)]),Iq 49 (.build [Ze,Zf,Zs,Zf,Zs,Zf,Zs,Zf,Zs] [(0,1,(.k (.string ⟨#[71,49]⟩))),(1,4,T47),(5,4,T48)]),Iq 50 (.bslice 178 9 1 [Ze,Zf,Zs,Zf,Zs,Zf,Zs,Zf,Zs] [(0,T49)]),Iq 51 (.fad 4 T1),Is (.store 1 T51 T50)])
 (Zq (Rg [Iq 52 (Lt 6 T1),Is (.store 6 T0 T52)])
 .ret)))))))
def bNZ : FE := ⟨53, y87, [.c 0 true 6]⟩
theorem bSd : iI Tryz.prog 87 bNZ := iI.mk1 Tryz.func87
def y88:XC:=(Zq (Rg [Iq 0 (.alloc 92 [Zi,Zs,Zs,Zs,Zs,Zs])])
 (Zq (Rg [Iq 2 (.build [Zi,Zs,Zs,Zs,Zs,Zs] [(0,1,(Ki 2021))]),Iq 1 (.alloc 92 [Zi,Zs,Zs,Zs,Zs,Zs]),Is (.store 6 T1 T2)])
 (Zq (Rg [Iq 3 (.call 85 [(Ki 10000)]),Iq 4 (.build [Ze,Ze,Zf,Zs,Zf,Zs] [(0,1,(.k (.string ⟨#[80]⟩))),(1,1,(.k (.string ⟨#[65]⟩))),(2,4,T3)]),Iq 5 (.call 85 [(Ki 5000)]),Iq 6 (.build [Ze,Ze,Zf,Zs,Zf,Zs] [(0,1,(.k (.string ⟨#[65]⟩))),(1,1,(.k (.string ⟨#[66]⟩))),(2,4,T5)]),Iq 7 (.call 85 [(Ki 3000)]),Iq 8 (.build [Ze,Ze,Zf,Zs,Zf,Zs] [(0,1,(.k (.string ⟨#[80]⟩))),(1,1,(.k (.string ⟨#[66]⟩))),(2,4,T7)]),Iq 9 (.call 85 [(Ki 8000)]),Iq 10 (.build [Ze,Ze,Zf,Zs,Zf,Zs] [(0,1,(.k (.string ⟨#[80]⟩))),(1,1,(.k (.string ⟨#[67]⟩))),(2,4,T9)]),Iq 11 (.call 85 [(Ki 10000)]),Iq 12 (.build [Ze,Ze,Zf,Zs,Zf,Zs] [(0,1,(.k (.string ⟨#[67]⟩))),(1,1,(.k (.string ⟨#[68]⟩))),(2,4,pO)]),Iq 13 (.bslice 172 6 5 [Ze,Ze,Zf,Zs,Zf,Zs] [(0,T4),(1,T6),(2,T8),(3,pU),(4,qC)]),Iq 14 (.fad 1 T1),Is (.store 1 uE uY)])
 (Zq (Rg [Iq 15 (.call 84 [(Ki 150000)]),Iq 16 (.build [Ze,Ze,Zf,Zs,Zf,Zs] [(0,1,(.k (.string ⟨#[80]⟩))),(1,1,(.k (.string ⟨#[99,111,115,116]⟩))),(2,4,vB)]),Iq 17 (.call 84 [(Ki 20000)]),Iq 18 (.build [Ze,Ze,Zf,Zs,Zf,Zs] [(0,1,(.k (.string ⟨#[80]⟩))),(1,1,(.k (.string ⟨#[115,97,108,101,115]⟩))),(2,4,yM)]),Iq 19 (.call 84 [(Ki 5000)]),Iq 20 (.build [Ze,Ze,Zf,Zs,Zf,Zs] [(0,1,(.k (.string ⟨#[80]⟩))),(1,1,(.k (.string ⟨#[100,105,115,116]⟩))),(2,4,yB)]),Iq 21 (.call 84 [(Ki 1000)]),Iq 22 (.build [Ze,Ze,Zf,Zs,Zf,Zs] [(0,1,(.k (.string ⟨#[65]⟩))),(1,1,(.k (.string ⟨#[100,105,118]⟩))),(2,4,Ce)]),Iq 23 (.call 84 [(Ki 1000)]),Iq 24 (.build [Ze,Ze,Zf,Zs,Zf,Zs] [(0,1,(.k (.string ⟨#[66]⟩))),(1,1,(.k (.string ⟨#[100,105,115,116]⟩))),(2,4,Eh)]),Iq 25 (.call 84 [(Ki 60000)]),Iq 26 (.build [Ze,Ze,Zf,Zs,Zf,Zs] [(0,1,(.k (.string ⟨#[67]⟩))),(1,1,(.k (.string ⟨#[115,97,108,101,115]⟩))),(2,4,Ef)]),Iq 27 (.call 84 [(Ki 25000)]),Iq 28 (.build [Ze,Ze,Zf,Zs,Zf,Zs] [(0,1,(.k (.string ⟨#[68]⟩))),(1,1,(.k (.string ⟨#[103,105,102,116,115]⟩))),(2,4,Ed)]),Iq 29 (.call 84 [(Ki 12345)]),Iq 30 (.build [Ze,Ze,Zf,Zs,Zf,Zs] [(0,1,(.k (.string ⟨#[68]⟩))),(1,1,(.k (.string ⟨#[115,97,108,101,115]⟩))),(2,4,J1)]),Iq 31 (.bslice 174 6 8 [Ze,Ze,Zf,Zs,Zf,Zs] [(0,xJ),(1,wO),(2,zK),(3,By),(4,Dp),(5,Ho),(6,J9),(7,Kz)]),Iq 32 (.fad 2 T1),Is (.store 1 Lq Lp)])
 (Zq (Rg [Iq 33 (.call 157 [(.k (.string ⟨#[86,49]⟩)),(.k (.int .u8 4)),(.k (.string ⟨#[65]⟩)),(.k (.string ⟨#[66]⟩)),(.k (.string ⟨#[100,105,118]⟩)),(.k (.string ⟨#[100,105,115,116]⟩)),(Ki 1000)]),Iq 34 (.call 157 [(.k (.string ⟨#[83,49]⟩)),(.k (.int .u8 2)),(.k (.string ⟨#[67]⟩)),(.k (.string ⟨#[68]⟩)),(.k (.string ⟨#[115,97,108,101,115]⟩)),(.k (.string ⟨#[103,105,102,116,115]⟩)),(Ki 5000)]),Iq 35 (.app 176 10 144 [Zf,Ze,(.int .u8 0),Ze,Ze,Ze,Zf,Zs,Zf,Zs] Pm O1),Iq 36 (.fad 3 T1),Is (.store 1 Yf Ro)])
 (Zq (Rg [Iq 37 (.call 85 [(Ki 2500)]),Iq 38 (.build [Ze,Zf,Zs,Zf,Zs] [(0,1,(.k (.string ⟨#[71,49]⟩))),(1,4,T37)]),Iq 39 (.bslice 143 5 1 [Ze,Zf,Zs,Zf,Zs] [(0,T38)]),Iq 40 (.fad 5 T1),Is (.store 1 T40 T39)])
 (Zq (Rg [Iq 41 (Lt 6 T1),Is (.store 6 T0 T41)])
 .ret)))))))
def bOI : FE := ⟨42, y88, [.c 0 true 6]⟩
theorem bTG : iI Tryz.prog 88 bOI := iI.mk1 Tryz.func88
def y89:XC:=(Zq (Rg [Iq 0 (.alloc 92 [Zi,Zs,Zs,Zs,Zs,Zs])])
 (Zq (Rg [Iq 2 (.build [Zi,Zs,Zs,Zs,Zs,Zs] [(0,1,(Ki 2022))]),Iq 1 (.alloc 92 [Zi,Zs,Zs,Zs,Zs,Zs]),Is (.store 6 T1 T2)])
 (Zq (Rg [Iq 3 (.call 85 [(Ki 7400)]),Iq 4 (.build [Ze,Ze,Zf,Zs,Zf,Zs] [(0,1,(.k (.string ⟨#[80]⟩))),(1,1,(.k (.string ⟨#[65]⟩))),(2,4,T3)]),Iq 5 (.call 85 [(Ki 8000)]),Iq 6 (.build [Ze,Ze,Zf,Zs,Zf,Zs] [(0,1,(.k (.string ⟨#[80]⟩))),(1,1,(.k (.string ⟨#[67]⟩))),(2,4,T5)]),Iq 7 (.call 85 [(Ki 9999)]),Iq 8 (.build [Ze,Ze,Zf,Zs,Zf,Zs] [(0,1,(.k (.string ⟨#[67]⟩))),(1,1,(.k (.string ⟨#[68]⟩))),(2,4,T7)]),Iq 9 (.bslice 172 6 3 [Ze,Ze,Zf,Zs,Zf,Zs] [(0,T4),(1,T6),(2,T8)]),Iq 10 (.fad 1 T1),Is (.store 1 pU T9)])
 (Zq (Rg [Iq 11 (.call 84 [(Ki 300000)]),Iq 12 (.build [Ze,Ze,Zf,Zs,Zf,Zs] [(0,1,(.k (.string ⟨#[80]⟩))),(1,1,(.k (.string ⟨#[115,97,108,101,115]⟩))),(2,4,pO)]),Iq 13 (.call 84 [(Ki 9000)]),Iq 14 (.build [Ze,Ze,Zf,Zs,Zf,Zs] [(0,1,(.k (.string ⟨#[80]⟩))),(1,1,(.k (.string ⟨#[105,110,116,45,111,117,116]⟩))),(2,4,uY)]),Iq 15 (.call 84 [(Ki 10000)]),Iq 16 (.build [Ze,Ze,Zf,Zs,Zf,Zs] [(0,1,(.k (.string ⟨#[65]⟩))),(1,1,(.k (.string ⟨#[115,97,108,101,115]⟩))),(2,4,vB)]),Iq 17 (.call 84 [(Ki 70001)]),Iq 18 (.build [Ze,Ze,Zf,Zs,Zf,Zs] [(0,1,(.k (.string ⟨#[67]⟩))),(1,1,(.k (.string ⟨#[115,97,108,101,115]⟩))),(2,4,yM)]),Iq 19 (.call 84 [(Ki 8000)]),Iq 20 (.build [Ze,Ze,Zf,Zs,Zf,Zs] [(0,1,(.k (.string ⟨#[68]⟩))),(1,1,(.k (.string ⟨#[99,111,115,116]⟩))),(2,4,yB)]),Iq 21 (.call 84 [(.k (.int .i64 (-100)))]),Iq 22 (.build [Ze,Ze,Zf,Zs,Zf,Zs] [(0,1,(.k (.string ⟨#[68]⟩))),(1,1,(.k (.string ⟨#[109,101,97,108,115]⟩))),(2,4,Ce)]),Iq 23 (.bslice 174 6 6 [Ze,Ze,Zf,Zs,Zf,Zs] [(0,qC),(1,uE),(2,xJ),(3,wO),(4,zK),(5,By)]),Iq 24 (.fad 2 T1),Is (.store 1 Dp Eh)])
 (Zq (Rg [Iq 25 (.call 85 [(Ki 7500)]),Iq 26 (.build [Ze,Zf,Zs,Zf,Zs] [(0,1,(.k (.string ⟨#[71,49]⟩))),(1,4,Ef)]),Iq 27 (.bslice 143 5 1 [Ze,Zf,Zs,Zf,Zs] [(0,Ho)]),Iq 28 (.fad 5 T1),Is (.store 1 J9 Ed)])
 (Zq (Rg [Iq 29 (Lt 6 T1),Is (.store 6 T0 J1)])
 .ret))))))
def bPb : FE := ⟨30, y89, [.c 0 true 6]⟩
theorem bSt : iI Tryz.prog 89 bPb := iI.mk1 Tryz.func89
def y90:XC:=(Zq (Rg [Iq 4 (.mv (Ki 0))])
 (Zq (Rg [Im 5 T0,Im 6 T1,Iq 7 (.call 158 [T5,T6]),Im 4 T7])
 .ret))
def bNO : FE := ⟨8, y90, [.t 4]⟩
theorem bSO : iI Tryz.prog 90 bNO := iI.mk1 Tryz.func90
def y93:XC:=(Zq (Rg [Iq 2 (.alloc 148 [Zf,Zf,Zf,Zf,Zf,Zf,Zf,Zf,Zf,Zf,Zf,Zf,Zf,Zf,Zf,Zf,Zf,Zf,Zf,Zf,Zf,Zf,Zf,Zf,Zf,Zf,Zf,Zf,Zf,Zf,Zf,Zf,Zf,Zf,Zf,Zf,Zf,Zf,Zf,Zf,Zf,Zf,Zf,Zf,Zf,Zf,Zf,Zf,Zf,Zf,Zf,Zf,Zf,Zf,Zf,Zf,Zf,Zf,Zf,Zf,Zf,Zf,Zf,Zf,Zf,Zf,Zf,Zf,Zf,Zf,Zf,Zf,Zf,Zf,Zf,Zf,Zf,Zf,Zf,Zf,Zf,Zf,Zf,Zf,Zf,Zf,Zf,Zf,Zf,Zf,Zf,Zf,Zf,Zf,Zf,Zf,Zf,Zf,Zf,Zf,Zf,Zf,Zf,Zf,Zf,Zf,Zf,Zf,Zf,Zf,Zf,Zf,Zf,Zf,Zf,Zf,Zf,Zf,Zf,Zf,Zf,Zf,Zf,Zf,Zf,Zf,Zf,Zf,Zf,Zf,Zf,Zf,Zf,Zf,Zf,Zf,Zf,Zf,Zf,Zf,Zf,Zf,Zf,Zf,Zf,Zf,Zf,Zf,Zf,Zf,Zf,Zf,Zf,Zf,Zf,Zf,Zf,Zf,Zf,Zf,Zf,Zf,Zf,Zf,Zf,Zf,Zf,Zf,Zf,Zf,Zf,Zf,Zf,Zf,Zf,Zf,Zf,Zf,Zf,Zf,Zf,Zf,Zf,Zf,Zf,Zf,Zf,Zf,Zf,Zf,Zf,Zf,Zf,Zf,Zf,Zf,Zf,Zf,Zf,Zf,Zf,Zf,Zf,Zf,Zf,Zf,Zf,Zf,Zf,Zf,Zf,Zf,Zf,Zf,Zf,Zf,Zf,Zf,Zf,Zf,Zf,Zf,Zf,Zf,Zf,Zf,Zf,Zf,Zf,Zf,Zf,Zf,Zf,Zf,Zf,Zf,Zf,Zf,Zf,Zf,Zf,Zf,Zf,Zf,Zf,Zf,Zf,Zf,Zf,Zf,Zf,Zf,Zf,Zf,Zf,Zf]),Iq 3 (.mv Kf)])
 (Zq (Zq (Rg [Iq 4 (.mv (Ki 0))])
 (.block 0 (.loop (Zq (Zq (Rg [Im 6 T4,Im 7 T0,Iq 8 (.len true T7),Iq 9 (.bin .lss T6 T8)])
 (.cond T9 .skip
 (.exit 0)))
 (Zq (.block 1 (Zq (Rg [Im 12 T0,Im 13 T4,Iq 14 (.ixs qC uY),Im 5 uE])
 (Zq (Zq (Rg [Im 15 T5,Iq 16 (.bin .geq vB (.k (.int .u8 128)))])
 (.cond xJ (Zq (Rg [Iq 17 (Lt 256 T2),Is (.store 256 T2 yM),Iq 3 (.mv Kf)])
 .ret)
 .skip))
 (Rg [Im 18 T5,Iq 19 (.iaa 256 1 T2 wO),Is (.store 1 yB Kt)]))))
 (Rg [Im 10 T4,Iq 11 (.bin .add pU (Ki 1)),Im 4 pO]))))))
 (Zq (Rg [Iq 20 (Lt 256 T2),Is (.store 256 T2 zK),Iq 3 (.mv Kt)])
 .ret)))
def bNr : FE := ⟨21, y93, [.c 2 true 256, .t 3]⟩
theorem bRG : iI Tryz.prog 93 bNr := iI.mk1 Tryz.func93
def y94:XC:=(Zq (Rg [Iq 4 (.mv (.k Ze))])
 (Zq (.block 0 (.loop (Zq (Zq (Rg [Im 5 T0,Iq 6 (.len true T5),Iq 7 (.bin .gtr T6 (Ki 0))])
 (.cond T7 .skip
 (.exit 0)))
 (.block 1 (Zq (Zq (Rg [Im 8 T1,Im 9 T0,Iq 10 (.ixs T9 (Ki 0)),Iq 11 (.call 159 [T8,pU]),Iq 12 (.un .not pO)])
 (.cond qC (.exit 0)
 .skip))
 (Rg [Im 13 T0,Iq 14 (.slcS uY (some (Ki 1)) none),Im 0 uE]))))))
 (Zq (Rg [Im 15 T0,Im 4 vB])
 .ret)))
def bOC : FE := ⟨16, y94, [.t 4]⟩
theorem bTZ : iI Tryz.prog 94 bOC := iI.mk1 Tryz.func94
def y95:XC:=(Zq (Rg [Iq 4 (.mv (.k Ze))])
 (Zq (.block 0 (.loop (Zq (Zq (Rg [Im 5 T0,Iq 6 (.len true T5),Iq 7 (.bin .gtr T6 (Ki 0))])
 (.cond T7 .skip
 (.exit 0)))
 (.block 1 (Zq (Zq (Rg [Im 8 T1,Im 9 T0,Im 10 T0,Iq 11 (.len true pU),Iq 12 (.bin .sub pO (Ki 1)),Iq 13 (.ixs T9 qC),Iq 14 (.call 159 [T8,uY]),Iq 15 (.un .not uE)])
 (.cond vB (.exit 0)
 .skip))
 (Rg [Im 16 T0,Im 17 T0,Iq 18 (.len true yM),Iq 19 (.bin .sub wO (Ki 1)),Iq 20 (.slcS xJ none (some yB)),Im 0 zK]))))))
 (Zq (Rg [Im 21 T0,Im 4 Ce])
 .ret)))
def bPx : FE := ⟨22, y95, [.t 4]⟩
theorem bUa : iI Tryz.prog 95 bPx := iI.mk1 Tryz.func95
def y98:XC:=(Zq (Rg [Iq 4 (.mv (Ki 0))])
 (Zq (Rg [Im 5 T0,Im 6 T1,Iq 7 (.call 162 [T5,T6,Kt]),Im 4 T7])
 .ret))
def bQs : FE := ⟨8, y98, [.t 4]⟩
theorem bTN : iI Tryz.prog 98 bQs := iI.mk1 Tryz.func98
def y99:XC:=(Zq (Rg [Iq 4 (.mv (Ki 0))])
 (.block 0 (Zq (Rg [Im 161 T1,Iq 162 (.bin .leq (.k (.int .i32 0)) bO7),Im 163 bON,Iw 164 163 (.mv T1),Iw 165 163 (.bin .lss bOx (.k (.int .i32 128))),Iq 166 (.pick bO9 bQd Kf),Im 160 bOT])
 (.cond bPK (Zq (Rg [Im 167 T0,Im 168 T1,Iq 169 (.cvi .u8 bQY),Iq 170 (.call 32 [bOu,bM0]),Im 4 bN2])
 .ret)
 (Zq (Rg [Im 172 T1,Iq 173 (.bin .eql bMx (.k (.int .i32 65533))),Im 171 bM2])
 (.cond bPr (Zq (Zq (Rg [Im 174 T0,Iq 175 (.rngS bQc)])
 (.block 9 (.loop (Zq (Rg [Iq 176 (.nxtS bQJ),Iq 177 (.ext bHY 0)])
 (Zq (.cond bNW .skip
 (.exit 9))
 (.block 10 (Zq (Rg [Iq 178 (.ext bHY 1),Iq 179 (.ext bHY 2),Im 5 bNf,Im 6 bPL])
 (Zq (Rg [Im 180 T6,Iq 181 (.bin .eql bNk (.k (.int .i32 65533)))])
 (.cond bPA (Zq (Rg [Im 182 T5,Im 4 bMD])
 .ret)
 .skip)))))))))
 (Zq (Rg [Iq 4 (.mv (.k (.int .i64 (-1))))])
 .ret))
 (Zq (Rg [Im 184 T1,Iq 185 (.call 163 [bOs]),Iq 186 (.un .not bMs),Im 183 bOJ])
 (.cond bMr (Zq (Rg [Iq 4 (.mv (.k (.int .i64 (-1))))])
 .ret)
 .bad))))))))
def bMX : FE := ⟨187, y99, [.t 4]⟩
theorem bTJ : iI Tryz.prog 99 bMX := iI.mk1 Tryz.func99
def bVl:XC:=(Zq (Rg [Iq 1 (.box 26 T0),Iq 2 (.mv Kf)])
 (Zq (Rg [Iq 3 (.fad 0 T1),Iq 4 (Lt 2 T3),Iq 5 (.call 166 [T4]),Im 6 T5,Iw 7 6 (.fad 2 T1),Iw 8 6 (Lt 2 T7),Iw 9 6 (.call 166 [T8]),Iq 10 (.pick T6 T9 Kf),Im 11 pU,Iw 12 11 (.fad 2 T1),Iw 13 11 (Lt 2 qC),Iw 14 11 (.call 103 [uY]),Iw 15 11 (.bin .gtr uE (Ki 0)),Iq 16 (.pick pO vB Kf),Im 17 xJ,Iw 18 17 (.fad 0 T1),Iw 19 17 (Lt 2 wO),Iw 20 17 (.fad 2 T1),Iw 21 17 (Lt 2 zK),Iw 22 17 (.call 167 [yB,Ce]),Iw 23 17 (.call 104 []),Iw 24 17 (.call 107 [By,Eh]),Iw 25 17 (.bin .eql Dp (Ki 0)),Iq 26 (.pick yM Ef Kf),Im 2 Ho])
 .ret))
def bGs : FE := ⟨27, bVl, [.t 2]⟩
theorem bNc : iI Tryz.prog 100 bGs := iI.mk1 Tryz.func100
def bWC:XC:=(Zq (Rg [Iq 2 (.box 24 T0),Iq 3 (.box 24 T1),Iq 4 (.alloc 24 [Zf,Zs]),Iq 5 (.alloc 24 [Zf,Zs]),Iq 6 (.mv (Ki 0))])
 (Zq (.draw [⟨Iq 11 (Lt 2 T2),[]⟩,⟨Iq 12 (.call 154 [pO]),[0]⟩,⟨Iq 13 (Lt 2 T3),[]⟩,⟨Iq 14 (.call 154 [uY]),[2,1]⟩,⟨Iq 7 (.alloc 228 [Zf,Zs]),[]⟩,⟨Iq 8 (.alloc 228 [Zf,Zs]),[]⟩,⟨Is (.store 2 T7 qC),[4,1,3,0,1,4,5]⟩,⟨Is (.store 2 T8 uE),[5,3,6,0,1,2,3,4,5,6]⟩] [0,1,0,7,0,0,63,127])
 (Zq (Rg [Iq 16 (.fad 0 T7),Iq 17 (.fad 1 xJ),Iq 18 (Lo yM),Iq 19 (.fad 0 T8),Iq 20 (.fad 1 yB),Iq 21 (Lo zK),Iq 22 (.call 168 [wO,Ce]),Im 15 By,Iq 23 (.ext vB 0),Iq 24 (.ext vB 1),Iq 25 (.ext vB 2),Im 9 Eh,Im 10 Dp,Im 6 Ef])
 (Zq (Zq (Rg [Im 26 T6,Iq 27 (.bin .neq Ho (Ki 0))])
 (.cond Ed (Zq (Rg [Iq 28 (.build [Zf,Zs] []),Iq 29 (.build [Zf,Zs] []),Is (.store 2 T4 J9),Is (.store 2 T5 J1),Iq 6 (.mv (Ki 20))])
 .ret)
 .skip))
 (Zq (Zq (Rg [Iq 30 (.fad 0 T7),Iq 31 (.fad 0 Kz),Iq 32 (Lo Lp),Iq 33 (.fad 0 T8),Iq 34 (.fad 0 Pm),Iq 35 (Lo O1),Iq 36 (.binB .neq Lq Ro),Im 37 Yf,Iw 38 37 (.mv pU),Iw 39 37 (.len false T38),Iw 40 37 (.bin .gtr T39 (Ki 0)),Iq 41 (.pick T37 T40 Kf)])
 (.cond T41 (Zq (Rg [Im 42 T9,Iq 43 (.bslice 221 1 1 [(.int .u32 0)] [(0,(.k (.int .u32 1)))]),Iq 44 (.call 169 [T42,T43]),Im 9 T44])
 (Rg [Iq 46 (.fad 0 T8),Iq 47 (.fad 1 T46),Iq 48 (Lo T47),Im 49 pU,Iq 50 (.call 170 [T48,T49]),Im 45 T50,Iq 51 (.ext T45 0),Iq 52 (.ext T45 1),Im 10 T51]))
 .skip))
 (Zq (.draw [⟨Iq 53 (.fad 0 T7),[]⟩,⟨Iq 54 (.fad 0 T53),[0]⟩,⟨Iq 55 (Lo T54),[1]⟩,⟨Iq 56 (.fad 0 T8),[]⟩,⟨Iq 57 (.fad 0 T56),[3]⟩,⟨Iq 58 (Lo T57),[4]⟩,⟨Iq 59 (.binB .neq T55 T58),[2,5]⟩,⟨Im 60 T9,[]⟩,⟨Iq 61 (.call 171 [T59,T60]),[6,7]⟩,⟨Iq 62 (.fad 0 T8),[]⟩,⟨Iq 63 (.fad 0 T62),[9]⟩,⟨Iq 64 (Lo T63),[10]⟩,⟨Im 65 pU,[]⟩,⟨Iq 66 (.call 171 [T64,T65]),[11,12,8]⟩,⟨Is (.store 2 T4 T61),[8,13,0,1,2,3,4,5,6,7,8]⟩,⟨Is (.store 2 T5 T66),[13,14,0,1,2,3,4,5,6,7,8,9,10,11,12,13,14]⟩,⟨Iq 6 (.mv (Ki 0)),[15,0,1,2,3,4,5,6,7,8,9,10,11,12,13,14,15]⟩] [0,1,3,0,8,24,63,0,255,0,512,1536,0,8191,16383,32767,65535])
 .ret))))))
def bDU : FE := ⟨67, bWC, [.c 4 true 2, .c 5 true 2, .t 6]⟩
theorem bOK : iI Tryz.prog 101 bDU := iI.mk1 Tryz.func101
def bVu:XC:=(Zq (Rg [Iq 2 (.alloc 24 [Zf,Zs])])
 (Zq (Rg [Im 4 T0,Iq 5 (.cvi .u64 T4),Im 3 T5])
 (Zq (Zq (Rg [Im 6 T0,Iq 7 (.bin .lss T6 (Ki 0))])
 (.cond T7 (Rg [Im 8 T3,Iq 9 (.un .neg T8),Im 3 T9])
 .skip))
 (Zq (Rg [Im 10 T0,Iq 11 (.bin .lss pU (Ki 0)),Im 12 T3,Iq 13 (.cvi .u32 qC),Im 14 T3,Iq 15 (.bin .shr uE (.k (.int .u64 32))),Iq 16 (.cvi .u32 vB),Iq 17 (.bslice 221 1 2 [(.int .u32 0)] [(0,uY),(1,xJ)]),Iq 18 (.call 172 [yM]),Iq 19 (.call 171 [pO,wO]),Is (.store 2 T2 yB)])
 .ret))))
def bH6 : FE := ⟨20, bVu, [.c 2 true 2]⟩
theorem bOU : iI Tryz.prog 102 bH6 := iI.mk1 Tryz.func102
def bU6:XC:=(Zq (Rg [Iq 1 (.box 24 T0),Iq 2 (.mv (Ki 0))])
 (Zq (Zq (Rg [Iq 4 (Lt 2 T1),Iq 5 (.call 154 [T4]),Iq 3 (.alloc 228 [Zf,Zs]),Is (.store 2 T3 T5)])
 (.block 0 (Zq (Rg [Iq 7 (.fad 0 T3),Iq 8 (.fad 0 T7),Iq 9 (Lo T8),Im 6 T9])
 (.cond T6 (Zq (Rg [Iq 2 (.mv (.k (.int .i64 (-1))))])
 .ret)
 (Zq (Rg [Iq 11 (.fad 0 T3),Iq 12 (.fad 1 pO),Iq 13 (Lo qC),Iq 14 (.len false uY),Iq 15 (.bin .gtr uE (Ki 0)),Im 10 vB])
 (.cond pU (Zq (Rg [Iq 2 (.mv (Ki 1))])
 .ret)
 .skip))))))
 (Zq (Rg [Iq 2 (.mv (Ki 0))])
 .ret)))
def bDI : FE := ⟨16, bU6, [.t 2]⟩
theorem bQA : iI Tryz.prog 103 bDI := iI.mk1 Tryz.func103
def bVq:XC:=(Zq (Rg [Iq 0 (.alloc 24 [Zf,Zs])])
 (Zq (Rg [Iq 1 (.call 102 [(Ki 1)]),Is (.store 2 T0 T1)])
 .ret))
def bHF : FE := ⟨2, bVq, [.c 0 true 2]⟩
theorem bOf : iI Tryz.prog 104 bHF := iI.mk1 Tryz.func104
def bXQ:XC:=(Zq (Rg [Iq 2 (.box 24 T0),Iq 3 (.box 24 T1),Iq 4 (.alloc 26 [Zf,Zs,Zf,Zs])])
 (Zq (Rg [Iq 12 (Lt 2 T2),Iq 13 (Lt 2 T3),Iq 14 (.call 167 [qC,uY]),Iq 5 (.alloc 24 [Zf,Zs]),Is (.store 2 T5 uE)])
 (Zq (Zq (Rg [Iq 15 (Lt 2 T3),Iq 16 (.call 103 [vB]),Iq 17 (.bin .lss xJ (Ki 0))])
 (.cond yM (Rg [Iq 18 (Lt 2 T5),Iq 19 (.call 81 [wO]),Is (.store 2 T5 yB)])
 .skip))
 (Zq (Rg [Iq 21 (Lt 2 T2),Iq 22 (Lt 2 T5),Iq 23 (.call 101 [Ce,By]),Im 20 Eh,Iq 24 (.ext zK 0),Iq 25 (.ext zK 1),Iq 26 (.ext zK 2),Iq 6 (.alloc 24 [Zf,Zs]),Iq 7 (.alloc 24 [Zf,Zs]),Is (.store 2 T6 Dp),Is (.store 2 T7 Ef),Im 8 Ho])
 (Zq (Rg [Iq 28 (Lt 2 T3),Iq 29 (Lt 2 T5),Iq 30 (.call 101 [J9,J1]),Im 27 Kz,Iq 31 (.ext Ed 0),Iq 32 (.ext Ed 1),Iq 33 (.ext Ed 2),Iq 9 (.alloc 24 [Zf,Zs]),Iq 10 (.alloc 24 [Zf,Zs]),Is (.store 2 T9 Lp),Is (.store 2 pU Lq),Im 11 Pm])
 (Zq (Rg [Iq 34 (Lt 2 T6),Iq 35 (Lt 2 T9),Iq 36 (.build [Zf,Zs,Zf,Zs] [(0,2,O1),(2,2,Ro)]),Is (.store 4 T4 Yf)])
 .ret))))))
def bFS : FE := ⟨37, bXQ, [.c 4 true 4]⟩
theorem bNS : iI Tryz.prog 105 bFS := iI.mk1 Tryz.func105
def bVE:XC:=(Zq (Rg [Iq 2 (.box 24 T0),Iq 3 (.box 24 T1),Iq 4 (.alloc 24 [Zf,Zs])])
 (Zq (.draw [⟨Iq 7 (Lt 2 T2),[]⟩,⟨Iq 8 (.call 154 [T7]),[0]⟩,⟨Iq 9 (Lt 2 T3),[]⟩,⟨Iq 10 (.call 154 [T9]),[2,1]⟩,⟨Iq 5 (.alloc 228 [Zf,Zs]),[]⟩,⟨Iq 6 (.alloc 228 [Zf,Zs]),[]⟩,⟨Is (.store 2 T5 T8),[4,1,3,0,1,4,5]⟩,⟨Is (.store 2 T6 pU),[5,3,6,0,1,2,3,4,5,6]⟩] [0,1,0,7,0,0,63,127])
 (Zq (.draw [⟨Iq 11 (.fad 0 T5),[]⟩,⟨Iq 12 (.fad 0 pO),[0]⟩,⟨Iq 13 (Lo qC),[1]⟩,⟨Iq 14 (.fad 0 T6),[]⟩,⟨Iq 15 (.fad 0 uE),[3]⟩,⟨Iq 16 (Lo vB),[4]⟩,⟨Iq 17 (.binB .neq uY xJ),[2,5]⟩,⟨Iq 18 (.fad 0 T5),[]⟩,⟨Iq 19 (.fad 1 wO),[7]⟩,⟨Iq 20 (Lo yB),[8]⟩,⟨Iq 21 (.fad 0 T6),[]⟩,⟨Iq 22 (.fad 1 Ce),[10]⟩,⟨Iq 23 (Lo By),[11]⟩,⟨Iq 24 (.call 173 [zK,Eh]),[9,12]⟩,⟨Iq 25 (.call 171 [yM,Dp]),[6,13,13]⟩,⟨Is (.store 2 T4 Ef),[14,14,0,1,2,3,4,5,6,7,8,9,10,11,12,13,14]⟩] [0,1,3,0,8,24,63,0,128,384,0,1024,3072,8064,16383,32767])
 .ret)))
def bEf : FE := ⟨26, bVE, [.c 4 true 2]⟩
theorem bMv : iI Tryz.prog 106 bEf := iI.mk1 Tryz.func106
def bWV:XC:=(Zq (Rg [Iq 2 (.box 24 T0),Iq 3 (.box 24 T1),Iq 4 (.mv (Ki 0))])
 (Zq (Rg [Iq 5 (Lt 2 T2),Iq 6 (Lt 2 T3),Iq 7 (.call 174 [T5,T6]),Iq 8 (.call 103 [T7]),Im 4 T8])
 .ret))
def bGH : FE := ⟨9, bWV, [.t 4]⟩
theorem bNX : iI Tryz.prog 107 bGH := iI.mk1 Tryz.func107
def bVb:XC:=(Zq (Rg [Iq 3 (.box 26 T0),Iq 6 (.alloc 26 [Zf,Zs,Zf,Zs])])
 (Zq (Rg [Iq 10 (Lt 4 T3),Iq 11 (.call 80 [pU]),Iq 12 (.call 38 [(Ki 0)]),Iq 13 (.call 79 [pO,qC]),Iq 7 (.alloc 26 [Zf,Zs,Zf,Zs]),Is (.store 4 T7 uY)])
 (Zq (Zq (Rg [Im 14 T1,Iq 15 (.len false uE),Iq 16 (.mv (Ki 0))])
 (.block 0 (.loop (Zq (Rg [Iq 17 (.bin .lss xJ vB)])
 (Zq (.cond yM .skip
 (.exit 0))
 (Zq (.block 1 (Zq (Rg [Iq 18 (.iad 4 uE xJ),Iq 19 (Lt 4 wO),Iq 9 (.alloc 26 [Zf,Zs,Zf,Zs]),Is (.store 4 T9 yB)])
 (Zq (.draw [⟨Im 20 T2,[]⟩,⟨Iq 21 (Lt 4 T7),[]⟩,⟨Iq 22 (.build [Zf,Zs,Zf,Zs] [(0,4,Ce)]),[1]⟩,⟨Iq 23 (.callv zK [By]),[0,2]⟩,⟨Iq 24 (Lt 4 T9),[]⟩,⟨Iq 25 (.callv Eh [Dp]),[3,4,3]⟩] [0,0,2,7,0,31])
 (.cond Ef (Rg [Iq 26 (Lt 4 T9),Iq 27 (.call 80 [Ho]),Iq 28 (.call 38 [(Ki 0)]),Iq 29 (.call 79 [Ed,J9]),Is (.store 4 T7 J1)])
 .skip))))
 (Rg [Iq 30 (.bin .add xJ (Ki 1)),Im 16 Kz])))))))
 (Zq (Rg [Iq 31 (Lt 4 T7),Is (.store 4 T6 Lp)])
 .ret))))
def bE5 : FE := ⟨32, bVb, [.c 6 true 4]⟩
theorem bOj : iI Tryz.prog 108 bE5 := iI.mk1 Tryz.func108
def bWp:XC:=(Zq (Rg [Iq 1 (.box 165 T0),Iq 2 (.mv (.k .nilFunc))])
 (Zq (Rg [Iq 3 (Lt 4 T1),Iq 4 (.mkf 110 [T3] []),Im 2 T4])
 .ret))
def bIM : FE := ⟨5, bWp, [.t 2]⟩
theorem bNU : iI Tryz.prog 109 bIM := iI.mk1 Tryz.func109
def bXz:XC:=(Zq (Rg [Iq 2 (.box 165 T0),Iq 3 (.box 26 T1),Iq 4 (.mv Kf)])
 (Zq (Rg [Iq 5 (Lt 4 T3),Iq 6 (.fad 0 T2),Iq 7 (Lt 4 T6),Iq 8 (.call 40 [T5,T7]),Iq 9 (.bin .gtr T8 (Ki 0)),Im 4 T9])
 .ret))
def bG5 : FE := ⟨10, bXz, [.t 4]⟩
theorem bPD : iI Tryz.prog 110 bG5 := iI.mk1 Tryz.func110
def bXK:XC:=(Zq (Rg [Iq 2 (.box 28 T0),Iq 3 (.box 28 T1),Iq 4 (.alloc 28 [Zf,Zs]),Iq 5 (.alloc 28 [Zf,Zs]),Iq 6 (.mv (Ki 0))])
 (Zq (Rg [Iq 11 (Lt 2 T2),Iq 12 (.call 149 [pO]),Is (.store 2 T2 qC)])
 (Zq (Rg [Iq 13 (Lt 2 T3),Iq 14 (.call 149 [uY]),Is (.store 2 T3 uE)])
 (Zq (Zq (Rg [Iq 15 (.fad 1 T3),Iq 16 (Lo vB),Iq 17 (.len false xJ),Iq 18 (.bin .eql yM (Ki 0))])
 (.cond wO (Zq (Rg [Iq 19 (.build [Zf,Zs] []),Iq 20 (.build [Zf,Zs] []),Is (.store 2 T4 yB),Is (.store 2 T5 zK),Iq 6 (.mv (Ki 20))])
 .ret)
 .skip))
 (Zq (.draw [⟨Iq 22 (.fad 1 T2),[]⟩,⟨Iq 23 (Lo By),[0]⟩,⟨Iq 24 (.call 152 [Eh]),[1]⟩,⟨Iq 25 (.fad 1 T3),[]⟩,⟨Iq 26 (Lo Ef),[3]⟩,⟨Iq 27 (.call 152 [Ho]),[4,2]⟩,⟨Iq 28 (.call 175 [Dp,Ed]),[2,5,5]⟩,⟨Im 21 J9,[6]⟩,⟨Iq 29 (.ext Ce 0),[7]⟩,⟨Iq 30 (.ext Ce 1),[7]⟩,⟨Im 7 J1,[8,6,0,1,2,3,4,5,6,7,8]⟩,⟨Im 8 Kz,[9,10,0,1,2,3,4,5,6,7,8,9,10]⟩] [0,1,3,0,8,31,63,127,255,255,511,2047])
 (Zq (.draw [⟨Iq 31 (.fad 0 T2),[]⟩,⟨Iq 32 (Lo Lp),[0]⟩,⟨Iq 33 (.fad 0 T3),[]⟩,⟨Iq 34 (Lo Pm),[2]⟩,⟨Iq 35 (.binB .neq Lq O1),[1,3]⟩,⟨Im 36 T7,[]⟩,⟨Iq 37 (.call 150 [Yf]),[5]⟩,⟨Iq 38 (.call 148 [Ro,T37]),[4,6,6]⟩,⟨Iq 39 (.fad 0 T2),[]⟩,⟨Iq 40 (Lo T39),[8]⟩,⟨Im 41 T8,[]⟩,⟨Iq 42 (.call 150 [T41]),[10,7]⟩,⟨Iq 43 (.call 148 [T40,T42]),[9,11,11]⟩,⟨Iq 9 (.alloc 28 [Zf,Zs]),[]⟩,⟨Iq 10 (.alloc 28 [Zf,Zs]),[]⟩,⟨Is (.store 2 T9 T38),[13,7,12,0,1,2,3,4,5,6,7,13,14]⟩,⟨Is (.store 2 pU T43),[14,12,15,0,1,2,3,4,5,6,7,8,9,10,11,12,13,14,15]⟩] [0,1,0,4,15,0,32,127,0,256,0,1279,4095,0,0,32767,65535])
 (Zq (Zq (.draw [⟨Iq 44 (Lt 2 pU),[]⟩,⟨Iq 45 (.call 113 [T44]),[0]⟩,⟨Iq 46 (.bin .neq T45 (Ki 0)),[1]⟩,⟨Im 47 T46,[2,1]⟩,⟨Iw 48 47 (Lt 2 pU),[3]⟩,⟨Iw 49 47 (.call 113 [T48]),[4,3,3]⟩,⟨Iw 50 47 (Lt 2 T3),[3]⟩,⟨Iw 51 47 (.call 113 [T50]),[6,5,3]⟩,⟨Iw 52 47 (.bin .neq T49 T51),[5,7,3]⟩,⟨Iq 53 (.pick T47 T52 Kf),[3,8]⟩] [0,1,3,7,15,31,15,127,255,511])
 (.cond T53 (Zq (.draw [⟨Iq 54 (Lt 2 T9),[]⟩,⟨Iq 55 (.call 76 [(Ki 1)]),[]⟩,⟨Iq 56 (.call 176 [T54,T55]),[0,1,1]⟩,⟨Is (.store 2 T9 T56),[2,2,0,1,2]⟩] [0,0,3,7])
 (Rg [Iq 57 (Lt 2 pU),Iq 58 (Lt 2 T3),Iq 59 (.call 177 [T57,T58]),Is (.store 2 pU T59)]))
 .skip))
 (Zq (.draw [⟨Iq 60 (Lt 2 T9),[]⟩,⟨Iq 61 (Lt 2 pU),[]⟩,⟨Is (.store 2 T4 T60),[0,0]⟩,⟨Is (.store 2 T5 T61),[1,2,0,1,2]⟩,⟨Iq 6 (.mv (Ki 0)),[3,0,1,2,3]⟩] [0,0,1,7,15])
 .ret))))))))
def bHc : FE := ⟨62, bXK, [.c 4 true 2, .c 5 true 2, .t 6]⟩
theorem bPj : iI Tryz.prog 111 bHc := iI.mk1 Tryz.func111
def bWq:XC:=(Zq (Rg [Iq 1 (.box 30 T0),Iq 2 (.mv Kf)])
 (Zq (Rg [Iq 3 (.fad 0 T1),Iq 4 (Lt 2 T3),Iq 5 (.call 178 [T4]),Im 6 T5,Iw 7 6 (.fad 2 T1),Iw 8 6 (Lt 2 T7),Iw 9 6 (.call 178 [T8]),Iq 10 (.pick T6 T9 Kf),Im 11 pU,Iw 12 11 (.fad 2 T1),Iw 13 11 (Lt 2 qC),Iw 14 11 (.call 113 [uY]),Iw 15 11 (.bin .gtr uE (Ki 0)),Iq 16 (.pick pO vB Kf),Im 17 xJ,Iw 18 17 (.fad 0 T1),Iw 19 17 (Lt 2 wO),Iw 20 17 (.fad 2 T1),Iw 21 17 (Lt 2 zK),Iw 22 17 (.call 147 [yB,Ce]),Iw 23 17 (.call 76 [(Ki 1)]),Iw 24 17 (.call 179 [By,Eh]),Iq 25 (.pick yM Dp Kf),Im 2 Ef])
 .ret))
def bHh : FE := ⟨26, bWq, [.t 2]⟩
theorem bNv : iI Tryz.prog 112 bHh := iI.mk1 Tryz.func112
def bWu:XC:=(Zq (Rg [Iq 1 (.box 28 T0),Iq 2 (.mv (Ki 0))])
 (Zq (Rg [Iq 3 (Lt 2 T1),Iq 4 (.build [Zf,Zs] []),Iq 5 (.call 180 [T3,T4]),Im 2 T5])
 .ret))
def bHM : FE := ⟨6, bWu, [.t 2]⟩
theorem bMk : iI Tryz.prog 113 bHM := iI.mk1 Tryz.func113
def bUI:XC:=(Zq (Rg [Iq 2 (.box 30 T0),Iq 3 (.box 30 T1),Iq 4 (.alloc 30 [Zf,Zs,Zf,Zs])])
 (Zq (.draw [⟨Iq 5 (Lt 4 T2),[]⟩,⟨Iq 6 (Lt 4 T3),[]⟩,⟨Iq 7 (.call 45 [T6]),[1]⟩,⟨Iq 8 (.call 181 [T5,T7]),[0,2,2]⟩,⟨Is (.store 4 T4 T8),[3,3,0,1,2,3]⟩] [0,0,2,7,15])
 .ret))
def bDi : FE := ⟨9, bUI, [.c 4 true 4]⟩
theorem bQi : iI Tryz.prog 114 bDi := iI.mk1 Tryz.func114
def bUR:XC:=(Zq (Rg [Iq 1 (.box 28 T0),Iq 2 (.alloc 28 [Zf,Zs])])
 (Zq (.draw [⟨Iq 3 (Lt 2 T1),[]⟩,⟨Iq 4 (.call 149 [T3]),[0]⟩,⟨Iq 5 (.fld false 1 0 T4),[1]⟩,⟨Iq 6 (.un .not T5),[2]⟩,⟨Iq 7 (Lt 2 T1),[]⟩,⟨Iq 8 (.call 149 [T7]),[4,1]⟩,⟨Iq 9 (.fld false 1 1 T8),[5]⟩,⟨Iq 10 (.call 148 [T6,T9]),[3,6,5]⟩,⟨Is (.store 2 T2 pU),[7,7,0,1,2,3,4,5,6,7]⟩] [0,1,3,7,0,19,51,127,255])
 .ret))
def bIj : FE := ⟨11, bUR, [.c 2 true 2]⟩
theorem bQC : iI Tryz.prog 115 bIj := iI.mk1 Tryz.func115
def bXd:XC:=(Zq (Rg [Iq 4 (.mv Kf)])
 (Zq (Rg [Im 5 T0,Iq 6 (.bin .geq T5 (Ki 0)),Im 7 T6,Iw 8 7 (.mv T0),Iw 9 7 (.mv T1),Iw 10 7 (.bin .leq T8 T9),Iq 11 (.pick T7 pU Kf),Im 4 pO])
 .ret))
def bEX : FE := ⟨12, bXd, [.t 4]⟩
theorem bNE : iI Tryz.prog 116 bEX := iI.mk1 Tryz.func116
def bVo:XC:=aDv 6 172 127 [Ze,Ze,Zf,Zs,Zf,Zs]
def bHz : FE := ⟨42, bVo, [.t 10]⟩
theorem bQt : iI Tryz.prog 117 bHz := iI.mk1 Tryz.func117
def bV3:XC:=(Zq (Rg [Iq 1 (.box 172 T0),Iq 2 (.mv Kf)])
 (Zq (Rg [Iq 3 (.fad 0 T1),Iq 4 (Lo T3),Iq 5 (.call 9 [T4]),Im 6 T5,Iw 7 6 (.fad 1 T1),Iw 8 6 (Lo T7),Iw 9 6 (.call 9 [T8]),Iq 10 (.pick T6 T9 Kf),Im 11 pU,Iw 12 11 (.fad 2 T1),Iw 13 11 (Lt 4 qC),Iw 14 11 (.call 13 [uY]),Iq 15 (.pick pO uE Kf),Im 2 vB])
 .ret))
def bFk : FE := ⟨16, bV3, [.t 2]⟩
theorem bOr : iI Tryz.prog 118 bFk := iI.mk1 Tryz.func118
def bXH:XC:=aDv 6 174 127 [Ze,Ze,Zf,Zs,Zf,Zs]
def bEp : FE := ⟨42, bXH, [.t 10]⟩
theorem bM8 : iI Tryz.prog 119 bEp := iI.mk1 Tryz.func119
def bXb:XC:=(Zq (Rg [Iq 1 (.box 174 T0),Iq 2 (.mv Kf)])
 (Zq (Rg [Iq 3 (.fad 0 T1),Iq 4 (Lo T3),Iq 5 (.call 9 [T4]),Im 6 T5,Iw 7 6 (.fad 1 T1),Iw 8 6 (Lo T7),Iw 9 6 (.call 9 [T8]),Iq 10 (.pick T6 T9 Kf),Im 11 pU,Iw 12 11 (.fad 2 T1),Iw 13 11 (Lt 4 qC),Iw 14 11 (.call 11 [uY]),Iq 15 (.pick pO uE Kf),Im 2 vB])
 .ret))
def bGy : FE := ⟨16, bXb, [.t 2]⟩
theorem bMI : iI Tryz.prog 120 bGy := iI.mk1 Tryz.func120
def bWl:XC:=aDv 10 176 127 [Zf,Ze,(.int .u8 0),Ze,Ze,Ze,Zf,Zs,Zf,Zs]
def bFe : FE := ⟨42, bWl, [.t 10]⟩
theorem bOP : iI Tryz.prog 121 bFe := iI.mk1 Tryz.func121
def bXn:XC:=(Zq (Rg [Iq 1 (.box 176 T0),Iq 2 (.mv Kf)])
 (Zq (Rg [Iq 3 (.fad 1 T1),Iq 4 (Lo T3),Iq 5 (.call 9 [T4]),Im 6 T5,Iw 7 6 (.fad 2 T1),Iw 8 6 (Lo T7),Iw 9 6 (.bin .geq T8 (.k (.int .u8 1))),Iq 10 (.pick T6 T9 Kf),Im 11 pU,Iw 12 11 (.fad 2 T1),Iw 13 11 (Lo qC),Iw 14 11 (.bin .leq uY (.k (.int .u8 4))),Iq 15 (.pick pO uE Kf),Im 16 vB,Iw 17 16 (.fad 3 T1),Iw 18 16 (Lo yM),Iw 19 16 (.call 9 [wO]),Iq 20 (.pick xJ yB Kf),Im 21 zK,Iw 22 21 (.fad 4 T1),Iw 23 21 (Lo By),Iw 24 21 (.call 9 [Eh]),Iq 25 (.pick Ce Dp Kf),Im 26 Ef,Iw 27 26 (.fad 5 T1),Iw 28 26 (Lo Ed),Iw 29 26 (.call 9 [J9]),Iq 30 (.pick Ho J1 Kf),Im 31 Kz,Iw 32 31 (.fad 6 T1),Iw 33 31 (Lt 4 Lq),Iw 34 31 (.call 11 [Pm]),Iq 35 (.pick Lp O1 Kf),Im 2 Ro])
 .ret))
def bFQ : FE := ⟨36, bXn, [.t 2]⟩
theorem bMu : iI Tryz.prog 122 bFQ := iI.mk1 Tryz.func122
def bVH:XC:=aDv 9 178 127 [Ze,Zf,Zs,Zf,Zs,Zf,Zs,Zf,Zs]
def bGO : FE := ⟨42, bVH, [.t 10]⟩
theorem bOi : iI Tryz.prog 123 bGO := iI.mk1 Tryz.func123
def bUQ:XC:=(Zq (Rg [Iq 1 (.box 178 T0),Iq 2 (.mv Kf)])
 (Zq (Rg [Iq 3 (.fad 0 T1),Iq 4 (Lo T3),Iq 5 (.call 9 [T4]),Im 6 T5,Iw 7 6 (.fad 1 T1),Iw 8 6 (Lt 4 T7),Iw 9 6 (.call 11 [T8]),Iq 10 (.pick T6 T9 Kf),Im 11 pU,Iw 12 11 (.fad 5 T1),Iw 13 11 (Lt 4 qC),Iw 14 11 (.call 13 [uY]),Iq 15 (.pick pO uE Kf),Im 2 vB])
 .ret))
def bEc : FE := ⟨16, bUQ, [.t 2]⟩
theorem bMV : iI Tryz.prog 124 bEc := iI.mk1 Tryz.func124
def bVg:XC:=aDv 5 143 127 [Ze,Zf,Zs,Zf,Zs]
def bIN : FE := ⟨42, bVg, [.t 10]⟩
theorem bNM : iI Tryz.prog 125 bIN := iI.mk1 Tryz.func125
def bXR:XC:=(Zq (Rg [Iq 1 (.box 143 T0),Iq 2 (.mv Kf)])
 (Zq (Rg [Iq 3 (.fad 0 T1),Iq 4 (Lo T3),Iq 5 (.call 9 [T4]),Im 6 T5,Iw 7 6 (.fad 1 T1),Iw 8 6 (Lt 4 T7),Iw 9 6 (.call 13 [T8]),Iq 10 (.pick T6 T9 Kf),Im 2 pU])
 .ret))
def bHg : FE := ⟨11, bXR, [.t 2]⟩
theorem bNt : iI Tryz.prog 126 bHg := iI.mk1 Tryz.func126
def bWk:XC:=(Zq (Rg [Iq 1 (.box 104 T0),Iq 2 (.mv Kf)])
 (Zq (Zq (Rg [Iq 3 (.fad 0 T1),Iq 4 (Lo T3),Iq 5 (.call 10 [T4]),Iq 6 (.un .not T5),Im 7 T6,Iv 8 7 (.fad 1 T1),Iv 9 7 (Lo T8),Iv 10 7 (.bin .lss T9 (.k (.int .u8 1))),Iq 11 (.pick T7 Kt pU),Im 12 pO,Iv 13 12 (.fad 1 T1),Iv 14 12 (Lo uY),Iv 15 12 (.bin .gtr uE (.k (.int .u8 11))),Iq 16 (.pick qC Kt vB)])
 (.cond xJ (Zq (Rg [Iq 2 (.mv Kf)])
 .ret)
 .skip))
 (Zq (Zq (Rg [Iq 17 (.fad 1 T1),Iq 18 (Lo yM)])
 (.block 0 (Zq (Rg [Iq 20 (.bin .eql wO (.k (.int .u8 4))),Im 19 zK])
 (.cond yB (Zq (Rg [Iq 21 (.fad 2 T1),Iq 22 (Lt 4 Ce),Iq 23 (.call 14 [By]),Im 2 Eh])
 .ret)
 (Zq (Rg [Iq 25 (.bin .eql wO (.k (.int .u8 5))),Im 24 Ef])
 (.cond Dp (Zq (Rg [Iq 26 (.fad 2 T1),Iq 27 (Lt 4 Ho),Iq 28 (.call 12 [Ed]),Im 2 J9])
 .ret)
 (Zq (Rg [Iq 30 (.bin .eql wO (.k (.int .u8 6))),Im 29 Kz])
 (.cond J1 (Zq (.draw [⟨Iq 31 (.fad 2 T1),[]⟩,⟨Iq 32 (Lt 4 Lp),[0]⟩,⟨Iq 33 (.call 43 [Lq,(Ki 1)]),[1]⟩,⟨Im 34 Pm,[2,2]⟩,⟨Iw 35 34 (.fad 2 T1),[3]⟩,⟨Iw 36 34 (Lt 4 Ro),[4,3]⟩,⟨Iw 37 34 (.call 47 [Yf]),[5,3,3]⟩,⟨Iw 38 34 (.bin .geq T37 (Ki 0)),[6,3]⟩,⟨Iq 39 (.pick O1 T38 Kf),[3,7]⟩,⟨Im 40 T39,[8,6]⟩,⟨Iw 41 40 (.fad 2 T1),[9]⟩,⟨Iw 42 40 (Lt 4 T41),[10,9]⟩,⟨Iw 43 40 (.call 42 [(Ki 40)]),[9,9]⟩,⟨Iw 44 40 (.call 44 [T42,T43]),[11,12,12,9]⟩,⟨Iw 45 40 (.bin .leq T44 (Ki 0)),[13,9]⟩,⟨Iq 46 (.pick T40 T45 Kf),[9,14]⟩,⟨Im 2 T46,[15,13,0,1,2,3,4,5,6,7,8,9,10,11,12,13,14,15]⟩] [0,1,3,7,15,31,63,127,255,511,1023,2047,1023,8191,16383,32767,65535])
 .ret)
 .skip))))))))
 (Zq (Rg [Iq 47 (.fad 2 T1),Iq 48 (Lt 4 T47),Iq 49 (.call 112 [T48]),Im 50 T49,Iw 51 50 (.fad 2 T1),Iw 52 50 (Lt 4 T51),Iw 53 50 (.call 47 [T52]),Iw 54 50 (.bin .eql T53 (Ki 0)),Iq 55 (.pick T50 T54 Kf),Im 2 T55])
 .ret))))
def bEv : FE := ⟨56, bWk, [.t 2]⟩
theorem bPa : iI Tryz.prog 127 bEv := iI.mk1 Tryz.func127
def bUE:XC:=(Zq (Rg [Iq 2 (.box 28 T0),Iq 3 (.box 28 T1),Iq 4 (.mv Kf)])
 (Zq (Zq (Rg [Iq 6 (.fad 0 T2),Iq 7 (Lo T6),Iq 8 (.fad 0 T3),Iq 9 (Lo T8),Iq 10 (.binB .neq T7 T9),Im 11 pU,Iv 12 11 (.fad 1 T2),Iv 13 11 (Lo qC),Iv 14 11 (.len false uY),Iv 15 11 (.fad 1 T3),Iv 16 11 (Lo vB),Iv 17 11 (.len false xJ),Iv 18 11 (.bin .neq uE yM),Iq 19 (.pick pO Kt wO)])
 (.cond yB (Zq (Rg [Iq 4 (.mv Kf)])
 .ret)
 .skip))
 (Zq (Zq (Rg [Iq 5 (.mv (Ki 0))])
 (.block 0 (.loop (Zq (Zq (Rg [Im 20 T5,Iq 21 (.fad 1 T2),Iq 22 (Lo Ce),Iq 23 (.len false By),Iq 24 (.bin .lss zK Eh)])
 (.cond Dp .skip
 (.exit 0)))
 (Zq (.block 1 (Zq (.draw [⟨Iq 27 (.fad 1 T2),[]⟩,⟨Iq 28 (Lo Ed),[0]⟩,⟨Im 29 T5,[]⟩,⟨Iq 30 (.iad 1 J9 J1),[1,2]⟩,⟨Iq 31 (Lo Kz),[3]⟩,⟨Iq 32 (.fad 1 T3),[]⟩,⟨Iq 33 (Lo Lq),[5]⟩,⟨Im 34 T5,[]⟩,⟨Iq 35 (.iad 1 Pm O1),[6,7]⟩,⟨Iq 36 (Lo Ro),[8]⟩,⟨Iq 37 (.bin .neq Lp Yf),[4,9]⟩] [0,1,0,7,15,0,32,0,224,480,1023])
 (.cond T37 (Zq (Rg [Iq 4 (.mv Kf)])
 .ret)
 .skip)))
 (Rg [Im 25 T5,Iq 26 (.bin .add Ef (Ki 1)),Im 5 Ho]))))))
 (Zq (Rg [Iq 4 (.mv Kt)])
 .ret))))
def bGC : FE := ⟨38, bUE, [.t 4]⟩
theorem bMP : iI Tryz.prog 128 bGC := iI.mk1 Tryz.func128
def bW6:XC:=(Zq (Rg [Iq 0 (.alloc 30 [Zf,Zs,Zf,Zs])])
 (Zq (Rg [Iq 1 (.call 76 [(Ki 0)]),Iq 2 (.call 76 [(Ki 1)]),Iq 3 (.build [Zf,Zs,Zf,Zs] [(0,2,T1),(2,2,T2)]),Is (.store 4 T0 T3)])
 .ret))
def bHJ : FE := ⟨4, bW6, [.c 0 true 4]⟩
theorem bPS : iI Tryz.prog 146 bHJ := iI.mk1 Tryz.func146
def bV9:XC:=(Zq (Rg [Iq 2 (.box 28 T0),Iq 3 (.box 28 T1),Iq 4 (.alloc 28 [Zf,Zs])])
 (Zq (.draw [⟨Iq 9 (Lt 2 T2),[]⟩,⟨Iq 10 (.call 149 [T9]),[0]⟩,⟨Iq 11 (.fld false 1 1 pU),[1]⟩,⟨Iq 12 (.call 152 [pO]),[2,1]⟩,⟨Iq 13 (Lt 2 T3),[]⟩,⟨Iq 14 (.call 149 [uY]),[4,3]⟩,⟨Iq 15 (.fld false 1 1 uE),[5]⟩,⟨Iq 16 (.call 152 [vB]),[6,5]⟩,⟨Im 5 qC,[3,7,0,1,2,3]⟩,⟨Im 6 xJ,[7,8,0,1,2,3,4,5,6,7,8]⟩] [0,1,3,7,0,31,63,127,255,511])
 (Zq (.block 0 (.loop (Zq (Zq (Rg [Im 17 T6,Iq 18 (.len false yM),Iq 19 (.bin .gtr wO (Ki 0))])
 (.cond yB .skip
 (.exit 0)))
 (.block 1 (Zq (Rg [Im 21 T5,Im 22 T6,Iq 23 (.call 175 [Ce,By]),Im 20 Eh,Iq 24 (.ext zK 0),Iq 25 (.ext zK 1),Im 7 Dp,Im 8 Ef])
 (Zq (Rg [Im 26 T6,Im 5 Ho])
 (Rg [Im 27 T8,Im 6 Ed])))))))
 (Zq (Rg [Im 28 T5,Iq 29 (.call 150 [J9]),Iq 30 (.call 148 [Kf,J1]),Is (.store 2 T4 Kz)])
 .ret))))
def bFK : FE := ⟨31, bV9, [.c 4 true 2]⟩
theorem bOF : iI Tryz.prog 147 bFK := iI.mk1 Tryz.func147
def bXr:XC:=(Zq (Rg [Iq 4 (.alloc 28 [Zf,Zs])])
 (Zq (Rg [Im 6 T1,Iq 7 (.call 207 [T6]),Im 5 T7])
 (Zq (Rg [Im 8 T0,Im 9 T8,Iw 10 9 (.mv T5),Iw 11 9 (.len false pU),Iw 12 9 (.bin .gtr pO (Ki 0)),Iq 13 (.pick T9 qC Kf),Im 14 T5,Iq 15 (.build [Zf,Zs] [(0,1,uY),(1,1,uE)]),Is (.store 2 T4 vB)])
 .ret)))
def bDZ : FE := ⟨16, bXr, [.c 4 true 2]⟩
theorem bQT : iI Tryz.prog 148 bDZ := iI.mk1 Tryz.func148
def bWw:XC:=(Zq (Rg [Iq 1 (.box 28 T0),Iq 2 (.alloc 28 [Zf,Zs])])
 (Zq (Zq (Rg [Iq 3 (Lt 2 T1),Iq 4 (.call 178 [T3]),Iq 5 (.un .not T4)])
 (.cond T5 (Zq (Rg [Iq 6 (.build [Zf,Zs] []),Is (.store 2 T2 T6)])
 .ret)
 .skip))
 (Zq (Rg [Iq 7 (Lt 2 T1),Is (.store 2 T2 T7)])
 .ret)))
def bEe : FE := ⟨8, bWw, [.c 2 true 2]⟩
theorem bNa : iI Tryz.prog 149 bEe := iI.mk1 Tryz.func149
def bVM:XC:=(Zq (Rg [Iq 2 (.mv (.k Zs))])
 (Zq (Rg [Im 5 T0,Iq 6 (.len false T5),Iq 7 (.bin .add T6 (Ki 1)),Iq 8 (.bin .quo T7 (Ki 2)),Iq 9 (.mksl 221 1 4 [(.int .u32 0)] T8 T8),Im 3 T9])
 (Zq (Zq (Rg [Iq 4 (.mv (Ki 0))])
 (.block 0 (.loop (Zq (Zq (Rg [Im 10 T4,Im 11 T0,Iq 12 (.len false pO),Iq 13 (.bin .lss pU qC)])
 (.cond uY .skip
 (.exit 0)))
 (Zq (.block 1 (Zq (Rg [Im 16 T4,Iq 17 (.bin .rem xJ (Ki 2)),Iq 18 (.bin .eql yM (Ki 0))])
 (.cond wO (Rg [Im 19 T3,Im 20 T4,Iq 21 (.bin .quo zK (Ki 2)),Im 22 T0,Im 23 T4,Iq 24 (.iad 1 By Eh),Iq 25 (Lo Dp),Iq 26 (.cvi .u32 Ef),Iq 27 (.iad 1 yB Ce),Is (.store 1 Ed Ho)])
 (.draw [⟨Im 28 T3,[]⟩,⟨Im 29 T4,[]⟩,⟨Iq 30 (.bin .quo J1 (Ki 2)),[1]⟩,⟨Im 31 T3,[]⟩,⟨Im 32 T4,[]⟩,⟨Iq 33 (.bin .quo Lq (Ki 2)),[4]⟩,⟨Iq 34 (.iad 1 Lp Pm),[3,5]⟩,⟨Iq 35 (Lo O1),[6]⟩,⟨Im 36 T0,[]⟩,⟨Im 37 T4,[]⟩,⟨Iq 38 (.iad 1 Yf T37),[8,9]⟩,⟨Iq 39 (Lo T38),[10]⟩,⟨Iq 40 (.cvi .u32 T39),[11]⟩,⟨Iq 41 (.bin .mul (.k (.int .u32 65536)) T40),[12]⟩,⟨Iq 42 (.bin .add Ro T41),[7,13]⟩,⟨Iq 43 (.iad 1 J9 Kz),[0,2,0,1,2,3,4,5,6,7,8,9,10,11,12,13,14]⟩,⟨Is (.store 1 T43 T42),[15,14,0,1,2,3,4,5,6,7,8,9,10,11,12,13,14]⟩] [0,0,2,0,0,16,56,120,0,0,768,1792,3840,7936,16376,32767,65535]))))
 (Rg [Im 14 T4,Iq 15 (.bin .add uE (Ki 1)),Im 4 vB]))))))
 (Zq (Rg [Im 44 T3,Im 2 T44])
 .ret))))
def bEi : FE := ⟨45, bVM, [.t 2]⟩
theorem bOE : iI Tryz.prog 150 bEi := iI.mk1 Tryz.func150
def bWU:XC:=(Zq (Rg [Iq 4 (.mv (.k Zs))])
 (Zq (Rg [Im 10 T0,Iq 11 (.len false pU),Im 12 T1,Iq 13 (.len false qC),Iq 14 (.bin .add pO uY),Iq 15 (.bin .add uE (Ki 1)),Iq 16 (.mksl 3 1 8 [Zi] vB vB),Im 5 xJ])
 (Zq (Zq (Rg [Iq 6 (.mv (Ki 0))])
 (.block 0 (.loop (Zq (Zq (Rg [Im 17 T6,Im 18 T0,Iq 19 (.len false wO),Iq 20 (.bin .lss yM yB)])
 (.cond zK .skip
 (.exit 0)))
 (Zq (.block 1 (Zq (Rg [Iq 7 (.mv (Ki 0))])
 (Zq (Rg [Iq 8 (.mv (Ki 0))])
 (.block 2 (.loop (Zq (Zq (Rg [Im 23 T8,Im 24 T1,Iq 25 (.len false Dp),Iq 26 (.bin .lss Eh Ef),Im 27 Ho,Iv 28 27 (.mv T7),Iv 29 27 (.bin .gtr J9 (Ki 0)),Iq 30 (.pick Ed Kt J1)])
 (.cond Kz .skip
 (.exit 2)))
 (Zq (.block 3 (Zq (Rg [Im 33 T5,Im 34 T6,Im 35 T8,Iq 36 (.bin .add O1 Ro),Iq 37 (.iad 1 Pm Yf),Iq 38 (Lo T37),Im 39 T7,Iq 40 (.bin .add T38 T39),Im 9 T40])
 (Zq (Zq (Rg [Im 41 T8,Im 42 T1,Iq 43 (.len false T42),Iq 44 (.bin .lss T41 T43)])
 (.cond T44 (.draw [⟨Im 45 T9,[]⟩,⟨Im 46 T0,[]⟩,⟨Im 47 T6,[]⟩,⟨Iq 48 (.iad 1 T46 T47),[1,2]⟩,⟨Iq 49 (Lo T48),[3]⟩,⟨Im 50 T1,[]⟩,⟨Im 51 T8,[]⟩,⟨Iq 52 (.iad 1 T50 T51),[5,6]⟩,⟨Iq 53 (Lo T52),[7]⟩,⟨Iq 54 (.bin .mul T49 T53),[4,8]⟩,⟨Iq 55 (.bin .add T45 T54),[0,9]⟩,⟨Im 9 T55,[10,0,1,2,3,4,5,6,7,8,9,10]⟩] [0,0,0,6,14,0,0,96,224,510,1023,2047])
 .skip))
 (Zq (Rg [Im 56 T5,Im 57 T6,Im 58 T8,Iq 59 (.bin .add T57 T58),Im 60 T9,Iq 61 (.bin .rem T60 (Ki 65536)),Iq 62 (.iad 1 T56 T59),Is (.store 1 T62 T61)])
 (Rg [Im 63 T9,Iq 64 (.bin .quo T63 (Ki 65536)),Im 7 T64])))))
 (Rg [Im 31 T8,Iq 32 (.bin .add Lp (Ki 1)),Im 8 Lq]))))))))
 (Rg [Im 21 T6,Iq 22 (.bin .add Ce (Ki 1)),Im 6 By]))))))
 (Zq (Rg [Im 65 T5,Iq 66 (.call 208 [T65]),Im 4 T66])
 .ret))))
def bIx : FE := ⟨67, bWU, [.t 4]⟩
theorem bNj : iI Tryz.prog 151 bIx := iI.mk1 Tryz.func151
def bXJ:XC:=(Zq (Rg [Iq 2 (.mv (.k Zs))])
 (Zq (Rg [Iq 3 (.mv (.k Zs))])
 (Zq (Zq (Rg [Iq 4 (.mv (Ki 0))])
 (.block 0 (.loop (Zq (Zq (Rg [Im 5 T4,Im 6 T0,Iq 7 (.len false T6),Iq 8 (.bin .lss T5 T7)])
 (.cond T8 .skip
 (.exit 0)))
 (Zq (.block 1 (.draw [⟨Im 11 T3,[]⟩,⟨Im 12 T0,[]⟩,⟨Im 13 T4,[]⟩,⟨Iq 14 (.iad 1 qC uY),[1,2]⟩,⟨Iq 15 (Lo uE),[3]⟩,⟨Iq 16 (.bin .rem vB (.k (.int .u32 65536))),[4]⟩,⟨Iq 17 (.cvi .i64 xJ),[5]⟩,⟨Im 18 T0,[]⟩,⟨Im 19 T4,[]⟩,⟨Iq 20 (.iad 1 wO yB),[7,8]⟩,⟨Iq 21 (Lo zK),[9]⟩,⟨Iq 22 (.bin .quo Ce (.k (.int .u32 65536))),[10]⟩,⟨Iq 23 (.cvi .i64 By),[11]⟩,⟨Iq 24 (.bslice 3 1 2 [Zi] [(0,yM),(1,Eh)]),[6,12]⟩,⟨Iq 25 (.app 3 1 8 [Zi] pO Dp),[0,13]⟩,⟨Im 3 Ef,[14,14,0,1,2,3,4,5,6,7,8,9,10,11,12,13,14]⟩] [0,0,0,6,14,30,62,0,0,384,896,1920,3968,8190,16383,32767]))
 (Rg [Im 9 T4,Iq 10 (.bin .add T9 (Ki 1)),Im 4 pU]))))))
 (Zq (Rg [Im 26 T3,Iq 27 (.call 208 [Ho]),Im 2 Ed])
 .ret))))
def bEG : FE := ⟨28, bXJ, [.t 2]⟩
theorem bQo : iI Tryz.prog 152 bEG := iI.mk1 Tryz.func152
def bVi:XC:=(Zq (Rg [Iq 2 (.box 24 T0),Iq 3 (.box 24 T1),Iq 4 (.alloc 24 [Zf,Zs])])
 (Zq (.draw [⟨Iq 5 (Lt 2 T2),[]⟩,⟨Iq 6 (.call 154 [T5]),[0]⟩,⟨Iq 7 (Lt 2 T3),[]⟩,⟨Iq 8 (.call 154 [T7]),[2,1]⟩,⟨Iq 9 (.call 209 [T6,T8]),[1,3,3]⟩,⟨Is (.store 2 T4 T9),[4,4,0,1,2,3,4]⟩] [0,1,0,7,15,31])
 .ret))
def bGR : FE := ⟨10, bVi, [.c 4 true 2]⟩
theorem bPg : iI Tryz.prog 153 bGR := iI.mk1 Tryz.func153
def bU5:XC:=(Zq (Rg [Iq 1 (.box 24 T0),Iq 2 (.alloc 228 [Zf,Zs])])
 (Zq (Zq (Rg [Iq 3 (Lt 2 T1),Iq 4 (.call 166 [T3]),Iq 5 (.un .not T4)])
 (.cond T5 (Zq (Rg [Iq 6 (.build [Zf,Zs] []),Is (.store 2 T2 T6)])
 .ret)
 .skip))
 (Zq (Rg [Iq 7 (Lt 2 T1),Iq 8 (.build [Zf,Zs] [(0,2,T7)]),Is (.store 2 T2 T8)])
 .ret)))
def bFW : FE := ⟨9, bU5, [.c 2 true 2]⟩
theorem bQ5 : iI Tryz.prog 154 bFW := iI.mk1 Tryz.func154
def bUX:XC:=(Zq (Rg [Iq 1 (.box 228 T0),Iq 2 (.alloc 228 [Zf,Zs])])
 (Zq (Rg [Iq 3 (.fad 0 T1),Iq 4 (.fad 0 T3),Iq 5 (Lo T4),Iq 6 (.un .not T5),Iq 7 (.fad 0 T1),Iq 8 (.fad 1 T7),Iq 9 (Lo T8),Iq 10 (.call 171 [T6,T9]),Iq 11 (.build [Zf,Zs] [(0,2,pU)]),Is (.store 2 T2 pO)])
 .ret))
def bGP : FE := ⟨12, bUX, [.c 2 true 2]⟩
theorem bQv : iI Tryz.prog 155 bGP := iI.mk1 Tryz.func155
def bXi:XC:=bEQ 221 1 4 [(.int .u32 0)]
def bHN : FE := ⟨8, bXi, [.t 2]⟩
theorem bPc : iI Tryz.prog 156 bHN := iI.mk1 Tryz.func156
def bVp:XC:=(Zq (Rg [Iq 14 (.mv (.k Zs))])
 (Zq (Rg [Im 15 T0,Im 16 T1,Im 17 T2,Im 18 T3,Im 19 T4,Im 20 T6,Iq 21 (.call 84 [zK]),Iq 22 (.build [Zf,Ze,(.int .u8 0),Ze,Ze,Ze,Zf,Zs,Zf,Zs] [(0,1,Kt),(1,1,vB),(2,1,xJ),(3,1,yM),(4,1,wO),(5,1,yB),(6,4,Ce)]),Im 23 T0,Im 24 T1,Im 25 T2,Im 26 T3,Im 27 T5,Im 28 T6,Iq 29 (.call 84 [J9]),Iq 30 (.build [Zf,Ze,(.int .u8 0),Ze,Ze,Ze,Zf,Zs,Zf,Zs] [(1,1,Eh),(2,1,Dp),(3,1,Ef),(4,1,Ho),(5,1,Ed),(6,4,J1)]),Iq 31 (.bslice 176 10 2 [Zf,Ze,(.int .u8 0),Ze,Ze,Ze,Zf,Zs,Zf,Zs] [(0,By),(1,Kz)]),Im 14 Lp])
 .ret))
def bDO : FE := ⟨32, bVp, [.t 14]⟩
theorem bPi : iI Tryz.prog 157 bDO := iI.mk1 Tryz.func157
def bUV:XC:=(Zq (Rg [Iq 4 (.mv Kf)])
 (Zq (Rg [Im 5 T0,Im 6 T1,Iq 7 (.nilck T5),Iq 8 (.iaa 256 1 T7 T6),Iq 9 (Lo T8),Im 4 T9])
 .ret))
def bE3 : FE := ⟨10, bUV, [.t 4]⟩
theorem bOd : iI Tryz.prog 159 bE3 := iI.mk1 Tryz.func159
def bWf:XC:=(Zq (Rg [Iq 6 (.mv (Ki 0))])
 (Zq (Zq (Rg [Im 9 T0,Iq 10 (.rngS T9)])
 (.block 0 (.loop (Zq (Rg [Iq 11 (.nxtS pU),Iq 12 (.ext pO 0)])
 (Zq (.cond qC .skip
 (.exit 0))
 (.block 1 (Zq (Rg [Iq 13 (.ext pO 1),Iq 14 (.ext pO 2),Im 7 uY,Im 8 uE])
 (Zq (Rg [Im 15 T1,Im 16 T8,Iq 17 (.callv vB [xJ]),Im 18 T2,Iq 19 (.binB .eql yM wO)])
 (.cond yB (Zq (Rg [Im 20 T7,Im 6 zK])
 .ret)
 .skip)))))))))
 (Zq (Rg [Iq 6 (.mv (.k (.int .i64 (-1))))])
 .ret)))
def bFB : FE := ⟨21, bWf, [.t 6]⟩
theorem bPu : iI Tryz.prog 162 bFB := iI.mk1 Tryz.func162
def bWt:XC:=(Zq (Rg [Iq 1 (.box 24 T0),Iq 2 (.mv Kf)])
 (Zq (Rg [Iq 4 (.fad 1 T1),Iq 5 (Lo T4),Iq 6 (.len false T5),Im 3 T6])
 (Zq (Rg [Im 7 T3,Iq 8 (.bin .eql T7 (Ki 0)),Im 9 T8,Iw 10 9 (.fad 0 T1),Iw 11 9 (Lo pU),Iw 12 9 (.un .not pO),Iq 13 (.pick T9 qC Kf),Im 14 uY,Iv 15 14 (.mv T3),Iv 16 14 (.bin .gtr vB (Ki 0)),Iv 17 14 (.mv xJ),Iw 18 17 (.fad 1 T1),Iw 19 17 (Lo wO),Iw 20 17 (.mv T3),Iw 21 17 (.bin .sub zK (Ki 1)),Iw 22 17 (.iad 1 yB Ce),Iw 23 17 (Lo By),Iw 24 17 (.bin .neq Eh (.k (.int .u32 0))),Iv 25 14 (.pick yM Dp Kf),Iq 26 (.pick uE Kt Ef),Im 2 Ho])
 .ret)))
def bIS : FE := ⟨27, bWt, [.t 2]⟩
theorem bPI : iI Tryz.prog 166 bIS := iI.mk1 Tryz.func166
def bWi:XC:=(Zq (Rg [Iq 2 (.box 24 T0),Iq 3 (.box 24 T1),Iq 4 (.alloc 24 [Zf,Zs])])
 (Zq (.draw [⟨Iq 5 (Lt 2 T2),[]⟩,⟨Iq 6 (.call 154 [T5]),[0]⟩,⟨Iq 7 (.fld true 2 0 T6),[1]⟩,⟨Iq 8 (.fld false 1 1 T7),[2]⟩,⟨Iq 9 (Lt 2 T3),[]⟩,⟨Iq 10 (.call 154 [T9]),[4,1]⟩,⟨Iq 11 (.fld true 2 0 pU),[5]⟩,⟨Iq 12 (.fld false 1 1 pO),[6]⟩,⟨Iq 13 (.bslice 22 1 2 [Zs] [(0,T8),(1,qC)]),[3,7]⟩,⟨Iq 14 (.call 212 [uY]),[8,5]⟩,⟨Iq 15 (.call 171 [Kf,uE]),[9,9]⟩,⟨Is (.store 2 T4 vB),[10,10,0,1,2,3,4,5,6,7,8,9,10]⟩] [0,1,3,7,0,19,51,115,255,511,1023,2047])
 .ret))
def bHA : FE := ⟨16, bWi, [.c 4 true 2]⟩
theorem bQ4 : iI Tryz.prog 167 bHA := iI.mk1 Tryz.func167
def bXu:XC:=(Zq (Rg [Iq 4 (.mv (.k Zs)),Iq 5 (.mv (.k Zs)),Iq 6 (.mv (Ki 0))])
 (Zq (Rg [Im 14 T0,Iq 15 (.call 172 [uE]),Im 16 T1,Iq 17 (.call 172 [xJ]),Im 0 vB,Im 1 yM])
 (Zq (Rg [Im 18 T1,Iq 19 (.len false wO),Im 7 yB])
 (Zq (.block 0 (Zq (Rg [Im 21 T7,Iq 22 (.bin .eql Ce (Ki 0)),Im 20 By])
 (.cond zK (Zq (Rg [Iq 4 (.mv (.k Zs)),Iq 5 (.mv (.k Zs)),Iq 6 (.mv (Ki 20))])
 .ret)
 (Zq (Rg [Im 24 T0,Im 25 T1,Iq 26 (.call 213 [Dp,Ef]),Iq 27 (.bin .lss Ho (Ki 0)),Im 23 Ed])
 (.cond Eh (Zq (Rg [Im 28 T0,Iq 4 (.mv (.k Zs)),Im 5 J9,Iq 6 (.mv (Ki 0))])
 .ret)
 (Zq (Rg [Im 30 T7,Iq 31 (.bin .eql Kz (Ki 1)),Im 29 Lp])
 (.cond J1 (Zq (Rg [Im 33 T0,Im 34 T1,Iq 35 (.iad 1 O1 (Ki 0)),Iq 36 (Lo Ro),Iq 37 (.call 214 [Pm,Yf]),Im 32 T37,Iq 38 (.ext Lq 0),Iq 39 (.ext Lq 1),Iq 40 (.ext Lq 2),Im 8 T38,Im 9 T39,Im 10 T40])
 (Zq (Rg [Im 41 T8,Im 42 T9,Iq 43 (.bslice 221 1 1 [(.int .u32 0)] [(0,T42)]),Iq 44 (.call 172 [T43]),Im 4 T41,Im 5 T44,Iq 6 (.mv (Ki 0))])
 .ret))
 .skip)))))))
 (Zq (Rg [Im 45 T1,Im 46 T7,Iq 47 (.bin .sub T46 (Ki 1)),Iq 48 (.iad 1 T45 T47),Iq 49 (Lo T48),Iq 50 (.call 215 [T49]),Im 11 T50])
 (Zq (Rg [Im 52 T1,Im 53 pO,Iq 54 (.call 216 [T52,T53]),Im 51 T54,Iq 55 (.ext T51 0),Iq 56 (.ext T51 1),Im 1 T55])
 (Zq (Rg [Im 58 T0,Im 59 pO,Iq 60 (.call 216 [T58,T59]),Im 57 T60,Iq 61 (.ext T57 0),Iq 62 (.ext T57 1),Im 0 T61])
 (Zq (Rg [Im 63 T0,Iq 64 (.bslice 221 1 1 [(.int .u32 0)] [(0,(.k (.int .u32 0)))]),Iq 65 (.app 221 1 4 [(.int .u32 0)] T63 T64),Im 0 T65])
 (Zq (Rg [Im 66 T0,Iq 67 (.len false T66),Im 68 T7,Iq 69 (.bin .sub T67 T68),Iq 70 (.mksl 221 1 4 [(.int .u32 0)] T69 T69),Im 4 T70])
 (Zq (Zq (Rg [Im 71 T4,Iq 72 (.len false T71),Iq 73 (.bin .sub T72 (Ki 1)),Im 12 T73])
 (.block 1 (.loop (Zq (Zq (Rg [Im 74 qC,Iq 75 (.bin .geq T74 (Ki 0))])
 (.cond T75 .skip
 (.exit 1)))
 (Zq (.block 2 (Zq (.draw [⟨Im 78 T0,[]⟩,⟨Im 79 qC,[]⟩,⟨Im 80 T7,[]⟩,⟨Iq 81 (.bin .add T79 T80),[1,2]⟩,⟨Iq 82 (.iad 1 T78 T81),[0,3]⟩,⟨Iq 83 (Lo T82),[4]⟩,⟨Im 84 T0,[]⟩,⟨Im 85 qC,[]⟩,⟨Im 86 T7,[]⟩,⟨Iq 87 (.bin .add T85 T86),[7,8]⟩,⟨Iq 88 (.bin .sub T87 (Ki 1)),[9]⟩,⟨Iq 89 (.iad 1 T84 T88),[6,10]⟩,⟨Iq 90 (Lo T89),[11]⟩,⟨Im 91 T0,[]⟩,⟨Im 92 qC,[]⟩,⟨Im 93 T7,[]⟩,⟨Iq 94 (.bin .add T92 T93),[14,15]⟩,⟨Iq 95 (.bin .sub T94 (Ki 2)),[16]⟩,⟨Iq 96 (.iad 1 T91 T95),[13,17]⟩,⟨Iq 97 (Lo T96),[18]⟩,⟨Im 98 T1,[]⟩,⟨Im 99 T7,[]⟩,⟨Iq 100 (.bin .sub T99 (Ki 1)),[21]⟩,⟨Iq 101 (.iad 1 T98 aVJ),[20,22]⟩,⟨Iq 102 (Lo aVC),[23]⟩,⟨Im 103 T1,[]⟩,⟨Im 104 T7,[]⟩,⟨Iq 105 (.bin .sub aVH (Ki 2)),[26]⟩,⟨Iq 106 (.iad 1 aVy aWi),[25,27]⟩,⟨Iq 107 (Lo aWg),[28]⟩,⟨Iq 108 (.call 217 [T83,T90,T97,aVK,aVe]),[5,12,19,24,29]⟩,⟨Im 13 aX7,[30,30,0,1,2,3,4,5,6,7,8,9,10,11,12,13,14,15,16,17,18,19,20,21,22,23,24,25,26,27,28,29,30]⟩] [0,0,0,6,15,31,0,0,0,384,896,1984,4032,0,0,0,49152,114688,253952,516096,0,0,2097152,7340032,15728640,0,0,67108864,234881024,503316480,1073741823,2147483647])
 (Rg [Im 109 T4,Im 110 qC,Im 111 T0,Im 112 qC,Im 113 qC,Im 114 T7,Iq 115 (.bin .add aXB aXM),Iq 116 (.bin .add aXb (Ki 1)),Iq 117 (.slc 1 aXZ (some aXe) (some aXx)),Im 118 T1,Im 119 uY,Iq 120 (.call 218 [aXJ,aWJ,aYk]),Iq 121 (.iad 1 aW4 aXK),Is (.store 1 aYl aXU)])))
 (Rg [Im 76 qC,Iq 77 (.bin .sub T76 (Ki 1)),Im 12 T77]))))))
 (Zq (Rg [Im 123 T0,Im 124 pO,Iq 125 (.un .neg aWn),Iq 126 (.call 216 [aXN,aXG]),Im 122 aWN,Iq 127 (.ext aWf 0),Iq 128 (.ext aWf 1),Im 5 aXS])
 (Zq (Rg [Im 129 T4,Iq 130 (.call 172 [aXH]),Im 131 T5,Im 4 aWw,Im 5 aXQ,Iq 6 (.mv (Ki 0))])
 .ret))))))))))))
def bE0 : FE := ⟨132, bXu, [.t 4, .t 5, .t 6]⟩
theorem bPU : iI Tryz.prog 168 bE0 := iI.mk1 Tryz.func168
def bWT:XC:=(Zq (Rg [Iq 4 (.mv (.k Zs))])
 (Zq (Zq (Rg [Im 9 T0,Iq 10 (.len false T9),Im 11 T1,Iq 12 (.len false pO),Iq 13 (.bin .lss pU qC)])
 (.cond uY (Rg [Im 14 T1,Im 15 T0,Im 0 uE,Im 1 vB])
 .skip))
 (Zq (Rg [Im 16 T0,Iq 17 (.len false xJ),Iq 18 (.bin .add yM (Ki 1)),Iq 19 (.mksl 221 1 4 [(.int .u32 0)] wO wO),Im 5 yB])
 (Zq (Rg [Iq 6 (.mv (.k (.int .u32 0)))])
 (Zq (Zq (Rg [Im 20 T0,Iq 21 (.len false zK),Iq 22 (.mv (Ki 0))])
 (.block 0 (.loop (Zq (Rg [Iq 23 (.bin .lss By Ce)])
 (Zq (.cond Eh .skip
 (.exit 0))
 (Zq (.block 1 (Zq (Rg [Im 24 By,Im 7 Dp])
 (Zq (Rg [Iq 8 (.mv (.k (.int .u32 0)))])
 (Zq (Zq (Rg [Im 25 T7,Im 26 T1,Iq 27 (.len false Ho),Iq 28 (.bin .lss Ef Ed)])
 (.cond J9 (Rg [Im 29 T1,Im 30 T7,Iq 31 (.iad 1 J1 Kz),Iq 32 (Lo Lp),Im 8 Lq])
 .skip))
 (Rg [Im 34 T5,Im 35 T7,Im 36 T0,Im 37 T7,Iq 38 (.iad 1 Yf T37),Iq 39 (Lo T38),Im 40 T8,Im 41 T6,Iq 42 (.call 219 [T39,T40,T41]),Im 33 T42,Iq 43 (.ext Pm 0),Iq 44 (.ext Pm 1),Iq 45 (.iad 1 O1 Ro),Is (.store 1 T45 T43),Im 6 T44])))))
 (Rg [Iq 46 (.bin .add By (Ki 1)),Im 22 T46])))))))
 (Zq (Rg [Im 47 T5,Im 48 T0,Iq 49 (.len false T48),Im 50 T6,Iq 51 (.iad 1 T47 T49),Is (.store 1 T51 T50)])
 (Zq (Rg [Im 52 T5,Iq 53 (.call 220 [T52]),Im 4 T53])
 .ret)))))))
def bEk : FE := ⟨54, bWT, [.t 4]⟩
theorem bQg : iI Tryz.prog 169 bEk := iI.mk1 Tryz.func169
def bVr:XC:=(Zq (Rg [Iq 4 (.mv (.k Zs)),Iq 5 (.mv (Ki 0))])
 (Zq (Rg [Im 10 T0,Iq 11 (.call 220 [pU]),Im 12 T1,Iq 13 (.call 220 [qC]),Im 0 pO,Im 1 uY])
 (Zq (Zq (Rg [Im 14 T0,Im 15 T1,Iq 16 (.call 213 [uE,vB]),Iq 17 (.bin .lss xJ (Ki 0))])
 (.cond yM (Zq (Rg [Iq 4 (.mv (.k Zs)),Iq 5 (.mv (Ki 2))])
 .ret)
 .skip))
 (Zq (Rg [Im 18 T0,Iq 19 (.call 156 [wO]),Im 6 yB])
 (Zq (Rg [Iq 7 (.mv (.k (.int .u32 0)))])
 (Zq (Zq (Rg [Im 20 T6,Iq 21 (.len false zK),Iq 22 (.mv (Ki 0))])
 (.block 0 (.loop (Zq (Rg [Iq 23 (.bin .lss By Ce)])
 (Zq (.cond Eh .skip
 (.exit 0))
 (Zq (.block 1 (Zq (Rg [Im 24 By,Im 8 Dp])
 (Zq (Rg [Iq 9 (.mv (.k (.int .u32 0)))])
 (Zq (Zq (Rg [Im 25 T8,Im 26 T1,Iq 27 (.len false Ho),Iq 28 (.bin .lss Ef Ed)])
 (.cond J9 (Rg [Im 29 T1,Im 30 T8,Iq 31 (.iad 1 J1 Kz),Iq 32 (Lo Lp),Im 9 Lq])
 .skip))
 (Rg [Im 34 T6,Im 35 T8,Im 36 T6,Im 37 T8,Iq 38 (.iad 1 Yf T37),Iq 39 (Lo T38),Im 40 T9,Im 41 T7,Iq 42 (.call 221 [T39,T40,T41]),Im 33 T42,Iq 43 (.ext Pm 0),Iq 44 (.ext Pm 1),Iq 45 (.iad 1 O1 Ro),Is (.store 1 T45 T43),Im 7 T44])))))
 (Rg [Iq 46 (.bin .add By (Ki 1)),Im 22 T46])))))))
 (Zq (Rg [Im 47 T6,Iq 48 (.call 220 [T47]),Im 4 T48,Iq 5 (.mv (Ki 0))])
 .ret)))))))
def bD3 : FE := ⟨49, bVr, [.t 4, .t 5]⟩
theorem bQ6 : iI Tryz.prog 170 bD3 := iI.mk1 Tryz.func170
def bXN:XC:=(Zq (Rg [Iq 4 (.alloc 24 [Zf,Zs])])
 (Zq (Rg [Im 5 T0,Im 6 T5,Iw 7 6 (.mv T1),Iw 8 6 (.len false T7),Iw 9 6 (.bin .gtr T8 (Ki 0)),Iq 10 (.pick T6 T9 Kf),Im 11 T1,Iq 12 (.build [Zf,Zs] [(0,1,pU),(1,1,pO)]),Is (.store 2 T4 qC)])
 .ret))
def bDT : FE := ⟨13, bXN, [.c 4 true 2]⟩
theorem bQP : iI Tryz.prog 171 bDT := iI.mk1 Tryz.func171
def bVJ:XC:=(Zq (Rg [Iq 2 (.mv (.k Zs))])
 (Zq (Rg [Im 3 T0,Iq 4 (.call 220 [T3]),Iq 5 (.call 156 [T4]),Im 2 T5])
 .ret))
def bIE : FE := ⟨6, bVJ, [.t 2]⟩
theorem bPo : iI Tryz.prog 172 bIE := iI.mk1 Tryz.func172
def bV0:XC:=(Zq (Rg [Iq 4 (.mv (.k Zs))])
 (Zq (Rg [Im 12 T0,Iq 13 (.len false qC),Im 14 T1,Iq 15 (.len false uE),Iq 16 (.bin .add uY vB),Iq 17 (.mksl 221 1 4 [(.int .u32 0)] xJ xJ),Im 5 yM])
 (Zq (Zq (Rg [Im 18 T0,Iq 19 (.len false wO),Iq 20 (.mv (Ki 0))])
 (.block 0 (.loop (Zq (Rg [Iq 21 (.bin .lss zK yB)])
 (Zq (.cond Ce .skip
 (.exit 0))
 (Zq (.block 1 (Zq (Rg [Im 22 zK,Iq 23 (.iad 1 wO zK),Iq 24 (Lo Eh),Im 6 By,Im 7 Dp])
 (Zq (Rg [Iq 8 (.mv (.k (.int .u64 0)))])
 (Zq (Zq (Rg [Im 25 T1,Iq 26 (.len false Ef),Iq 27 (.mv (Ki 0))])
 (.block 2 (.loop (Zq (Rg [Iq 28 (.bin .lss Ed Ho)])
 (Zq (.cond J9 .skip
 (.exit 2))
 (Zq (.block 3 (Zq (Rg [Im 29 Ed,Iq 30 (.iad 1 Ef Ed),Iq 31 (Lo Kz),Im 9 J1,Im 10 Lp])
 (Zq (Rg [Im 32 T7,Iq 33 (.cvi .u64 Lq),Im 34 pU,Iq 35 (.cvi .u64 O1),Iq 36 (.bin .mul Pm Ro),Im 37 T5,Im 38 T6,Im 39 T9,Iq 40 (.bin .add T38 T39),Iq 41 (.iad 1 T37 T40),Iq 42 (Lo T41),Iq 43 (.cvi .u64 T42),Iq 44 (.bin .add Yf T43),Im 45 T8,Iq 46 (.bin .add T44 T45),Im 11 T46])
 (Rg [Im 47 T5,Im 48 T6,Im 49 T9,Iq 50 (.bin .add T48 T49),Im 51 pO,Iq 52 (.cvi .u32 T51),Im 53 pO,Iq 54 (.bin .shr T53 (.k (.int .u64 32))),Iq 55 (.iad 1 T47 T50),Is (.store 1 T55 T52),Im 8 T54]))))
 (Rg [Iq 56 (.bin .add Ed (Ki 1)),Im 27 T56])))))))
 (Rg [Im 57 T5,Im 58 T6,Im 59 T1,Iq 60 (.len false T59),Iq 61 (.bin .add T58 T60),Im 62 T8,Iq 63 (.cvi .u32 T62),Iq 64 (.iad 1 T57 T61),Is (.store 1 T64 T63)])))))
 (Rg [Iq 65 (.bin .add zK (Ki 1)),Im 20 T65])))))))
 (Zq (Rg [Im 66 T5,Iq 67 (.call 172 [T66]),Im 4 T67])
 .ret))))
def bHT : FE := ⟨68, bV0, [.t 4]⟩
theorem bOY : iI Tryz.prog 173 bHT := iI.mk1 Tryz.func173
def bWg:XC:=(Zq (Rg [Iq 2 (.box 24 T0),Iq 3 (.box 24 T1),Iq 4 (.alloc 24 [Zf,Zs])])
 (Zq (.draw [⟨Iq 5 (Lt 2 T2),[]⟩,⟨Iq 6 (.call 154 [T5]),[0]⟩,⟨Iq 7 (Lt 2 T3),[]⟩,⟨Iq 8 (.call 154 [T7]),[2,1]⟩,⟨Iq 9 (.call 155 [T8]),[3,3]⟩,⟨Iq 10 (.call 209 [T6,T9]),[1,4,4]⟩,⟨Is (.store 2 T4 pU),[5,5,0,1,2,3,4,5]⟩] [0,1,0,7,15,31,63])
 .ret))
def bDP : FE := ⟨11, bWg, [.c 4 true 2]⟩
theorem bNm : iI Tryz.prog 174 bDP := iI.mk1 Tryz.func174
def bXw:XC:=(Zq (Rg [Iq 4 (.mv (.k Zs)),Iq 5 (.mv (.k Zs))])
 (Zq (Rg [Im 10 T0,Iq 11 (.len false pU),Iq 12 (.mksl 3 1 8 [Zi] pO pO),Im 6 qC])
 (Zq (Rg [Iq 7 (.mv (.k Zs))])
 (Zq (Zq (Rg [Im 13 T0,Iq 14 (.len false uY),Iq 15 (.bin .sub uE (Ki 1)),Im 8 vB])
 (.block 0 (.loop (Zq (Zq (Rg [Im 16 T8,Iq 17 (.bin .geq xJ (Ki 0))])
 (.cond yM .skip
 (.exit 0)))
 (Zq (.block 1 (Zq (Rg [Im 20 T0,Im 21 T8,Iq 22 (.iad 1 zK Ce),Iq 23 (Lo By),Iq 24 (.bslice 3 1 1 [Zi] [(0,Eh)]),Im 9 Dp])
 (Zq (Rg [Im 25 T9,Im 26 T7,Iq 27 (.app 3 1 8 [Zi] Ef Ho),Iq 28 (.call 208 [Ed]),Im 7 J9])
 (Zq (Rg [Im 29 T6,Im 30 T8,Im 31 T7,Im 32 T1,Iq 33 (.call 222 [Lp,Lq]),Iq 34 (.iad 1 J1 Kz),Is (.store 1 O1 Pm)])
 (Rg [Im 35 T7,Im 36 T1,Im 37 T6,Im 38 T8,Iq 39 (.iad 1 T37 T38),Iq 40 (Lo T39),Iq 41 (.call 223 [Ro,Yf,T40]),Im 7 T41])))))
 (Rg [Im 18 T8,Iq 19 (.bin .sub wO (Ki 1)),Im 8 yB]))))))
 (Zq (Rg [Im 42 T6,Iq 43 (.call 208 [T42]),Im 44 T7,Im 4 T43,Im 5 T44])
 .ret)))))
def bFE : FE := ⟨45, bXw, [.t 4, .t 5]⟩
theorem bOO : iI Tryz.prog 175 bFE := iI.mk1 Tryz.func175
def bVX:XC:=(Zq (Rg [Iq 2 (.box 28 T0),Iq 3 (.box 28 T1),Iq 4 (.alloc 28 [Zf,Zs])])
 (Zq (.draw [⟨Iq 5 (Lt 2 T2),[]⟩,⟨Iq 6 (Lt 2 T3),[]⟩,⟨Iq 7 (.call 115 [T6]),[1]⟩,⟨Iq 8 (.call 177 [T5,T7]),[0,2,2]⟩,⟨Is (.store 2 T4 T8),[3,3,0,1,2,3]⟩] [0,0,2,7,15])
 .ret))
def bGr : FE := ⟨9, bVX, [.c 4 true 2]⟩
theorem bNe : iI Tryz.prog 176 bGr := iI.mk1 Tryz.func176
def bWY:XC:=(Zq (Rg [Iq 2 (.box 28 T0),Iq 3 (.box 28 T1),Iq 4 (.alloc 28 [Zf,Zs])])
 (Zq (Rg [Iq 7 (Lt 2 T2),Iq 8 (.call 149 [T7]),Is (.store 2 T2 T8)])
 (Zq (Rg [Iq 9 (Lt 2 T3),Iq 10 (.call 149 [T9]),Is (.store 2 T3 pU)])
 (Zq (Zq (Rg [Iq 11 (.fad 0 T2),Iq 12 (Lo pO),Iq 13 (.fad 0 T3),Iq 14 (Lo uY),Iq 15 (.binB .eql qC uE)])
 (.cond vB (Zq (.draw [⟨Iq 16 (.fad 0 T2),[]⟩,⟨Iq 17 (Lo xJ),[0]⟩,⟨Iq 18 (.fad 1 T2),[]⟩,⟨Iq 19 (Lo wO),[2]⟩,⟨Iq 20 (.fad 1 T3),[]⟩,⟨Iq 21 (Lo zK),[4]⟩,⟨Iq 22 (.call 224 [yB,Ce]),[3,5]⟩,⟨Iq 23 (.call 148 [yM,By]),[1,6,6]⟩,⟨Is (.store 2 T4 Eh),[7,7,0,1,2,3,4,5,6,7]⟩] [0,1,0,4,0,16,60,127,255])
 .ret)
 .skip))
 (Zq (Rg [Iq 25 (.fad 1 T2),Iq 26 (Lo Ef),Iq 27 (.fad 1 T3),Iq 28 (Lo Ed),Iq 29 (.call 225 [Ho,J9]),Im 24 J1,Iq 30 (.ext Dp 0),Iq 31 (.ext Dp 1),Im 5 Kz,Im 6 Lp])
 (Zq (Zq (Rg [Im 32 T6,Iq 33 (.bin .eql Lq (Ki 0))])
 (.cond Pm (Zq (Rg [Iq 34 (.fad 0 T2),Iq 35 (Lo O1),Im 36 T5,Iq 37 (.call 148 [Ro,Yf]),Is (.store 2 T4 T37)])
 .ret)
 .skip))
 (Zq (Rg [Iq 39 (.fad 1 T3),Iq 40 (Lo T39),Iq 41 (.fad 1 T2),Iq 42 (Lo T41),Iq 43 (.call 225 [T40,T42]),Im 38 T43,Iq 44 (.ext T38 0),Iq 45 (.ext T38 1),Im 5 T44])
 (Zq (Rg [Iq 46 (.fad 0 T3),Iq 47 (Lo T46),Im 48 T5,Iq 49 (.call 148 [T47,T48]),Is (.store 2 T4 T49)])
 .ret))))))))
def bDl : FE := ⟨50, bWY, [.c 4 true 2]⟩
theorem bOH : iI Tryz.prog 177 bDl := iI.mk1 Tryz.func177
def bU3:XC:=(Zq (Rg [Iq 1 (.box 28 T0),Iq 2 (.mv Kf)])
 (Zq (Zq (Rg [Iq 3 (.fad 1 T1),Iq 4 (Lo T3),Iq 5 (.len false T4),Iq 6 (.bin .eql T5 (Ki 0))])
 (.cond T6 (Zq (Rg [Iq 7 (.fad 0 T1),Iq 8 (Lo T7),Iq 9 (.un .not T8),Im 2 T9])
 .ret)
 .skip))
 (Zq (Rg [Iq 10 (.fad 1 T1),Iq 11 (Lo pU),Iq 12 (.fad 1 T1),Iq 13 (Lo qC),Iq 14 (.len false uY),Iq 15 (.bin .sub uE (Ki 1)),Iq 16 (.iad 1 pO vB),Iq 17 (Lo xJ),Iq 18 (.bin .neq yM (.k (.int .u32 0))),Im 2 wO])
 .ret)))
def bDk : FE := ⟨19, bU3, [.t 2]⟩
theorem bMN : iI Tryz.prog 178 bDk := iI.mk1 Tryz.func178
def bVY:XC:=(Zq (Rg [Iq 2 (.box 28 T0),Iq 3 (.box 28 T1),Iq 4 (.mv Kf)])
 (Zq (Rg [Iq 5 (Lt 2 T2),Iq 6 (Lt 2 T3),Iq 7 (.call 180 [T5,T6]),Iq 8 (.bin .eql T7 (Ki 0)),Im 4 T8])
 .ret))
def bDq : FE := ⟨9, bVY, [.t 4]⟩
theorem bM1 : iI Tryz.prog 179 bDq := iI.mk1 Tryz.func179
def bV8:XC:=(Zq (Rg [Iq 2 (.box 28 T0),Iq 3 (.box 28 T1),Iq 4 (.mv (Ki 0))])
 (Zq (Rg [Iq 5 (Lt 2 T2),Iq 6 (.call 149 [T5]),Is (.store 2 T2 T6)])
 (Zq (Rg [Iq 7 (Lt 2 T3),Iq 8 (.call 149 [T7]),Is (.store 2 T3 T8)])
 (Zq (.block 0 (Zq (Rg [Iq 10 (.fad 0 T2),Iq 11 (Lo pU),Im 12 pO,Iw 13 12 (.fad 0 T3),Iw 14 12 (Lo uY),Iw 15 12 (.un .not uE),Iq 16 (.pick qC vB Kf),Im 9 xJ])
 (.cond T9 (Zq (Rg [Iq 4 (.mv (.k (.int .i64 (-1))))])
 .ret)
 (Zq (Rg [Iq 18 (.fad 0 T3),Iq 19 (Lo wO),Im 20 yB,Iw 21 20 (.fad 0 T2),Iw 22 20 (Lo Ce),Iw 23 20 (.un .not By),Iq 24 (.pick zK Eh Kf),Im 17 Dp])
 (.cond yM (Zq (Rg [Iq 4 (.mv (Ki 1))])
 .ret)
 (Zq (Rg [Iq 26 (.fad 0 T2),Iq 27 (Lo Ho),Im 25 Ed])
 (.cond Ef (Zq (Rg [Iq 28 (.fad 1 T3),Iq 29 (Lo J9),Iq 30 (.fad 1 T2),Iq 31 (Lo Kz),Iq 32 (.call 226 [J1,Lp]),Im 4 Lq])
 .ret)
 .skip)))))))
 (Zq (Rg [Iq 33 (.fad 1 T2),Iq 34 (Lo Pm),Iq 35 (.fad 1 T3),Iq 36 (Lo Ro),Iq 37 (.call 226 [O1,Yf]),Im 4 T37])
 .ret)))))
def bF0 : FE := ⟨38, bV8, [.t 4]⟩
theorem bPE : iI Tryz.prog 180 bF0 := iI.mk1 Tryz.func180
def bWS:XC:=(Zq (Rg [Iq 2 (.box 30 T0),Iq 3 (.box 30 T1),Iq 4 (.alloc 30 [Zf,Zs,Zf,Zs])])
 (Zq (Rg [Iq 7 (Lt 4 T2),Iq 8 (.call 77 [T7]),Is (.store 4 T2 T8)])
 (Zq (Rg [Iq 9 (Lt 4 T3),Iq 10 (.call 77 [T9]),Is (.store 4 T3 pU)])
 (Zq (.draw [⟨Iq 12 (.fad 0 T2),[]⟩,⟨Iq 13 (Lt 2 qC),[0]⟩,⟨Iq 14 (.fad 2 T3),[]⟩,⟨Iq 15 (Lt 2 uE),[2]⟩,⟨Iq 16 (.call 78 [uY,vB]),[1,3]⟩,⟨Iq 17 (.fad 0 T3),[]⟩,⟨Iq 18 (Lt 2 yM),[5]⟩,⟨Iq 19 (.fad 2 T2),[]⟩,⟨Iq 20 (Lt 2 yB),[7]⟩,⟨Iq 21 (.call 78 [wO,zK]),[6,8,4]⟩,⟨Iq 22 (.call 177 [xJ,Ce]),[4,9,9]⟩,⟨Iq 23 (.fad 2 T2),[]⟩,⟨Iq 24 (Lt 2 Eh),[11]⟩,⟨Iq 25 (.fad 2 T3),[]⟩,⟨Iq 26 (Lt 2 Ef),[13]⟩,⟨Iq 27 (.call 78 [Dp,Ho]),[12,14,10]⟩,⟨Iq 28 (.call 75 [By,Ed]),[10,15,15]⟩,⟨Im 11 J9,[16]⟩,⟨Iq 29 (.ext pO 0),[17]⟩,⟨Iq 30 (.ext pO 1),[17]⟩,⟨Iq 5 (.alloc 30 [Zf,Zs,Zf,Zs]),[]⟩,⟨Is (.store 4 T5 J1),[20,18,16,0,1,2,3,4,5,6,7,8,9,10,11,12,13,14,15,16,17,18,20]⟩,⟨Im 6 Kz,[19,21,0,1,2,3,4,5,6,7,8,9,10,11,12,13,14,15,16,17,18,19,20,21]⟩] [0,1,0,4,15,0,32,0,128,511,1023,0,2048,0,8192,32767,65535,131071,262143,262143,0,1572863,4194303])
 (Zq (Rg [Iq 31 (Lt 4 T5),Is (.store 4 T4 Lp)])
 .ret)))))
def bHl : FE := ⟨32, bWS, [.c 4 true 4]⟩
theorem bOD : iI Tryz.prog 181 bHl := iI.mk1 Tryz.func181
def bXc:XC:=(Zq (Rg [Iq 2 (.mv (.k Zs))])
 (Zq (Rg [Im 3 T0,Iq 4 (.call 233 [T3]),Iq 5 (.call 232 [T4]),Im 2 T5])
 .ret))
def bGU : FE := ⟨6, bXc, [.t 2]⟩
theorem bQE : iI Tryz.prog 207 bGU := iI.mk1 Tryz.func207
def bXE:XC:=(Zq (Rg [Iq 2 (.mv (.k Zs))])
 (Zq (.block 0 (.loop (Zq (Zq (Rg [Im 3 T0,Iq 4 (.len false T3),Iq 5 (.bin .gtr T4 (Ki 0)),Im 6 T5,Iw 7 6 (.mv T0),Iw 8 6 (.mv T0),Iw 9 6 (.len false T8),Iw 10 6 (.bin .sub T9 (Ki 1)),Iw 11 6 (.iad 1 T7 pU),Iw 12 6 (Lo pO),Iw 13 6 (.bin .eql qC (Ki 0)),Iq 14 (.pick T6 uY Kf)])
 (.cond uE .skip
 (.exit 0)))
 (.block 1 (Rg [Im 15 T0,Im 16 T0,Iq 17 (.len false xJ),Iq 18 (.bin .sub yM (Ki 1)),Iq 19 (.slc 1 vB none (some wO)),Im 0 yB])))))
 (Zq (Rg [Im 20 T0,Im 2 zK])
 .ret)))
def bGG : FE := ⟨21, bXE, [.t 2]⟩
theorem bM4 : iI Tryz.prog 208 bGG := iI.mk1 Tryz.func208
def bUY:XC:=(Zq (Rg [Iq 2 (.box 228 T0),Iq 3 (.box 228 T1),Iq 4 (.alloc 24 [Zf,Zs])])
 (Zq (Zq (Rg [Iq 7 (.fad 0 T2),Iq 8 (.fad 0 T7),Iq 9 (Lo T8),Iq 10 (.fad 0 T3),Iq 11 (.fad 0 pU),Iq 12 (Lo pO),Iq 13 (.binB .eql T9 qC)])
 (.cond uY (Zq (.draw [⟨Iq 14 (.fad 0 T2),[]⟩,⟨Iq 15 (.fad 0 uE),[0]⟩,⟨Iq 16 (Lo vB),[1]⟩,⟨Iq 17 (.fad 0 T2),[]⟩,⟨Iq 18 (.fad 1 yM),[3]⟩,⟨Iq 19 (Lo wO),[4]⟩,⟨Iq 20 (.fad 0 T3),[]⟩,⟨Iq 21 (.fad 1 zK),[6]⟩,⟨Iq 22 (Lo Ce),[7]⟩,⟨Iq 23 (.call 169 [yB,By]),[5,8]⟩,⟨Iq 24 (.call 171 [xJ,Eh]),[2,9,9]⟩,⟨Is (.store 2 T4 Dp),[10,10,0,1,2,3,4,5,6,7,8,9,10]⟩] [0,1,3,0,8,24,0,64,192,504,1023,2047])
 .ret)
 .skip))
 (Zq (Zq (Rg [Iq 25 (.fad 0 T2),Iq 26 (.fad 1 Ef),Iq 27 (Lo Ho),Iq 28 (.fad 0 T3),Iq 29 (.fad 1 J9),Iq 30 (Lo J1),Iq 31 (.call 213 [Ed,Kz]),Iq 32 (.bin .lss Lp (Ki 0))])
 (.cond Lq (Rg [Iq 33 (Lt 2 T3),Iq 34 (Lt 2 T2),Is (.store 2 T2 Pm),Is (.store 2 T3 O1)])
 .skip))
 (Zq (Rg [Iq 36 (.fad 0 T2),Iq 37 (.fad 1 Yf),Iq 38 (Lo T37),Iq 39 (.fad 0 T3),Iq 40 (.fad 1 T39),Iq 41 (Lo T40),Iq 42 (.call 170 [T38,T41]),Im 35 T42,Iq 43 (.ext Ro 0),Iq 44 (.ext Ro 1),Im 5 T43,Im 6 T44])
 (Zq (Rg [Iq 45 (.fad 0 T2),Iq 46 (.fad 0 T45),Iq 47 (Lo T46),Im 48 T5,Iq 49 (.call 171 [T47,T48]),Is (.store 2 T4 T49)])
 .ret)))))
def bEP : FE := ⟨50, bUY, [.c 4 true 2]⟩
theorem bOZ : iI Tryz.prog 209 bEP := iI.mk1 Tryz.func209
def bVB:XC:=(Zq (Rg [Iq 2 (.mv (.k Zs))])
 (Zq (Rg [Iq 3 (.mv (.k Zs))])
 (Zq (Zq (Rg [Im 9 T0,Iq 10 (.len false T9),Iq 11 (.mv (Ki 0))])
 (.block 0 (.loop (Zq (Rg [Iq 12 (.bin .lss pO pU)])
 (Zq (.cond qC .skip
 (.exit 0))
 (Zq (.block 1 (Zq (Rg [Iq 13 (.iad 1 T9 pO),Iq 14 (Lo uY),Im 5 uE])
 (Zq (Rg [Im 15 T5,Iq 16 (.call 172 [vB]),Im 5 xJ])
 (.block 2 (.loop (Zq (Zq (Rg [Im 17 T5,Iq 18 (.len false yM),Iq 19 (.bin .gtr wO (Ki 0))])
 (.cond yB .skip
 (.exit 2)))
 (.block 3 (Zq (Rg [Im 21 T3,Im 22 T5,Iq 23 (.call 168 [Ce,By]),Im 20 Eh,Iq 24 (.ext zK 0),Iq 25 (.ext zK 1),Iq 26 (.ext zK 2),Im 6 Dp,Im 7 Ef,Im 8 Ho])
 (Rg [Im 27 T5,Im 28 T7,Im 3 Ed,Im 5 J9])))))))))
 (Rg [Iq 29 (.bin .add pO (Ki 1)),Im 11 J1])))))))
 (Zq (Rg [Im 30 T3,Iq 31 (.call 156 [Kz]),Im 2 Lp])
 .ret))))
def bF7 : FE := ⟨32, bVB, [.t 2]⟩
theorem bPV : iI Tryz.prog 212 bF7 := iI.mk1 Tryz.func212
def bVc:XC:=(Zq (Rg [Iq 4 (.mv (Ki 0))])
 (Zq (Rg [Im 6 T0,Iq 7 (.call 220 [T6]),Im 8 T1,Iq 9 (.call 220 [T8]),Im 0 T7,Im 1 T9])
 (Zq (Zq (Rg [Im 10 T0,Iq 11 (.len false pU),Im 12 T1,Iq 13 (.len false qC),Iq 14 (.bin .neq pO uY)])
 (.cond uE (Zq (Rg [Im 15 T0,Iq 16 (.len false vB),Im 17 T1,Iq 18 (.len false yM),Iq 19 (.call 234 [xJ,wO]),Im 4 yB])
 .ret)
 .skip))
 (Zq (Zq (Rg [Im 20 T0,Iq 21 (.len false zK),Iq 22 (.bin .sub Ce (Ki 1)),Im 5 By])
 (.block 0 (.loop (Zq (Zq (Rg [Im 23 T5,Iq 24 (.bin .geq Eh (Ki 0))])
 (.cond Dp .skip
 (.exit 0)))
 (Zq (.block 1 (Zq (.draw [⟨Im 27 T0,[]⟩,⟨Im 28 T5,[]⟩,⟨Iq 29 (.iad 1 Ed J9),[0,1]⟩,⟨Iq 30 (Lo J1),[2]⟩,⟨Im 31 T1,[]⟩,⟨Im 32 T5,[]⟩,⟨Iq 33 (.iad 1 Lp Lq),[4,5]⟩,⟨Iq 34 (Lo Pm),[6]⟩,⟨Iq 35 (.bin .neq Kz O1),[3,7]⟩] [0,0,3,7,0,0,48,112,255])
 (.cond Ro (Zq (.draw [⟨Im 36 T0,[]⟩,⟨Im 37 T5,[]⟩,⟨Iq 38 (.iad 1 Yf T37),[0,1]⟩,⟨Iq 39 (Lo T38),[2]⟩,⟨Im 40 T1,[]⟩,⟨Im 41 T5,[]⟩,⟨Iq 42 (.iad 1 T40 T41),[4,5]⟩,⟨Iq 43 (Lo T42),[6]⟩,⟨Iq 44 (.call 235 [T39,T43]),[3,7]⟩,⟨Im 4 T44,[8,8,0,1,2,3,4,5,6,7,8]⟩] [0,0,3,7,0,0,48,112,255,511])
 .ret)
 .skip)))
 (Rg [Im 25 T5,Iq 26 (.bin .sub Ef (Ki 1)),Im 5 Ho]))))))
 (Zq (Rg [Iq 4 (.mv (Ki 0))])
 .ret)))))
def bDy : FE := ⟨45, bVc, [.t 4]⟩
theorem bQV : iI Tryz.prog 213 bDy := iI.mk1 Tryz.func213
def bV5:XC:=(Zq (Rg [Iq 4 (.mv (.k Zs)),Iq 5 (.mv (.k (.int .u32 0))),Iq 6 (.mv (Ki 0))])
 (Zq (Zq (Rg [Im 8 T1,Iq 9 (.bin .eql T8 (.k (.int .u32 0)))])
 (.cond T9 (Zq (Rg [Iq 4 (.mv (.k Zs)),Iq 5 (.mv (.k (.int .u32 0))),Iq 6 (.mv (Ki 20))])
 .ret)
 .skip))
 (Zq (Rg [Im 10 T0,Iq 11 (.call 156 [pU]),Im 4 pO])
 (Zq (Zq (Rg [Im 12 T4,Iq 13 (.len false qC),Iq 14 (.bin .sub uY (Ki 1)),Im 7 uE])
 (.block 0 (.loop (Zq (Zq (Rg [Im 15 T7,Iq 16 (.bin .geq vB (Ki 0))])
 (.cond xJ .skip
 (.exit 0)))
 (Zq (.block 1 (Rg [Im 20 T4,Im 21 T7,Im 22 T5,Im 23 T4,Im 24 T7,Iq 25 (.iad 1 Eh Dp),Iq 26 (Lo Ef),Im 27 T1,Iq 28 (.call 236 [By,Ho,Ed]),Im 19 J9,Iq 29 (.ext yB 0),Iq 30 (.ext yB 1),Iq 31 (.iad 1 zK Ce),Is (.store 1 Lp J1),Im 5 Kz]))
 (Rg [Im 17 T7,Iq 18 (.bin .sub yM (Ki 1)),Im 7 wO]))))))
 (Zq (Rg [Im 32 T4,Iq 33 (.call 220 [Lq]),Im 34 T5,Im 4 Pm,Im 5 O1,Iq 6 (.mv (Ki 0))])
 .ret)))))
def bEd : FE := ⟨35, bV5, [.t 4, .t 5, .t 6]⟩
theorem bQn : iI Tryz.prog 214 bEd := iI.mk1 Tryz.func214
def bUC:XC:=(Zq (Rg [Iq 2 (.mv (Ki 0))])
 (Zq (Rg [Im 3 T0,Iq 4 (.call 237 [T3]),Iq 5 (.bin .sub (Ki 32) T4),Im 2 T5])
 .ret))
def bGk : FE := ⟨6, bUC, [.t 2]⟩
theorem bO6 : iI Tryz.prog 215 bGk := iI.mk1 Tryz.func215
def bWH:XC:=(Zq (Rg [Iq 4 (.mv (.k Zs)),Iq 5 (.mv (Ki 0))])
 (Zq (Rg [Im 6 T0,Iq 7 (.call 220 [T6]),Im 0 T7])
 (Zq (.block 0 (Zq (Rg [Im 9 T0,Iq 10 (.len false T9),Iq 11 (.bin .eql pU (Ki 0)),Im 8 pO])
 (.cond T8 (Zq (Rg [Iq 4 (.mv (.k Zs)),Iq 5 (.mv (Ki 0))])
 .ret)
 (Zq (Rg [Im 13 T1,Iq 14 (.bin .gtr uY (Ki 65536)),Im 12 uE])
 (.cond qC (Zq (Rg [Iq 4 (.mv (.k Zs)),Iq 5 (.mv (Ki 3))])
 .ret)
 (Zq (Rg [Im 16 T1,Iq 17 (.bin .geq xJ (Ki 0)),Im 15 yM])
 (.cond vB (Zq (.draw [⟨Im 18 T1,[]⟩,⟨Iq 19 (.bin .quo wO (Ki 32)),[0]⟩,⟨Iq 20 (.mksl 221 1 4 [(.int .u32 0)] yB yB),[1,1]⟩,⟨Im 21 T0,[]⟩,⟨Im 22 T1,[]⟩,⟨Iq 23 (.bin .rem By (Ki 32)),[4]⟩,⟨Iq 24 (.call 239 [Ce,Eh]),[3,5]⟩,⟨Iq 25 (.bslice 22 1 2 [Zs] [(0,zK),(1,Dp)]),[2,6]⟩,⟨Iq 26 (.call 238 [Ef]),[7,6]⟩,⟨Im 4 Ho,[8,8,0,1,2,3,4,5,6,7,8]⟩,⟨Iq 5 (.mv (Ki 0)),[9,0,1,2,3,4,5,6,7,8,9]⟩] [0,1,3,0,0,16,56,127,255,511,1023])
 .ret)
 (Zq (Rg [Im 28 T1,Im 29 T0,Iq 30 (.len false J1),Iq 31 (.bin .mul (.k (.int .i64 (-32))) Kz),Iq 32 (.bin .leq J9 Lp),Im 27 Lq])
 (.cond Ed (Zq (Rg [Iq 4 (.mv (.k Zs)),Iq 5 (.mv (Ki 0))])
 .ret)
 .skip)))))))))
 (Zq (Rg [Im 33 T1,Iq 34 (.un .neg Pm),Im 1 O1])
 (Zq (Rg [Im 35 T0,Im 36 T1,Iq 37 (.bin .quo Yf (Ki 32)),Iq 38 (.slc 1 Ro (some T37) none),Im 39 T1,Iq 40 (.bin .rem T39 (Ki 32)),Iq 41 (.call 240 [T38,T40]),Iq 42 (.call 220 [T41]),Iq 43 (.call 156 [T42]),Im 4 T43,Iq 5 (.mv (Ki 0))])
 .ret)))))
def bDD : FE := ⟨44, bWH, [.t 4, .t 5]⟩
theorem bNn : iI Tryz.prog 216 bDD := iI.mk1 Tryz.func216
def bV4:XC:=(Zq (Rg [Iq 10 (.mv (.k (.int .u64 0)))])
 (Zq (Rg [Im 14 T0,Iq 15 (.cvi .u64 uE),Iq 16 (.bin .shl vB (.k (.int .u64 32))),Im 17 T1,Iq 18 (.cvi .u64 yM),Iq 19 (.bin .or xJ wO),Im 11 yB])
 (Zq (.draw [⟨Im 20 pO,[]⟩,⟨Im 21 T3,[]⟩,⟨Iq 22 (.cvi .u64 Ce),[1]⟩,⟨Iq 23 (.bin .quo zK By),[0,2]⟩,⟨Im 24 pO,[]⟩,⟨Im 25 T3,[]⟩,⟨Iq 26 (.cvi .u64 Ef),[5]⟩,⟨Iq 27 (.bin .rem Dp Ho),[4,6]⟩,⟨Im 12 Eh,[3,0,1,2,3]⟩,⟨Im 13 Ed,[7,8,0,1,2,3,4,5,6,7,8]⟩] [0,0,2,7,0,0,32,112,15,511])
 (Zq .skip
 (Zq (.block 0 (.loop (Zq (Zq (Rg [Im 28 qC,Iq 29 (.bin .gtr J9 (.k (.int .u64 4294967295))),Im 30 J1,Iv 31 30 (.mv qC),Iv 32 30 (.mv T4),Iv 33 30 (.cvi .u64 Lq),Iv 34 30 (.bin .mul Lp Pm),Iv 35 30 (.mv uY),Iv 36 30 (.bin .shl Ro (.k (.int .u64 32))),Iv 37 30 (.mv T2),Iv 38 30 (.cvi .u64 T37),Iv 39 30 (.bin .or Yf T38),Iv 40 30 (.bin .gtr O1 T39),Iq 41 (.pick Kz Kt T40)])
 (.cond T41 .skip
 (.exit 0)))
 (.block 1 (Zq (Rg [Im 42 qC,Iq 43 (.bin .sub T42 (.k (.int .u64 1))),Im 12 T43])
 (Zq (Rg [Im 44 uY,Im 45 T3,Iq 46 (.cvi .u64 T45),Iq 47 (.bin .add T44 T46),Im 13 T47])
 (Zq (Rg [Im 48 uY,Iq 49 (.bin .gtr T48 (.k (.int .u64 4294967295)))])
 (.cond T49 (.exit 0)
 .skip))))))))
 (Zq (Rg [Im 50 qC,Im 10 T50])
 .ret))))))
def bGw : FE := ⟨51, bV4, [.t 10]⟩
theorem bPz : iI Tryz.prog 217 bGw := iI.mk1 Tryz.func217
def bUM:XC:=(Zq (Rg [Iq 6 (.mv (.k (.int .u32 0)))])
 (Zq (Rg [Iq 7 (.mv (.k (.int .u64 0))),Iq 8 (.mv (.k (.int .u64 0)))])
 (Zq (Zq (Rg [Im 16 T0,Iq 17 (.len false xJ),Iq 18 (.mv (Ki 0))])
 (.block 0 (.loop (Zq (Rg [Iq 19 (.bin .lss wO yM)])
 (Zq (.cond yB .skip
 (.exit 0))
 (Zq (.block 1 (Zq (Rg [Im 20 wO,Im 9 zK])
 (Zq (Rg [Iq 10 (.mv (.k (.int .u64 0)))])
 (Zq (Zq (Rg [Im 21 T9,Im 22 T1,Iq 23 (.len false By),Iq 24 (.bin .lss Ce Eh)])
 (.cond Dp (Rg [Im 25 T1,Im 26 T9,Iq 27 (.iad 1 Ef Ho),Iq 28 (Lo Ed),Iq 29 (.cvi .u64 J9),Im 10 J1])
 .skip))
 (Zq (Rg [Im 30 T2,Im 31 pU,Iq 32 (.bin .mul Kz Lp),Im 33 T7,Iq 34 (.bin .add Lq Pm),Im 11 O1])
 (Zq (Rg [Im 35 pO,Iq 36 (.bin .shr Ro (.k (.int .u64 32))),Im 7 Yf])
 (Zq (Rg [Im 37 T0,Im 38 T9,Iq 39 (.iad 1 T37 T38),Iq 40 (Lo T39),Iq 41 (.cvi .u64 T40),Im 42 pO,Iq 43 (.cvi .u32 T42),Iq 44 (.cvi .u64 T43),Iq 45 (.bin .sub T41 T44),Im 46 T8,Iq 47 (.bin .sub T45 T46),Im 12 T47])
 (Rg [Im 48 T0,Im 49 T9,Im 50 qC,Iq 51 (.cvi .u32 T50),Im 52 qC,Iq 53 (.bin .shr T52 (.k (.int .u64 63))),Iq 54 (.iad 1 T48 T49),Is (.store 1 T54 T51),Im 8 T53]))))))))
 (Rg [Iq 55 (.bin .add wO (Ki 1)),Im 18 T55])))))))
 (Zq (Zq (Rg [Im 56 T8,Iq 57 (.bin .eql T56 (.k (.int .u64 0)))])
 (.cond T57 (Zq (Rg [Im 58 T2,Iq 59 (.cvi .u32 T58),Im 6 T59])
 .ret)
 .skip))
 (Zq (Rg [Iq 13 (.mv (.k (.int .u32 0)))])
 (Zq (Zq (Rg [Im 60 T0,Iq 61 (.len false T60),Iq 62 (.mv (Ki 0))])
 (.block 2 (.loop (Zq (Rg [Iq 63 (.bin .lss T62 T61)])
 (Zq (.cond T63 .skip
 (.exit 2))
 (Zq (.block 3 (Zq (Rg [Im 64 T62,Im 14 T64])
 (Zq (Rg [Iq 15 (.mv (.k (.int .u32 0)))])
 (Zq (Zq (Rg [Im 65 uE,Im 66 T1,Iq 67 (.len false T66),Iq 68 (.bin .lss T65 T67)])
 (.cond T68 (Rg [Im 69 T1,Im 70 uE,Iq 71 (.iad 1 T69 T70),Iq 72 (Lo T71),Im 15 T72])
 .skip))
 (Rg [Im 74 T0,Im 75 uE,Im 76 T0,Im 77 uE,Iq 78 (.iad 1 T76 T77),Iq 79 (Lo T78),Im 80 vB,Im 81 uY,Iq 82 (.call 219 [T79,T80,T81]),Im 73 T82,Iq 83 (.ext T73 0),Iq 84 (.ext T73 1),Iq 85 (.iad 1 T74 T75),Is (.store 1 T85 T83),Im 13 T84])))))
 (Rg [Iq 86 (.bin .add T62 (Ki 1)),Im 62 T86])))))))
 (Zq (Rg [Im 87 T2,Iq 88 (.bin .sub T87 (.k (.int .u64 1))),Iq 89 (.cvi .u32 T88),Im 6 T89])
 .ret)))))))
def bFl : FE := ⟨90, bUM, [.t 6]⟩
theorem bQI : iI Tryz.prog 218 bFl := iI.mk1 Tryz.func218
def bXO:XC:=(Zq (Rg [Iq 6 (.mv (.k (.int .u32 0))),Iq 7 (.mv (.k (.int .u32 0)))])
 (Zq (Rg [Im 9 T0,Iq 10 (.cvi .u64 T9),Im 11 T1,Iq 12 (.cvi .u64 pO),Iq 13 (.bin .add pU qC),Im 14 T2,Iq 15 (.cvi .u64 uE),Iq 16 (.bin .add uY vB),Im 8 xJ])
 (Zq (Rg [Im 17 T8,Iq 18 (.cvi .u32 yM),Im 6 wO])
 (Zq (Rg [Im 19 T8,Iq 20 (.bin .shr yB (.k (.int .u64 32))),Iq 21 (.cvi .u32 zK),Im 7 Ce])
 .ret))))
def bHE : FE := ⟨22, bXO, [.t 6, .t 7]⟩
theorem bPt : iI Tryz.prog 219 bHE := iI.mk1 Tryz.func219
def bWB:XC:=(Zq (Rg [Iq 2 (.mv (.k Zs))])
 (Zq (.block 0 (.loop (Zq (Zq (Rg [Im 3 T0,Iq 4 (.len false T3),Iq 5 (.bin .gtr T4 (Ki 0)),Im 6 T5,Iw 7 6 (.mv T0),Iw 8 6 (.mv T0),Iw 9 6 (.len false T8),Iw 10 6 (.bin .sub T9 (Ki 1)),Iw 11 6 (.iad 1 T7 pU),Iw 12 6 (Lo pO),Iw 13 6 (.bin .eql qC (.k (.int .u32 0))),Iq 14 (.pick T6 uY Kf)])
 (.cond uE .skip
 (.exit 0)))
 (.block 1 (Rg [Im 15 T0,Im 16 T0,Iq 17 (.len false xJ),Iq 18 (.bin .sub yM (Ki 1)),Iq 19 (.slc 1 vB none (some wO)),Im 0 yB])))))
 (Zq (Rg [Im 20 T0,Im 2 zK])
 .ret)))
def bH4 : FE := ⟨21, bWB, [.t 2]⟩
theorem bNA : iI Tryz.prog 220 bH4 := iI.mk1 Tryz.func220
def bUJ:XC:=(Zq (Rg [Iq 6 (.mv (.k (.int .u32 0))),Iq 7 (.mv (.k (.int .u32 0)))])
 (Zq (Rg [Im 8 T0,Im 9 T1,Iq 10 (.bin .sub T8 T9),Im 11 T2,Iq 12 (.bin .sub pU pO),Im 6 qC])
 (Zq (Rg [Im 13 T0,Iq 14 (.un .xor uY),Im 15 T1,Iq 16 (.bin .and uE vB),Im 17 T0,Im 18 T1,Iq 19 (.bin .xor yM wO),Iq 20 (.un .xor yB),Im 21 T6,Iq 22 (.bin .and zK Ce),Iq 23 (.bin .or xJ By),Iq 24 (.bin .shr Eh (.k (.int .u64 31))),Im 7 Dp])
 .ret)))
def bFF : FE := ⟨25, bUJ, [.t 6, .t 7]⟩
theorem bMl : iI Tryz.prog 221 bFF := iI.mk1 Tryz.func221
def bXm:XC:=(Zq (Rg [Iq 4 (.mv (Ki 0))])
 (Zq (Rg [Iq 5 (.mv (Ki 0)),Iq 6 (.mv (Ki 65536))])
 (Zq (.block 0 (.loop (Zq (Zq (Rg [Im 8 T6,Im 9 T5,Iq 10 (.bin .sub T8 T9),Iq 11 (.bin .gtr pU (Ki 1))])
 (.cond pO .skip
 (.exit 0)))
 (.block 1 (Zq (Rg [Im 12 T5,Im 13 T6,Iq 14 (.bin .add qC uY),Iq 15 (.bin .quo uE (Ki 2)),Im 7 vB])
 (Zq (Rg [Im 16 T0,Im 17 T1,Im 18 T7,Iq 19 (.bslice 3 1 1 [Zi] [(0,wO)]),Iq 20 (.call 151 [yM,yB]),Iq 21 (.call 241 [xJ,zK])])
 (.cond Ce (Rg [Im 22 T7,Im 6 By])
 (Rg [Im 23 T7,Im 5 Eh]))))))))
 (Zq (Rg [Im 24 T5,Im 4 Dp])
 .ret))))
def bIB : FE := ⟨25, bXm, [.t 4]⟩
theorem bN4 : iI Tryz.prog 222 bIB := iI.mk1 Tryz.func222
def bWn:XC:=(Zq (Rg [Iq 6 (.mv (.k Zs))])
 (Zq (Rg [Iq 7 (.mv (.k Zs))])
 (Zq (Rg [Iq 8 (.mv (Ki 0))])
 (Zq (Zq (Rg [Iq 9 (.mv (Ki 0))])
 (.block 0 (.loop (Zq (Zq (Rg [Im 11 T9,Im 12 T0,Iq 13 (.len false qC),Iq 14 (.bin .lss pO uY)])
 (.cond uE .skip
 (.exit 0)))
 (Zq (.block 1 (Zq (Rg [Im 17 T0,Im 18 T9,Iq 19 (.iad 1 yM wO),Iq 20 (Lo yB),Im 21 T8,Iq 22 (.bin .sub zK Ce),Im 10 By])
 (Zq (Zq (Rg [Im 23 T9,Im 24 T1,Iq 25 (.len false Dp),Iq 26 (.bin .lss Eh Ef)])
 (.cond Ho (Rg [Im 27 pU,Im 28 T2,Im 29 T1,Im 30 T9,Iq 31 (.iad 1 J1 Kz),Iq 32 (Lo Lp),Iq 33 (.bin .mul J9 Lq),Iq 34 (.bin .sub Ed Pm),Im 10 O1])
 .skip))
 (Zq (Rg [Iq 8 (.mv (Ki 0))])
 (Zq (Zq (Rg [Im 35 pU,Iq 36 (.bin .lss Ro (Ki 0))])
 (.cond Yf (Zq (Rg [Im 37 pU,Iq 38 (.bin .sub (Ki 65535) T37),Iq 39 (.bin .quo T38 (Ki 65536)),Im 8 T39])
 (Rg [Im 40 pU,Im 41 T8,Iq 42 (.bin .mul (Ki 65536) T41),Iq 43 (.bin .add T40 T42),Im 10 T43]))
 .skip))
 (Rg [Im 44 T7,Im 45 pU,Iq 46 (.bslice 3 1 1 [Zi] [(0,T45)]),Iq 47 (.app 3 1 8 [Zi] T44 T46),Im 7 T47]))))))
 (Rg [Im 15 T9,Iq 16 (.bin .add vB (Ki 1)),Im 9 xJ]))))))
 (Zq (Rg [Im 48 T7,Iq 49 (.call 208 [T48]),Im 6 T49])
 .ret)))))
def bE4 : FE := ⟨50, bWn, [.t 6]⟩
theorem bO1 : iI Tryz.prog 223 bE4 := iI.mk1 Tryz.func223
def bW0:XC:=(Zq (Rg [Iq 4 (.mv (.k Zs))])
 (Zq (Rg [Im 11 T0,Iq 12 (.call 233 [pO]),Im 13 T1,Iq 14 (.call 233 [uY]),Im 5 qC,Im 6 uE])
 (Zq (Rg [Iq 7 (.mv (.k Zs))])
 (Zq (Rg [Iq 8 (.mv (Ki 0))])
 (Zq (Zq (Rg [Iq 9 (.mv (Ki 0))])
 (.block 0 (.loop (Zq (Zq (Rg [Im 15 T9,Im 16 T5,Iq 17 (.len false xJ),Im 18 T6,Iq 19 (.len false wO),Iq 20 (.mx false yM yB),Iq 21 (.bin .lss vB zK),Im 22 Ce,Iv 23 22 (.mv T8),Iv 24 22 (.bin .gtr Eh (Ki 0)),Iq 25 (.pick By Kt Dp)])
 (.cond Ef .skip
 (.exit 0)))
 (Zq (.block 1 (Zq (Rg [Im 28 T5,Im 29 T9,Iq 30 (.call 242 [J9,J1]),Im 31 T6,Im 32 T9,Iq 33 (.call 242 [Lp,Lq]),Iq 34 (.bin .add Kz Pm),Im 35 T8,Iq 36 (.bin .add O1 Ro),Im 10 Yf])
 (Zq (Rg [Im 37 T7,Im 38 pU,Iq 39 (.bin .rem T38 (Ki 65536)),Iq 40 (.bslice 3 1 1 [Zi] [(0,T39)]),Iq 41 (.app 3 1 8 [Zi] T37 T40),Im 7 T41])
 (Rg [Im 42 pU,Iq 43 (.bin .quo T42 (Ki 65536)),Im 8 T43]))))
 (Rg [Im 26 T9,Iq 27 (.bin .add Ho (Ki 1)),Im 9 Ed]))))))
 (Zq (Rg [Im 44 T7,Iq 45 (.call 232 [T44]),Im 4 T45])
 .ret))))))
def bDN : FE := ⟨46, bW0, [.t 4]⟩
theorem bMA : iI Tryz.prog 224 bDN := iI.mk1 Tryz.func224
def bVW:XC:=(Zq (Rg [Iq 4 (.mv (.k Zs)),Iq 5 (.mv (Ki 0))])
 (Zq (Zq (Rg [Im 12 T0,Im 13 T1,Iq 14 (.call 226 [qC,uY]),Iq 15 (.bin .lss uE (Ki 0))])
 (.cond vB (Zq (Rg [Iq 4 (.mv (.k Zs)),Iq 5 (.mv (Ki 2))])
 .ret)
 .skip))
 (Zq (Rg [Im 16 T0,Iq 17 (.call 233 [xJ]),Im 18 T1,Iq 19 (.call 233 [wO]),Im 6 yM,Im 7 yB])
 (Zq (Rg [Iq 8 (.mv (.k Zs))])
 (Zq (Rg [Iq 9 (.mv (Ki 0))])
 (Zq (Zq (Rg [Iq 10 (.mv (Ki 0))])
 (.block 0 (.loop (Zq (Zq (Rg [Im 20 pU,Im 21 T6,Iq 22 (.len false Ce),Iq 23 (.bin .lss zK By)])
 (.cond Eh .skip
 (.exit 0)))
 (Zq (.block 1 (Zq (.draw [⟨Im 26 T6,[]⟩,⟨Im 27 pU,[]⟩,⟨Iq 28 (.iad 1 Ho Ed),[0,1]⟩,⟨Iq 29 (Lo J9),[2]⟩,⟨Im 30 T7,[]⟩,⟨Im 31 pU,[]⟩,⟨Iq 32 (.call 242 [Kz,Lp]),[4,5]⟩,⟨Iq 33 (.bin .sub J1 Lq),[3,6]⟩,⟨Im 34 T9,[]⟩,⟨Iq 35 (.bin .sub Pm O1),[7,8]⟩,⟨Im 11 Ro,[9,6,0,1,2,3,4,5,6,7,8,9]⟩] [0,0,3,7,0,0,48,127,0,511,1023])
 (Zq (Rg [Iq 9 (.mv (Ki 0))])
 (Zq (Zq (Rg [Im 36 pO,Iq 37 (.bin .lss Yf (Ki 0))])
 (.cond T37 (Zq (Rg [Im 38 pO,Iq 39 (.bin .add T38 (Ki 65536)),Im 11 T39])
 (Rg [Iq 9 (.mv (Ki 1))]))
 .skip))
 (Rg [Im 40 T8,Im 41 pO,Iq 42 (.bslice 3 1 1 [Zi] [(0,T41)]),Iq 43 (.app 3 1 8 [Zi] T40 T42),Im 8 T43])))))
 (Rg [Im 24 pU,Iq 25 (.bin .add Dp (Ki 1)),Im 10 Ef]))))))
 (Zq (Rg [Im 44 T8,Iq 45 (.call 232 [T44]),Im 4 T45,Iq 5 (.mv (Ki 0))])
 .ret)))))))
def bIb : FE := ⟨46, bVW, [.t 4, .t 5]⟩
theorem bMO : iI Tryz.prog 225 bIb := iI.mk1 Tryz.func225
def bW7:XC:=(Zq (Rg [Iq 4 (.mv (Ki 0))])
 (Zq (Rg [Im 8 T0,Iq 9 (.call 233 [T8]),Im 10 T1,Iq 11 (.call 233 [pU]),Im 5 T9,Im 6 pO])
 (Zq (Zq (Rg [Im 12 T5,Iq 13 (.len false qC),Im 14 T6,Iq 15 (.len false uE),Iq 16 (.mx false uY vB),Iq 17 (.bin .sub xJ (Ki 1)),Im 7 yM])
 (.block 0 (.loop (Zq (Zq (Rg [Im 18 T7,Iq 19 (.bin .geq wO (Ki 0))])
 (.cond yB .skip
 (.exit 0)))
 (Zq (.block 1 (Zq (Zq (Rg [Im 22 T5,Im 23 T7,Iq 24 (.call 242 [By,Eh]),Im 25 T6,Im 26 T7,Iq 27 (.call 242 [Ef,Ho]),Iq 28 (.bin .lss Dp Ed)])
 (.cond J9 (Zq (Rg [Iq 4 (.mv (.k (.int .i64 (-1))))])
 .ret)
 .skip))
 (Zq (Rg [Im 29 T5,Im 30 T7,Iq 31 (.call 242 [J1,Kz]),Im 32 T6,Im 33 T7,Iq 34 (.call 242 [Lq,Pm]),Iq 35 (.bin .gtr Lp O1)])
 (.cond Ro (Zq (Rg [Iq 4 (.mv (Ki 1))])
 .ret)
 .skip))))
 (Rg [Im 20 T7,Iq 21 (.bin .sub zK (Ki 1)),Im 7 Ce]))))))
 (Zq (Rg [Iq 4 (.mv (Ki 0))])
 .ret))))
def bD4 : FE := ⟨36, bW7, [.t 4]⟩
theorem bP5 : iI Tryz.prog 226 bD4 := iI.mk1 Tryz.func226
def bWa:XC:=(Zq (Rg [Iq 2 (.mv (.k Zs))])
 (Zq (Rg [Iq 3 (.mv (.k Zs))])
 (Zq (Rg [Im 6 T0,Iq 7 (.call 243 [T6]),Im 0 T7])
 (Zq (Zq (Rg [Iq 4 (.mv (Ki 0))])
 (.block 0 (.loop (Zq (Zq (Rg [Im 8 T4,Im 9 T0,Iq 10 (.len false T9),Iq 11 (.bin .lss T8 pU)])
 (.cond pO .skip
 (.exit 0)))
 (Zq (.block 1 (Zq (Rg [Iq 5 (.mv (Ki 0))])
 (Zq (Zq (Rg [Im 14 T4,Iq 15 (.bin .add uE (Ki 1)),Im 16 T0,Iq 17 (.len false xJ),Iq 18 (.bin .lss vB yM)])
 (.cond wO (Rg [Im 19 T0,Im 20 T4,Iq 21 (.bin .add zK (Ki 1)),Iq 22 (.iad 1 yB Ce),Iq 23 (Lo By),Im 5 Eh])
 .skip))
 (Rg [Im 24 T3,Im 25 T0,Im 26 T4,Iq 27 (.iad 1 Ef Ho),Iq 28 (Lo Ed),Iq 29 (.cvi .u32 J9),Im 30 T5,Iq 31 (.cvi .u32 Kz),Iq 32 (.bin .mul (.k (.int .u32 65536)) Lp),Iq 33 (.bin .add J1 Lq),Iq 34 (.bslice 221 1 1 [(.int .u32 0)] [(0,Pm)]),Iq 35 (.app 221 1 4 [(.int .u32 0)] Dp O1),Im 3 Ro]))))
 (Rg [Im 12 T4,Iq 13 (.bin .add qC (Ki 2)),Im 4 uY]))))))
 (Zq (Rg [Im 36 T3,Im 2 Yf])
 .ret)))))
def bHe : FE := ⟨37, bWa, [.t 2]⟩
theorem bMU : iI Tryz.prog 232 bHe := iI.mk1 Tryz.func232
def bVn:XC:=(Zq (Rg [Iq 2 (.mv (.k Zs))])
 (Zq (Rg [Iq 3 (.mv (.k Zs))])
 (Zq (Zq (Rg [Iq 4 (.mv (Ki 0))])
 (.block 0 (.loop (Zq (Zq (Rg [Im 5 T4,Im 6 T0,Iq 7 (.len false T6),Iq 8 (.bin .lss T5 T7)])
 (.cond T8 .skip
 (.exit 0)))
 (Zq (.block 1 (.draw [⟨Im 11 T3,[]⟩,⟨Im 12 T0,[]⟩,⟨Im 13 T4,[]⟩,⟨Iq 14 (.iad 1 qC uY),[1,2]⟩,⟨Iq 15 (Lo uE),[3]⟩,⟨Iq 16 (.bin .rem vB (.k (.int .u32 65536))),[4]⟩,⟨Iq 17 (.cvi .i64 xJ),[5]⟩,⟨Im 18 T0,[]⟩,⟨Im 19 T4,[]⟩,⟨Iq 20 (.iad 1 wO yB),[7,8]⟩,⟨Iq 21 (Lo zK),[9]⟩,⟨Iq 22 (.bin .quo Ce (.k (.int .u32 65536))),[10]⟩,⟨Iq 23 (.cvi .i64 By),[11]⟩,⟨Iq 24 (.bslice 3 1 2 [Zi] [(0,yM),(1,Eh)]),[6,12]⟩,⟨Iq 25 (.app 3 1 8 [Zi] pO Dp),[0,13]⟩,⟨Im 3 Ef,[14,14,0,1,2,3,4,5,6,7,8,9,10,11,12,13,14]⟩] [0,0,0,6,14,30,62,0,0,384,896,1920,3968,8190,16383,32767]))
 (Rg [Im 9 T4,Iq 10 (.bin .add T9 (Ki 1)),Im 4 pU]))))))
 (Zq (Rg [Im 26 T3,Iq 27 (.call 243 [Ho]),Im 2 Ed])
 .ret))))
def bIQ : FE := ⟨28, bVn, [.t 2]⟩
theorem bQm : iI Tryz.prog 233 bIQ := iI.mk1 Tryz.func233
def bVO:XC:=(Zq (Rg [Iq 4 (.mv (Ki 0))])
 (Zq (Rg [Im 7 T0,Iq 8 (.call 244 [T7]),Im 5 T8])
 (Zq (Rg [Im 9 T1,Iq 10 (.call 244 [T9]),Im 6 pU])
 (Zq (Zq (Rg [Im 11 T5])
 (.cond pO (Zq (Zq (Rg [Im 12 T6])
 (.cond qC (Zq (Rg [Iq 4 (.mv (Ki 0))])
 .ret)
 .skip))
 (Zq (Rg [Iq 4 (.mv (.k (.int .i64 (-1))))])
 .ret))
 .skip))
 (Zq (Zq (Rg [Im 13 T6])
 (.cond uY (Zq (Rg [Iq 4 (.mv (Ki 1))])
 .ret)
 .skip))
 (Zq (Zq (Rg [Im 14 T0,Im 15 T1,Iq 16 (.bin .lss uE vB)])
 (.cond xJ (Zq (Rg [Iq 4 (.mv (.k (.int .i64 (-1))))])
 .ret)
 .skip))
 (Zq (Zq (Rg [Im 17 T0,Im 18 T1,Iq 19 (.bin .gtr yM wO)])
 (.cond yB (Zq (Rg [Iq 4 (.mv (Ki 1))])
 .ret)
 .skip))
 (Zq (Rg [Iq 4 (.mv (Ki 0))])
 .ret))))))))
def bIK : FE := ⟨20, bVO, [.t 4]⟩
theorem bPZ : iI Tryz.prog 234 bIK := iI.mk1 Tryz.func234
def bU8:XC:=(Zq (Rg [Iq 4 (.mv (Ki 0))])
 (Zq (Rg [Im 7 T0,Iq 8 (.call 245 [T7]),Im 5 T8])
 (Zq (Rg [Im 9 T1,Iq 10 (.call 245 [T9]),Im 6 pU])
 (Zq (Zq (Rg [Im 11 T5])
 (.cond pO (Zq (Zq (Rg [Im 12 T6])
 (.cond qC (Zq (Rg [Iq 4 (.mv (Ki 0))])
 .ret)
 .skip))
 (Zq (Rg [Iq 4 (.mv (.k (.int .i64 (-1))))])
 .ret))
 .skip))
 (Zq (Zq (Rg [Im 13 T6])
 (.cond uY (Zq (Rg [Iq 4 (.mv (Ki 1))])
 .ret)
 .skip))
 (Zq (Zq (Rg [Im 14 T0,Im 15 T1,Iq 16 (.bin .lss uE vB)])
 (.cond xJ (Zq (Rg [Iq 4 (.mv (.k (.int .i64 (-1))))])
 .ret)
 .skip))
 (Zq (Zq (Rg [Im 17 T0,Im 18 T1,Iq 19 (.bin .gtr yM wO)])
 (.cond yB (Zq (Rg [Iq 4 (.mv (Ki 1))])
 .ret)
 .skip))
 (Zq (Rg [Iq 4 (.mv (Ki 0))])
 .ret))))))))
def bIo : FE := ⟨20, bU8, [.t 4]⟩
theorem bQS : iI Tryz.prog 235 bIo := iI.mk1 Tryz.func235
def bVz:XC:=(Zq (Rg [Iq 6 (.mv (.k (.int .u32 0))),Iq 7 (.mv (.k (.int .u32 0)))])
 (Zq (Zq (Rg [Im 9 T2,Iq 10 (.bin .neq T9 (.k (.int .u32 0))),Im 11 pU,Iw 12 11 (.mv T2),Iw 13 11 (.mv T0),Iw 14 11 (.bin .leq qC uY),Iq 15 (.pick pO uE Kf)])
 (.cond vB (Rg [Iq 16 (Lo .bad),Is (.bad)])
 .skip))
 (Zq (Rg [Im 17 T0,Iq 18 (.cvi .u64 yM),Iq 19 (.bin .shl wO (.k (.int .u64 32))),Im 20 T1,Iq 21 (.cvi .u64 zK),Iq 22 (.bin .or yB Ce),Im 8 By])
 (Zq (.draw [⟨Im 23 T8,[]⟩,⟨Im 24 T2,[]⟩,⟨Iq 25 (.cvi .u64 Dp),[1]⟩,⟨Iq 26 (.bin .quo Eh Ef),[0,2]⟩,⟨Iq 27 (.cvi .u32 Ho),[3]⟩,⟨Im 28 T8,[]⟩,⟨Im 29 T2,[]⟩,⟨Iq 30 (.cvi .u64 J1),[6]⟩,⟨Iq 31 (.bin .rem J9 Kz),[5,7]⟩,⟨Iq 32 (.cvi .u32 Lp),[8]⟩,⟨Im 6 Ed,[4,0,1,2,3,4]⟩,⟨Im 7 Lq,[9,10,0,1,2,3,4,5,6,7,8,9,10]⟩] [0,0,2,7,15,0,0,64,224,480,31,2047])
 .ret))))
def bDK : FE := ⟨33, bVz, [.t 6, .t 7]⟩
theorem bQZ : iI Tryz.prog 236 bDK := iI.mk1 Tryz.func236
def bXo:XC:=(Zq (Rg [Iq 2 (.mv (Ki 0))])
 (Zq (Zq (Rg [Im 3 T0,Iq 4 (.bin .geq T3 (.k (.int .u32 65536)))])
 (.cond T4 (Zq (Rg [Im 5 T0,Iq 6 (.bin .shr T5 (.k (.int .u64 16))),Im 0 T6])
 (Rg [Iq 2 (.mv (Ki 16))]))
 .skip))
 (Zq (Zq (Rg [Im 7 T0,Iq 8 (.bin .geq T7 (.k (.int .u32 256)))])
 (.cond T8 (Zq (Rg [Im 9 T0,Iq 10 (.bin .shr T9 (.k (.int .u64 8))),Im 0 pU])
 (Rg [Im 11 T2,Iq 12 (.bin .add pO (Ki 8)),Im 2 qC]))
 .skip))
 (Zq (Rg [Im 13 T2,Im 14 T0,Iq 15 (.cvi .u8 uE),Iq 16 (.ixs (.k (.string ⟨#[0,1,2,2,3,3,3,3,4,4,4,4,4,4,4,4,5,5,5,5,5,5,5,5,5,5,5,5,5,5,5,5,6,6,6,6,6,6,6,6,6,6,6,6,6,6,6,6,6,6,6,6,6,6,6,6,6,6,6,6,6,6,6,6,7,7,7,7,7,7,7,7,7,7,7,7,7,7,7,7,7,7,7,7,7,7,7,7,7,7,7,7,7,7,7,7,7,7,7,7,7,7,7,7,7,7,7,7,7,7,7,7,7,7,7,7,7,7,7,7,7,7,7,7,7,7,7,7,8,8,8,8,8,8,8,8,8,8,8,8,8,8,8,8,8,8,8,8,8,8,8,8,8,8,8,8,8,8,8,8,8,8,8,8,8,8,8,8,8,8,8,8,8,8,8,8,8,8,8,8,8,8,8,8,8,8,8,8,8,8,8,8,8,8,8,8,8,8,8,8,8,8,8,8,8,8,8,8,8,8,8,8,8,8,8,8,8,8,8,8,8,8,8,8,8,8,8,8,8,8,8,8,8,8,8,8,8,8,8,8,8,8,8,8,8,8,8,8,8,8,8,8,8,8,8,8]⟩)) vB),Iq 17 (.cvi .i64 xJ),Iq 18 (.bin .add uY yM),Im 2 wO])
 .ret))))
def bIk : FE := ⟨19, bXo, [.t 2]⟩
theorem bPs : iI Tryz.prog 237 bIk := iI.mk1 Tryz.func237
def bVs:XC:=(Zq (Rg [Iq 2 (.mv (.k Zs))])
 (Zq (Rg [Iq 3 (.mv (Ki 0))])
 (Zq (Zq (Rg [Im 9 T0,Iq 10 (.len false T9),Iq 11 (.mv (Ki 0))])
 (.block 0 (.loop (Zq (Rg [Iq 12 (.bin .lss pO pU)])
 (Zq (.cond qC .skip
 (.exit 0))
 (Zq (.block 1 (Zq (Rg [Iq 13 (.iad 1 T9 pO),Iq 14 (Lo uY),Im 5 uE])
 (Zq (Rg [Im 15 T3,Im 16 T5,Iq 17 (.len false xJ),Iq 18 (.bin .add vB yM),Im 3 wO])
 (Zq (Rg [Im 19 T3,Iq 20 (.bin .lss yB (Ki 0))])
 (.cond zK (Rg [Iq 21 (.bad),Is (.bad)])
 .skip)))))
 (Rg [Iq 22 (.bin .add pO (Ki 1)),Im 11 By])))))))
 (Zq (Rg [Im 23 T3,Iq 24 (.call 246 [(.k Zs),Eh]),Im 6 Dp])
 (Zq (Zq (Rg [Im 25 T0,Iq 26 (.len false Ef),Iq 27 (.mv (Ki 0))])
 (.block 2 (.loop (Zq (Rg [Iq 28 (.bin .lss Ed Ho)])
 (Zq (.cond J9 .skip
 (.exit 2))
 (Zq (.block 3 (Zq (Rg [Iq 29 (.iad 1 Ef Ed),Iq 30 (Lo J1),Im 8 Kz])
 (Rg [Im 31 T6,Im 32 T8,Iq 33 (.app 221 1 4 [(.int .u32 0)] Lp Lq),Im 6 Pm])))
 (Rg [Iq 34 (.bin .add Ed (Ki 1)),Im 27 O1])))))))
 (Zq (Rg [Im 35 T6,Im 2 Ro])
 .ret))))))
def bIO : FE := ⟨36, bVs, [.t 2]⟩
theorem bNy : iI Tryz.prog 238 bIO := iI.mk1 Tryz.func238
def bVC:XC:=(Zq (Rg [Iq 4 (.mv (.k Zs))])
 (Zq (Zq (Rg [Im 5 T1,Iq 6 (.bin .eql T5 (Ki 0))])
 (.cond T6 (Zq (Rg [Im 7 T0,Im 4 T7])
 .ret)
 .skip))
 (Zq (Rg [Im 8 T0,Im 9 T1,Iq 10 (.bin .shl (.k (.int .u32 1)) T9),Iq 11 (.call 247 [T8,pU]),Im 4 pO])
 .ret)))
def bH9 : FE := ⟨12, bVC, [.t 4]⟩
theorem bPO : iI Tryz.prog 239 bH9 := iI.mk1 Tryz.func239
def bVP:XC:=(Zq (Rg [Iq 4 (.mv (.k Zs))])
 (Zq (Zq (Rg [Im 8 T1,Iq 9 (.bin .eql T8 (Ki 0))])
 (.cond T9 (Zq (Rg [Im 10 T0,Im 4 pU])
 .ret)
 .skip))
 (Zq (Rg [Im 12 T0,Im 13 T1,Iq 14 (.bin .shl (.k (.int .u32 1)) uY),Iq 15 (.call 214 [qC,uE]),Im 11 vB,Iq 16 (.ext pO 0),Iq 17 (.ext pO 1),Iq 18 (.ext pO 2),Im 5 xJ,Im 6 yM,Im 7 wO])
 (Zq (Rg [Im 19 T5,Im 4 yB])
 .ret))))
def bGD : FE := ⟨20, bVP, [.t 4]⟩
theorem bNo : iI Tryz.prog 240 bGD := iI.mk1 Tryz.func240
def bW2:XC:=(Zq (Rg [Iq 4 (.mv Kf)])
 (Zq (Zq (Rg [Im 6 T0,Iq 7 (.len false T6),Im 8 T1,Iq 9 (.len false T8),Iq 10 (.bin .neq T7 T9)])
 (.cond pU (Zq (Rg [Im 11 T0,Iq 12 (.len false pO),Im 13 T1,Iq 14 (.len false uY),Iq 15 (.bin .lss qC uE),Im 4 vB])
 .ret)
 .skip))
 (Zq (Zq (Rg [Im 16 T0,Iq 17 (.len false xJ),Iq 18 (.bin .sub yM (Ki 1)),Im 5 wO])
 (.block 0 (.loop (Zq (Zq (Rg [Im 19 T5,Iq 20 (.bin .geq yB (Ki 0))])
 (.cond zK .skip
 (.exit 0)))
 (Zq (.block 1 (Zq (.draw [⟨Im 23 T0,[]⟩,⟨Im 24 T5,[]⟩,⟨Iq 25 (.iad 1 Eh Dp),[0,1]⟩,⟨Iq 26 (Lo Ef),[2]⟩,⟨Im 27 T1,[]⟩,⟨Im 28 T5,[]⟩,⟨Iq 29 (.iad 1 Ed J9),[4,5]⟩,⟨Iq 30 (Lo J1),[6]⟩,⟨Iq 31 (.bin .neq Ho Kz),[3,7]⟩] [0,0,3,7,0,0,48,112,255])
 (.cond Lp (Zq (.draw [⟨Im 32 T0,[]⟩,⟨Im 33 T5,[]⟩,⟨Iq 34 (.iad 1 Lq Pm),[0,1]⟩,⟨Iq 35 (Lo O1),[2]⟩,⟨Im 36 T1,[]⟩,⟨Im 37 T5,[]⟩,⟨Iq 38 (.iad 1 Yf T37),[4,5]⟩,⟨Iq 39 (Lo T38),[6]⟩,⟨Iq 40 (.bin .lss Ro T39),[3,7]⟩,⟨Im 4 T40,[8,0,1,2,3,4,5,6,7,8]⟩] [0,0,3,7,0,0,48,112,255,511])
 .ret)
 .skip)))
 (Rg [Im 21 T5,Iq 22 (.bin .sub Ce (Ki 1)),Im 5 By]))))))
 (Zq (Rg [Iq 4 (.mv Kf)])
 .ret))))
def bEm : FE := ⟨41, bW2, [.t 4]⟩
theorem bP1 : iI Tryz.prog 241 bEm := iI.mk1 Tryz.func241
def bW8:XC:=(Zq (Rg [Iq 4 (.mv (Ki 0))])
 (Zq (Zq (Rg [Im 5 T1,Im 6 T0,Iq 7 (.len false T6),Iq 8 (.bin .lss T5 T7)])
 (.cond T8 (Zq (Rg [Im 9 T0,Im 10 T1,Iq 11 (.iad 1 T9 pU),Iq 12 (Lo pO),Im 4 qC])
 .ret)
 .skip))
 (Zq (Rg [Iq 4 (.mv (Ki 0))])
 .ret)))
def bF1 : FE := ⟨13, bW8, [.t 4]⟩
theorem bNN : iI Tryz.prog 242 bF1 := iI.mk1 Tryz.func242
def bWF:XC:=(Zq (Rg [Iq 2 (.mv (.k Zs))])
 (Zq (.block 0 (.loop (Zq (Zq (Rg [Im 3 T0,Iq 4 (.len false T3),Iq 5 (.bin .gtr T4 (Ki 0)),Im 6 T5,Iw 7 6 (.mv T0),Iw 8 6 (.mv T0),Iw 9 6 (.len false T8),Iw 10 6 (.bin .sub T9 (Ki 1)),Iw 11 6 (.iad 1 T7 pU),Iw 12 6 (Lo pO),Iw 13 6 (.bin .eql qC (Ki 0)),Iq 14 (.pick T6 uY Kf)])
 (.cond uE .skip
 (.exit 0)))
 (.block 1 (Rg [Im 15 T0,Im 16 T0,Iq 17 (.len false xJ),Iq 18 (.bin .sub yM (Ki 1)),Iq 19 (.slc 1 vB none (some wO)),Im 0 yB])))))
 (Zq (Rg [Im 20 T0,Im 2 zK])
 .ret)))
def bHU : FE := ⟨21, bWF, [.t 2]⟩
theorem bNs : iI Tryz.prog 243 bHU := iI.mk1 Tryz.func243
def bXf:XC:=(Zq (Rg [Iq 2 (.mv Kf)])
 (Zq (Rg [Im 3 T0,Im 4 T0,Iq 5 (.bin .neq T3 T4),Im 2 T5])
 .ret))
def bIF : FE := ⟨6, bXf, [.t 2]⟩
theorem bOl : iI Tryz.prog 244 bIF := iI.mk1 Tryz.func244
def bUH:XC:=(Zq (Rg [Iq 2 (.mv Kf)])
 (Zq (Rg [Im 3 T0,Im 4 T0,Iq 5 (.bin .neq T3 T4),Im 2 T5])
 .ret))
def bE7 : FE := ⟨6, bUH, [.t 2]⟩
theorem bQa : iI Tryz.prog 245 bE7 := iI.mk1 Tryz.func245
def bWE:XC:=(Zq (Rg [Iq 4 (.mv (.k Zs))])
 (Zq (Rg [Im 13 T0,Iq 14 (.len false uY),Iq 15 (.bin .add uE (Ki 1)),Iq 16 (.mksl 221 1 4 [(.int .u32 0)] vB vB),Im 5 xJ])
 (Zq (Rg [Iq 6 (.mv (.k (.int .u32 0)))])
 (Zq (Zq (Rg [Im 17 T0,Iq 18 (.len false yM),Iq 19 (.mv (Ki 0))])
 (.block 0 (.loop (Zq (Rg [Iq 20 (.bin .lss yB wO)])
 (Zq (.cond zK .skip
 (.exit 0))
 (Zq (.block 1 (Zq (Rg [Im 21 yB,Iq 22 (.iad 1 yM yB),Iq 23 (Lo By),Im 7 Ce,Im 8 Eh])
 (Zq (Rg [Im 25 T8,Im 26 T1,Iq 27 (.call 248 [Ef,Ho]),Im 24 Ed,Iq 28 (.ext Dp 0),Iq 29 (.ext Dp 1),Im 9 J9,Im 10 J1])
 (Zq (Rg [Im 31 pU,Im 32 T6,Iq 33 (.call 219 [Lp,Lq,(.k (.int .u32 0))]),Im 30 Pm,Iq 34 (.ext Kz 0),Iq 35 (.ext Kz 1),Im 11 O1,Im 12 Ro])
 (Rg [Im 36 T5,Im 37 T7,Im 38 pO,Im 39 T9,Im 40 qC,Iq 41 (.bin .add T39 T40),Iq 42 (.iad 1 Yf T37),Is (.store 1 T42 T38),Im 6 T41])))))
 (Rg [Iq 43 (.bin .add yB (Ki 1)),Im 19 T43])))))))
 (Zq (Rg [Im 44 T5,Im 45 T0,Iq 46 (.len false T45),Im 47 T6,Iq 48 (.iad 1 T44 T46),Is (.store 1 T48 T47)])
 (Zq (Rg [Im 49 T5,Iq 50 (.call 220 [T49]),Im 4 T50])
 .ret))))))
def bFV : FE := ⟨51, bWE, [.t 4]⟩
theorem bPQ : iI Tryz.prog 247 bFV := iI.mk1 Tryz.func247
def bWN:XC:=(Zq (Rg [Iq 4 (.mv (.k (.int .u32 0))),Iq 5 (.mv (.k (.int .u32 0)))])
 (Zq (Rg [Im 7 T0,Iq 8 (.cvi .u64 T7),Im 9 T1,Iq 10 (.cvi .u64 T9),Iq 11 (.bin .mul T8 pU),Im 6 pO])
 (Zq (Rg [Im 12 T6,Iq 13 (.bin .shr qC (.k (.int .u64 32))),Iq 14 (.cvi .u32 uY),Im 15 T6,Iq 16 (.cvi .u32 vB),Im 4 uE,Im 5 xJ])
 .ret)))
def bDs : FE := ⟨17, bWN, [.t 4, .t 5]⟩
theorem bNx : iI Tryz.prog 248 bDs := iI.mk1 Tryz.func248
def tS : List (Nat × FE) := [(4, ge4), (7, ge7), (8, ge8), (9, ge9), (10, bMp), (11, bOB), (12, bMF), (13, bQ9), (14, bNL), (15, bNP), (16, bP0), (17, bQk), (18, bPN), (19, bMw), (23, bMJ), (24, bQH), (25, bPd), (26, bOy), (28, bME), (30, bQ7), (31, bOo), (32, bQq), (33, bNK), (34, bMZ), (35, bNQ), (36, bMq), (37, bN3), (38, bPX), (39, bQx), (40, bOe), (41, bOn), (42, bQ2), (43, bM6), (44, bNR), (45, bMM), (46, bPM), (47, bNw), (48, bMK), (49, bPf), (50, bOc), (51, bOk), (52, bNI), (53, bOv), (54, bNq), (55, bNl), (56, bQe), (57, bNh), (58, bOg), (59, bOX), (60, bMG), (61, bOb), (62, bPY), (63, bOz), (64, bPe), (65, bQ0), (66, bNT), (67, bQL), (68, bOA), (75, bQQ), (76, bQW), (77, bN5), (78, bOW), (79, bN1), (80, bM3), (81, bO4), (82, bQ1), (83, bMj), (84, bNY), (85, bPl), (86, bMT), (87, bNZ), (88, bOI), (89, bPb), (90, bNO), (93, bNr), (94, bOC), (95, bPx), (98, bQs), (99, bMX), (100, bGs), (101, bDU), (102, bH6), (103, bDI), (104, bHF), (105, bFS), (106, bEf), (107, bGH), (108, bE5), (109, bIM), (110, bG5), (111, bHc), (112, bHh), (113, bHM), (114, bDi), (115, bIj), (116, bEX), (117, bHz), (118, bFk), (119, bEp), (120, bGy), (121, bFe), (122, bFQ), (123, bGO), (124, bEc), (125, bIN), (126, bHg), (127, bEv), (128, bGC), (146, bHJ), (147, bFK), (148, bDZ), (149, bEe), (150, bEi), (151, bIx), (152, bEG), (153, bGR), (154, bFW), (155, bGP), (156, bHN), (157, bDO), (159, bE3), (162, bFB), (166, bIS), (167, bHA), (168, bE0), (169, bEk), (170, bD3), (171, bDT), (172, bIE), (173, bHT), (174, bDP), (175, bFE), (176, bGr), (177, bDl), (178, bDk), (179, bDq), (180, bF0), (181, bHl), (207, bGU), (208, bGG), (209, bEP), (212, bF7), (213, bDy), (214, bEd), (215, bGk), (216, bDD), (217, bGw), (218, bFl), (219, bHE), (220, bH4), (221, bFF), (222, bIB), (223, bE4), (224, bDN), (225, bIb), (226, bD4), (232, bHe), (233, bIQ), (234, bIK), (235, bIo), (236, bDK), (237, bIk), (238, bIO), (239, bH9), (240, bGD), (241, bEm), (242, bF1), (243, bHU), (244, bIF), (245, bE7), (247, bFV), (248, bDs)]
theorem bSM : bHK Tryz.prog (oC tS) := bN6 (aC bVT (aC bWm (aC bVm (aC bXx (aC bTn (aC bSV (aC bS9 (aC bTF (aC bSj (aC bSQ (aC bSm (aC bSh (aC bS0 (aC bUm (aC bSb (aC bSg (aC bT2 (aC bRS (aC bRU (aC bSf (aC bRi (aC bT7 (aC bSA (aC bTf (aC bUs (aC bTm (aC bTP (aC bRo (aC bRF (aC bUh (aC bRK (aC bRR (aC bS6 (aC bRP (aC bTL (aC bSz (aC bTC (aC bRz (aC bUk (aC bSX (aC bR1 (aC bTp (aC bRp (aC bRD (aC bT3 (aC bRW (aC bSH (aC bTv (aC bTh (aC bT0 (aC bR4 (aC bSv (aC bTA (aC bSE (aC bRx (aC bRE (aC bRj (aC bTw (aC bTR (aC bT5 (aC bTl (aC bUc (aC bR7 (aC bSP (aC bSJ (aC bTx (aC bUq (aC bTz (aC bTt (aC bTq (aC bSd (aC bTG (aC bSt (aC bSO (aC bRG (aC bTZ (aC bUa (aC bTN (aC bTJ (aC bNc (aC bOK (aC bOU (aC bQA (aC bOf (aC bNS (aC bMv (aC bNX (aC bOj (aC bNU (aC bPD (aC bPj (aC bNv (aC bMk (aC bQi (aC bQC (aC bNE (aC bQt (aC bOr (aC bM8 (aC bMI (aC bOP (aC bMu (aC bOi (aC bMV (aC bNM (aC bNt (aC bPa (aC bMP (aC bPS (aC bOF (aC bQT (aC bNa (aC bOE (aC bNj (aC bQo (aC bPg (aC bQ5 (aC bQv (aC bPc (aC bPi (aC bOd (aC bPu (aC bPI (aC bQ4 (aC bPU (aC bQg (aC bQ6 (aC bQP (aC bPo (aC bOY (aC bNm (aC bOO (aC bNe (aC bOH (aC bMN (aC bM1 (aC bPE (aC bOD (aC bQE (aC bM4 (aC bOZ (aC bPV (aC bQV (aC bQn (aC bO6 (aC bNn (aC bPz (aC bQI (aC bPt (aC bNA (aC bMl (aC bN4 (aC bO1 (aC bMA (aC bMO (aC bP5 (aC bMU (aC bQm (aC bPZ (aC bQS (aC bQZ (aC bPs (aC bNy (aC bPO (aC bNo (aC bP1 (aC bNN (aC bNs (aC bOl (aC bQa (aC bPQ (aC bNx (fun p hp => absurd hp List.not_mem_nil)))))))))))))))))))))))))))))))))))))))))))))))))))))))))))))))))))))))))))))))))))))))))))))))))))))))))))))))))))))))))))))))))))))))))))))))))))))))))))))))))))))))))))))
theorem bJO : (oC tS).get 4 = some ge4 := by kernel_rfl
theorem bKn : (oC tS).get 7 = some ge7 := by kernel_rfl
theorem bJt : (oC tS).get 8 = some ge8 := by kernel_rfl
theorem bLz : (oC tS).get 9 = some ge9 := by kernel_rfl
theorem bIL : (oC tS).get 10 = some bMp := by kernel_rfl
theorem bDA : (oC tS).get 11 = some bOB := by kernel_rfl
theorem bHy : (oC tS).get 12 = some bMF := by kernel_rfl
theorem bH8 : (oC tS).get 13 = some bQ9 := by kernel_rfl
theorem bGN : (oC tS).get 14 = some bNL := by kernel_rfl
theorem bGh : (oC tS).get 15 = some bNP := by kernel_rfl
theorem bED : (oC tS).get 16 = some bP0 := by kernel_rfl
theorem bG2 : (oC tS).get 17 = some bQk := by kernel_rfl
theorem bFc : (oC tS).get 18 = some bPN := by kernel_rfl
theorem bHH : (oC tS).get 19 = some bMw := by kernel_rfl
theorem bGA : (oC tS).get 23 = some bMJ := by kernel_rfl
theorem bGT : (oC tS).get 24 = some bQH := by kernel_rfl
theorem bGb : (oC tS).get 25 = some bPd := by kernel_rfl
theorem bFC : (oC tS).get 26 = some bOy := by kernel_rfl
theorem bER : (oC tS).get 28 = some bME := by kernel_rfl
theorem bD7 : (oC tS).get 30 = some bQ7 := by kernel_rfl
theorem bFO : (oC tS).get 31 = some bOo := by kernel_rfl
theorem bIA : (oC tS).get 32 = some bQq := by kernel_rfl
theorem bFr : (oC tS).get 33 = some bNK := by kernel_rfl
theorem bEj : (oC tS).get 34 = some bMZ := by kernel_rfl
theorem bFw : (oC tS).get 35 = some bNQ := by kernel_rfl
theorem bDp : (oC tS).get 36 = some bMq := by kernel_rfl
theorem bEF : (oC tS).get 37 = some bN3 := by kernel_rfl
theorem bDY : (oC tS).get 38 = some bPX := by kernel_rfl
theorem bIp : (oC tS).get 39 = some bQx := by kernel_rfl
theorem bIJ : (oC tS).get 40 = some bOe := by kernel_rfl
theorem bG1 : (oC tS).get 41 = some bOn := by kernel_rfl
theorem bFj : (oC tS).get 42 = some bQ2 := by kernel_rfl
theorem aXh : (oC tS).get 43 = some bM6 := by kernel_rfl
theorem bFv : (oC tS).get 44 = some bNR := by kernel_rfl
theorem bDu : (oC tS).get 45 = some bMM := by kernel_rfl
theorem bF2 : (oC tS).get 46 = some bPM := by kernel_rfl
theorem bHi : (oC tS).get 47 = some bNw := by kernel_rfl
theorem bF5 : (oC tS).get 48 = some bMK := by kernel_rfl
theorem bFu : (oC tS).get 49 = some bPf := by kernel_rfl
theorem bGE : (oC tS).get 50 = some bOc := by kernel_rfl
theorem bGY : (oC tS).get 51 = some bOk := by kernel_rfl
theorem bIR : (oC tS).get 52 = some bNI := by kernel_rfl
theorem bIt : (oC tS).get 53 = some bOv := by kernel_rfl
theorem bGL : (oC tS).get 54 = some bNq := by kernel_rfl
theorem bG0 : (oC tS).get 55 = some bNl := by kernel_rfl
theorem bFa : (oC tS).get 56 = some bQe := by kernel_rfl
theorem bFo : (oC tS).get 57 = some bNh := by kernel_rfl
theorem bEl : (oC tS).get 58 = some bOg := by kernel_rfl
theorem bIv : (oC tS).get 59 = some bOX := by kernel_rfl
theorem bFU : (oC tS).get 60 = some bMG := by kernel_rfl
theorem bFb : (oC tS).get 61 = some bOb := by kernel_rfl
theorem bDS : (oC tS).get 62 = some bPY := by kernel_rfl
theorem bDJ : (oC tS).get 63 = some bOz := by kernel_rfl
theorem bIl : (oC tS).get 64 = some bPe := by kernel_rfl
theorem aLz : (oC tS).get 65 = some bQ0 := by kernel_rfl
theorem aFP : (oC tS).get 66 = some bNT := by kernel_rfl
theorem bDW : (oC tS).get 67 = some bQL := by kernel_rfl
theorem bGz : (oC tS).get 68 = some bOA := by kernel_rfl
theorem bHP : (oC tS).get 75 = some bQQ := by kernel_rfl
theorem bIw : (oC tS).get 76 = some bQW := by kernel_rfl
theorem bDG : (oC tS).get 77 = some bN5 := by kernel_rfl
theorem bGl : (oC tS).get 78 = some bOW := by kernel_rfl
theorem bDh : (oC tS).get 79 = some bN1 := by kernel_rfl
theorem bDX : (oC tS).get 80 = some bM3 := by kernel_rfl
theorem bIn : (oC tS).get 81 = some bO4 := by kernel_rfl
theorem bEK : (oC tS).get 82 = some bQ1 := by kernel_rfl
theorem bEU : (oC tS).get 83 = some bMj := by kernel_rfl
theorem bHo : (oC tS).get 84 = some bNY := by kernel_rfl
theorem bF3 : (oC tS).get 85 = some bPl := by kernel_rfl
theorem bIX : (oC tS).get 86 = some bMT := by kernel_rfl
theorem bHD : (oC tS).get 87 = some bNZ := by kernel_rfl
theorem bDM : (oC tS).get 88 = some bOI := by kernel_rfl
theorem bGp : (oC tS).get 89 = some bPb := by kernel_rfl
theorem bFx : (oC tS).get 90 = some bNO := by kernel_rfl
theorem bHZ : (oC tS).get 93 = some bNr := by kernel_rfl
theorem bIP : (oC tS).get 94 = some bOC := by kernel_rfl
theorem bDV : (oC tS).get 95 = some bPx := by kernel_rfl
theorem bGv : (oC tS).get 98 = some bQs := by kernel_rfl
theorem bHL : (oC tS).get 99 = some bMX := by kernel_rfl
theorem bCL : (oC tS).get 100 = some bGs := by kernel_rfl
theorem bBM : (oC tS).get 101 = some bDU := by kernel_rfl
theorem bBi : (oC tS).get 102 = some bH6 := by kernel_rfl
theorem bCi : (oC tS).get 103 = some bDI := by kernel_rfl
theorem bBO : (oC tS).get 104 = some bHF := by kernel_rfl
theorem bBo : (oC tS).get 105 = some bFS := by kernel_rfl
theorem bBH : (oC tS).get 106 = some bEf := by kernel_rfl
theorem bBw : (oC tS).get 107 = some bGH := by kernel_rfl
theorem bCj : (oC tS).get 108 = some bE5 := by kernel_rfl
theorem bBf : (oC tS).get 109 = some bIM := by kernel_rfl
theorem bCm : (oC tS).get 110 = some bG5 := by kernel_rfl
theorem aU9 : (oC tS).get 111 = some bHc := by kernel_rfl
theorem bCT : (oC tS).get 112 = some bHh := by kernel_rfl
theorem bBj : (oC tS).get 113 = some bHM := by kernel_rfl
theorem bBI : (oC tS).get 114 = some bDi := by kernel_rfl
theorem bBG : (oC tS).get 115 = some bIj := by kernel_rfl
theorem bCW : (oC tS).get 116 = some bEX := by kernel_rfl
theorem bCK : (oC tS).get 117 = some bHz := by kernel_rfl
theorem bBA : (oC tS).get 118 = some bFk := by kernel_rfl
theorem bAR : (oC tS).get 119 = some bEp := by kernel_rfl
theorem bCc : (oC tS).get 120 = some bGy := by kernel_rfl
theorem bCG : (oC tS).get 121 = some bFe := by kernel_rfl
theorem bCw : (oC tS).get 122 = some bFQ := by kernel_rfl
theorem bCu : (oC tS).get 123 = some bGO := by kernel_rfl
theorem bCU : (oC tS).get 124 = some bEc := by kernel_rfl
theorem bCQ : (oC tS).get 125 = some bIN := by kernel_rfl
theorem bAH : (oC tS).get 126 = some bHg := by kernel_rfl
theorem bCn : (oC tS).get 127 = some bEv := by kernel_rfl
theorem bBP : (oC tS).get 128 = some bGC := by kernel_rfl
theorem bCM : (oC tS).get 146 = some bHJ := by kernel_rfl
theorem bBc : (oC tS).get 147 = some bFK := by kernel_rfl
theorem bCE : (oC tS).get 148 = some bDZ := by kernel_rfl
theorem bBB : (oC tS).get 149 = some bEe := by kernel_rfl
theorem bB2 : (oC tS).get 150 = some bEi := by kernel_rfl
theorem bCB : (oC tS).get 151 = some bIx := by kernel_rfl
theorem bAM : (oC tS).get 152 = some bEG := by kernel_rfl
theorem bC1 : (oC tS).get 153 = some bGR := by kernel_rfl
theorem bC3 : (oC tS).get 154 = some bFW := by kernel_rfl
theorem bCg : (oC tS).get 155 = some bGP := by kernel_rfl
theorem aUw : (oC tS).get 156 = some bHN := by kernel_rfl
theorem bBR : (oC tS).get 157 = some bDO := by kernel_rfl
theorem bBr : (oC tS).get 159 = some bE3 := by kernel_rfl
theorem bBN : (oC tS).get 162 = some bFB := by kernel_rfl
theorem bCV : (oC tS).get 166 = some bIS := by kernel_rfl
theorem bCx : (oC tS).get 167 = some bHA := by kernel_rfl
theorem bCo : (oC tS).get 168 = some bE0 := by kernel_rfl
theorem bA2 : (oC tS).get 169 = some bEk := by kernel_rfl
theorem bCX : (oC tS).get 170 = some bD3 := by kernel_rfl
theorem bBy : (oC tS).get 171 = some bDT := by kernel_rfl
theorem bB6 : (oC tS).get 172 = some bIE := by kernel_rfl
theorem bBv : (oC tS).get 173 = some bHT := by kernel_rfl
theorem bCy : (oC tS).get 174 = some bDP := by kernel_rfl
theorem bBJ : (oC tS).get 175 = some bFE := by kernel_rfl
theorem bBt : (oC tS).get 176 = some bGr := by kernel_rfl
theorem bBk : (oC tS).get 177 = some bDl := by kernel_rfl
theorem bAp : (oC tS).get 178 = some bDk := by kernel_rfl
theorem bAT : (oC tS).get 179 = some bDq := by kernel_rfl
theorem bBD : (oC tS).get 180 = some bF0 := by kernel_rfl
theorem bAY : (oC tS).get 181 = some bHl := by kernel_rfl
theorem bBS : (oC tS).get 207 = some bGU := by kernel_rfl
theorem bBh : (oC tS).get 208 = some bGG := by kernel_rfl
theorem bBQ : (oC tS).get 209 = some bEP := by kernel_rfl
theorem bAC : (oC tS).get 212 = some bF7 := by kernel_rfl
theorem bCD : (oC tS).get 213 = some bDy := by kernel_rfl
theorem bA1 : (oC tS).get 214 = some bEd := by kernel_rfl
theorem bA0 : (oC tS).get 215 = some bGk := by kernel_rfl
theorem aUq : (oC tS).get 216 = some bDD := by kernel_rfl
theorem bAA : (oC tS).get 217 = some bGw := by kernel_rfl
theorem bA7 : (oC tS).get 218 = some bFl := by kernel_rfl
theorem bB3 : (oC tS).get 219 = some bHE := by kernel_rfl
theorem bA8 : (oC tS).get 220 = some bH4 := by kernel_rfl
theorem bBz : (oC tS).get 221 = some bFF := by kernel_rfl
theorem bCz : (oC tS).get 222 = some bIB := by kernel_rfl
theorem bBq : (oC tS).get 223 = some bE4 := by kernel_rfl
theorem bBx : (oC tS).get 224 = some bDN := by kernel_rfl
theorem bAt : (oC tS).get 225 = some bIb := by kernel_rfl
theorem bB5 : (oC tS).get 226 = some bD4 := by kernel_rfl
theorem bCv : (oC tS).get 232 = some bHe := by kernel_rfl
theorem bAG : (oC tS).get 233 = some bIQ := by kernel_rfl
theorem bA9 : (oC tS).get 234 = some bIK := by kernel_rfl
theorem bBZ : (oC tS).get 235 = some bIo := by kernel_rfl
theorem bCe : (oC tS).get 236 = some bDK := by kernel_rfl
theorem bBL : (oC tS).get 237 = some bIk := by kernel_rfl
theorem bB7 : (oC tS).get 238 = some bIO := by kernel_rfl
theorem bAq : (oC tS).get 239 = some bH9 := by kernel_rfl
theorem bA4 : (oC tS).get 240 = some bGD := by kernel_rfl
theorem bAu : (oC tS).get 241 = some bEm := by kernel_rfl
theorem bBm : (oC tS).get 242 = some bF1 := by kernel_rfl
theorem bBE : (oC tS).get 243 = some bHU := by kernel_rfl
theorem bAF : (oC tS).get 244 = some bIF := by kernel_rfl
theorem bC9 : (oC tS).get 245 = some bE7 := by kernel_rfl
theorem bCY : (oC tS).get 247 = some bFV := by kernel_rfl
theorem bBu : (oC tS).get 248 = some bDs := by kernel_rfl
theorem bLD : (oC tS).get 246 = none := by kernel_rfl
theorem bEr : (oC tS).get 158 = none := by kernel_rfl
noncomputable abbrev E (k : Nat) : jO := evF (oC tS) (aHc 246 221 (hIx 158)) K0 k
end Go.Proofs.YtcnpoojdochapaaGreatDoor
