/- The group's filing, walked. -/
import Derived.KernelRfl
import Derived.WalkKit
import Derived.Orders
import Derived.Test.YtcnpoojdochapaaGreatDoorRD7
set_option linter.unusedVariables false
set_option linter.unusedSimpArgs false
set_option maxRecDepth 100000
set_option maxHeartbeats 1000000
namespace Go.Proofs.YtcnpoojdochapaaGreatDoor
open Go.CE Go.RowKit Go.Num
open Go.Eng (oH)
theorem aXs {fs:Sf} {i b ty size:Nat} {cs:List C} {rs:List RR} {vs:List AV} (hp:fs.e i=Ap b) (hm:HA.blk b (.cells ty cs)∈fs.H) (hs:cs.length=size) (t:Xr fs rs vs):Xr fs (.c i true size::rs) (.agg cs::vs):=rc hp hm (by omega) (by rw [List.drop_zero,List.take_of_length_le (by omega)];rfl) t
def PQ (q:Rat):yR:=⟨decide (q.num<0),toL q.num.natAbs,decide ((q.den:Int)<0),toL (q.den:Int).natAbs⟩
def QA (z:dE) (v:AV) (q:Rat):Prop:=∃ c d,v=.agg [.v (.bool (PQ q).n),c,.v (.bool (PQ q).d),d]∧CZ 1 RW z c (PQ q).nm∧CZ 1 RW z d (PQ q).dm
theorem aZU {z0 z:dE} {v:AV} {q:Rat} (h:QV (zd z0 z) v q):QA z v q:=by
 obtain ⟨c,d,h1,h2,h3⟩:=h
 exact ⟨c,d,h1,h2.mono gU,h3.mono gU⟩
theorem sJ {α:Type} {size:Nat} {R:RT α} {z:dE} {c cs:List C} {a:α} {l:List α} (hc:c.length=size) (h:R z c a) (t:CL size R z cs l):CL size R z (c++cs) (a::l):=(CL.one hc h).append t
theorem aS7 {call:jO} {B:sY} {fs:Sf} {l:List I} {Q:Sf→Prop} {α:Type} {size:Nat} {R:RT α} [RMono R] {u:AV} {ty n:Nat} {cs:List C} {r:List α} {p q:List HA} (z1:dE) (e:fs.H=p++.row u ty size n cs::q) (h1:fs.z=z1) (hc:CL size R z1 cs r) (hn:r.length=n) (hm:n≤9223372036854775807)
    (hw:∀ z',zle z1 z'→SZ size R z' u r→FL call B l (fs.frz z' (p++q)) Q):FL call B l fs Q:=fun st rf=>by
  subst h1
  obtain ⟨g1,g2⟩:=rf.hold.h (.row u ty size n cs) (by rw [e];simp)
  rcases g2 with ⟨h0,rfl⟩ | ⟨b,rfl,h3⟩
  · have hr0 : r = [] := List.eq_nil_of_length_eq_zero (by omega)
    subst hr0
    refine hw fs.z (zle.refl _) .nil st ?_
    have hsub:(p++q).Sublist fs.H:=by rw [e];exact (List.Sublist.refl p).append (List.sublist_cons_self _ _)
    exact ⟨rf.env,rf.hold.sub hsub,rf.le,rf.old,fun b hb=>rf.own b ((N8 hsub).subset hb),rf.zle,rf.zin⟩
  · have h1 := rf.frz (p := p) (q := q) (b := b) (k := .cells ty cs) (a := .row (.c (.sl b 0 n size)) ty size n cs) e rfl (fun m hm => by
      obtain ⟨_,hm⟩:=hm
      rcases hm with ⟨_,hm⟩ | ⟨b',hb',hm⟩
      · cases hm
      · injection hb' with hb';injection hb' with hb';subst hb';exact hm)
    exact hw _ ⟨fun _ _ h=>.inl h⟩ ((hc.mono ⟨fun _ _ h=>.inl h⟩).sz hn hm (.inr ⟨rfl,rfl⟩)) st h1
def Wl (q:Rat):Bool:=decide (1000000 % q.den=0) && (decide (0≤q) && decide (q≤1))
def aDF (q:Rat):Bool:=decide (100 % q.den=0) && (decide (q<aPb) && decide (-q<aPb))
def bEN (q:Rat):Bool:=decide (1 % q.den=0) && (decide (0≤q) && decide (q≤40))
theorem aAu (q:Rat):vP (kD (PQ q))=true:=aWY q
theorem Wb (q:Rat):Num.valR (kD (PQ q))=q:=bEM q
theorem aVI (q:Rat) (m:Nat):D6 (kD (PQ q)) m=decide (m % q.den=0):=by rw [D6,aAu,Wb,Bool.true_and]
theorem Ja (q:Rat):fV (kD (PQ q))=Wl q:=by rw [fV,aVI,Wb];rfl
theorem Og (q:Rat):nP (kD (PQ q))=aDF q:=by rw [nP,aVI,Wb];rfl
theorem aDU (q:Rat):zG (kD (PQ q))=bEN q:=by rw [zG,aVI,Wb];rfl
def Wh (q:Rat):Bool:=decide (q.num.natAbs<18446744073709551616) && decide (q.den<18446744073709551616)
theorem Qd {q:Rat} (h:Wh q=true):Sk (PQ q):=by
 simp only [Wh,Bool.and_eq_true,decide_eq_true_eq] at h
 exact ⟨Nat.le_trans (m:=2) (mV.2 h.1) (by decide),Nat.le_trans (m:=2) (mV.2 (by rw [Int.natAbs_natCast];exact h.2)) (by decide)⟩
theorem L9 {α β:Type} {f:α→β} {p:β→Bool} {g:α→Bool} (h:∀ t,p (f t)=g t) {l:List α}:(l.map f).all p=l.all g:=by
 rw [List.all_map]
 congr 1
 funext t
 exact h t
theorem L8 {α β:Type} {f:α→β} {P:β→Prop} {g:α→Bool} (h:∀ t,g t=true→P (f t)) {l:List α} (hl:l.all g=true):∀ a,a∈l.map f→P a:=fun a ha=>by
 obtain ⟨t,ht,rfl⟩:=List.mem_map.1 ha
 exact h t (List.all_eq_true.1 hl t ht)
theorem nV {dv:Int→Int→Rat} (hdv:∀ n d,dv n d=Rat.divInt n d) {k:Nat} (hk:11≤k) {z:dE} {n:Int} (h1 : -9223372036854775808≤n) (h2:n<9223372036854775808):FC (E k) 84 [Ai n] z fun v z'=>QA z' v (dv n 100):=(aXY hk h1 h2).mono fun _ _ _ h=>by rw [hdv];exact aZU h
theorem tG {dv:Int→Int→Rat} (hdv:∀ n d,dv n d=Rat.divInt n d) {k:Nat} (hk:11≤k) {z:dE} {n:Int} (h1 : -9223372036854775808≤n) (h2:n<9223372036854775808):FC (E k) 85 [Ai n] z fun v z'=>QA z' v (dv n 10000):=(aYc hk h1 h2).mono fun _ _ _ h=>by rw [hdv];exact aZU h
theorem bR0 {dv:Int→Int→Rat} (hdv:∀ n d,dv n d=Rat.divInt n d) {k:Nat} (hk:10≤k) {z:dE} {n d:Int} (h1 : -9223372036854775808≤n) (h2:n<9223372036854775808) (h3 : -9223372036854775808≤d) (h4:d<9223372036854775808) (hd:d≠0):FC (E k) 26 [Ai n,Ai d] z fun v z'=>QA z' v (dv n d):=(aND hk h1 h2 h3 h4 hd).mono fun _ _ _ h=>by rw [hdv];exact aZU h
def M6 (t:Rat×Rat):F3:=⟨PQ t.1,PQ t.2⟩
def aT1 (t:Rat×Rat):Bool:=aDF t.1 && Wl t.2
theorem aUd (t:Rat×Rat):Ar (M6 t)=aT1 t:=by simp only [Ar,M6,aT1,Ja,Og,aDU,aAu,Wb,Bool.true_and]<;>rfl
def aJb (t:Rat×Rat):Bool:=Wh t.1 && (Wh t.2)
theorem aUk {t:Rat×Rat} (h:aJb t=true):Jc (M6 t):=by
 simp only [aJb,Bool.and_eq_true,decide_eq_true_eq] at h
 simp only [Jc,M6,Sn]
 obtain ⟨h0,h1⟩:=h
 exact ⟨Qd h0,Qd h1⟩
def aDC (t:ByteArray×ByteArray×Rat):aEb:=⟨t.1,t.2.1,PQ t.2.2⟩
def aZz (t:ByteArray×ByteArray×Rat):Bool:=sP t.1 && (sP t.2.1 && Wl t.2.2)
theorem aJq (t:ByteArray×ByteArray×Rat):Lr (aDC t)=aZz t:=by simp only [Lr,aDC,aZz,Ja,Og,aDU,aAu,Wb,Bool.true_and]<;>rfl
def aMz (t:ByteArray×ByteArray×Rat):Bool:=decide (t.1.data.toList.length≤1000) && (decide (t.2.1.data.toList.length≤1000) && (Wh t.2.2))
theorem aId {t:ByteArray×ByteArray×Rat} (h:aMz t=true):Ud (aDC t):=by
 simp only [aMz,Bool.and_eq_true,decide_eq_true_eq] at h
 simp only [Ud,aDC,Sn]
 obtain ⟨h0,h1,h2⟩:=h
 exact ⟨h0,h1,Qd h2⟩
def aDG (t:ByteArray×ByteArray×Rat):aD4:=⟨t.1,t.2.1,PQ t.2.2⟩
def aZ5 (t:ByteArray×ByteArray×Rat):Bool:=sP t.1 && (sP t.2.1 && aDF t.2.2)
theorem aIX (t:ByteArray×ByteArray×Rat):Lu (aDG t)=aZ5 t:=by simp only [Lu,aDG,aZ5,Ja,Og,aDU,aAu,Wb,Bool.true_and]<;>rfl
def aMH (t:ByteArray×ByteArray×Rat):Bool:=decide (t.1.data.toList.length≤1000) && (decide (t.2.1.data.toList.length≤1000) && (Wh t.2.2))
theorem aKJ {t:ByteArray×ByteArray×Rat} (h:aMH t=true):Tq (aDG t):=by
 simp only [aMH,Bool.and_eq_true,decide_eq_true_eq] at h
 simp only [Tq,aDG,Sn]
 obtain ⟨h0,h1,h2⟩:=h
 exact ⟨h0,h1,Qd h2⟩
def aGg (t:Bool×ByteArray×Int×ByteArray×ByteArray×ByteArray×Rat):aF7:=⟨t.1,t.2.1,t.2.2.1,t.2.2.2.1,t.2.2.2.2.1,t.2.2.2.2.2.1,PQ t.2.2.2.2.2.2⟩
def aZw (t:Bool×ByteArray×Int×ByteArray×ByteArray×ByteArray×Rat):Bool:=sP t.2.1 && (decide (t.2.2.1 ≥ 1) && (decide (t.2.2.1≤4) && (sP t.2.2.2.1 && (sP t.2.2.2.2.1 && (sP t.2.2.2.2.2.1 && aDF t.2.2.2.2.2.2)))))
theorem aTX (t:Bool×ByteArray×Int×ByteArray×ByteArray×ByteArray×Rat):Dm (aGg t)=aZw t:=by simp only [Dm,aGg,aZw,Ja,Og,aDU,aAu,Wb,Bool.true_and]<;>rfl
def aSY (t:Bool×ByteArray×Int×ByteArray×ByteArray×ByteArray×Rat):Bool:=decide (t.2.1.data.toList.length≤1000) && (decide (t.2.2.2.1.data.toList.length≤1000) && (decide (t.2.2.2.2.1.data.toList.length≤1000) && (decide (t.2.2.2.2.2.1.data.toList.length≤1000) && (Wh t.2.2.2.2.2.2))))
theorem aTN {t:Bool×ByteArray×Int×ByteArray×ByteArray×ByteArray×Rat} (h:aSY t=true):aAb (aGg t):=by
 simp only [aSY,Bool.and_eq_true,decide_eq_true_eq] at h
 simp only [aAb,aGg,Sn]
 obtain ⟨h0,h1,h2,h3,h4⟩:=h
 exact ⟨h0,h1,h2,h3,Qd h4⟩
def aE1 (t:ByteArray×Rat×Rat):aA9:=⟨t.1,PQ t.2.1,PQ t.2.2⟩
def aWL (t:ByteArray×Rat×Rat):Bool:=sP t.1 && (aDF t.2.1 && Wl t.2.2)
theorem aWA (t:ByteArray×Rat×Rat):Hw (aE1 t)=aWL t:=by simp only [Hw,aE1,aWL,Ja,Og,aDU,aAu,Wb,Bool.true_and]<;>rfl
def aTi (t:ByteArray×Rat×Rat):Bool:=decide (t.1.data.toList.length≤1000) && (Wh t.2.1 && (Wh t.2.2))
theorem aWS {t:ByteArray×Rat×Rat} (h:aTi t=true):Xb (aE1 t):=by
 simp only [aTi,Bool.and_eq_true,decide_eq_true_eq] at h
 simp only [Xb,aE1,Sn]
 obtain ⟨h0,h1,h2⟩:=h
 exact ⟨h0,Qd h1,Qd h2⟩
def aGt (t:ByteArray×Rat):aF0:=⟨t.1,PQ t.2⟩
def aZT (t:ByteArray×Rat):Bool:=sP t.1 && Wl t.2
theorem aTz (t:ByteArray×Rat):Wc (aGt t)=aZT t:=by simp only [Wc,aGt,aZT,Ja,Og,aDU,aAu,Wb,Bool.true_and]<;>rfl
def aS1 (t:ByteArray×Rat):Bool:=decide (t.1.data.toList.length≤1000) && (Wh t.2)
theorem aTP {t:ByteArray×Rat} (h:aS1 t=true):Yu (aGt t):=by
 simp only [aS1,Bool.and_eq_true,decide_eq_true_eq] at h
 simp only [Yu,aGt,Sn]
 obtain ⟨h0,h1⟩:=h
 exact ⟨h0,Qd h1⟩
def aF8 (t:ByteArray×Int×Rat):V7:=⟨t.1,t.2.1,PQ t.2.2⟩
def aWm (t:ByteArray×Int×Rat):Bool:=sP t.1 && (if t.2.1=4 then Wl t.2.2 else if t.2.1=5 then aDF t.2.2 else if t.2.1=6 then bEN t.2.2 else decide (t.2.1 ≥ 1) && (decide (t.2.1≤11) && decide (t.2.2=0)))
theorem aYo (t:ByteArray×Int×Rat):oW (aF8 t)=aWm t:=by simp only [oW,aF8,aWm,Ja,Og,aDU,aAu,Wb,Bool.true_and]<;>rfl
def aTJ (t:ByteArray×Int×Rat):Bool:=decide (t.1.data.toList.length≤1000) && (Wh t.2.2)
theorem aWU {t:ByteArray×Int×Rat} (h:aTJ t=true):Pv (aF8 t):=by
 simp only [aTJ,Bool.and_eq_true,decide_eq_true_eq] at h
 simp only [Pv,aF8,Sn]
 obtain ⟨h0,h1⟩:=h
 exact ⟨h0,Qd h1⟩
def bG4 (dv:Int→Int→Rat):List (ByteArray×Int×Rat):=[(⟨#[115,97,108,101,115]⟩,1,(dv 0 1)),(⟨#[99,111,115,116]⟩,2,(dv 0 1)),(⟨#[102,114,101,101]⟩,3,(dv 0 1)),(⟨#[109,101,97,108,115]⟩,4,(dv 5000 10000)),(⟨#[103,105,102,116,115]⟩,5,(dv 10000 100)),(⟨#[97,100,115]⟩,6,(dv 2 1)),(⟨#[100,101,112]⟩,7,(dv 0 1)),(⟨#[105,110,116,45,105,110]⟩,8,(dv 0 1)),(⟨#[105,110,116,45,111,117,116]⟩,9,(dv 0 1)),(⟨#[100,105,118]⟩,10,(dv 0 1)),(⟨#[100,105,115,116]⟩,11,(dv 0 1))]
def aXI (dv:Int→Int→Rat):List V7:=(bG4 dv).map aF8
theorem bFN:(aXI Rat.divInt).all oW=true:=by rw [aXI,L9 aYo];kernel_rfl
theorem bDj:∀ a,a∈aXI Rat.divInt→Pv a:=L8 (fun t h=>aWU h) (show (bG4 Rat.divInt).all aTJ=true by kernel_rfl)
abbrev aWI (dv:Int→Int→Rat):=aXI dv
def bUl (dv:Int→Int→Rat):List (Rat×Rat):=[((dv 0 100),(dv 2500 10000))]
def bTO (dv:Int→Int→Rat):List F3:=(bUl dv).map M6
def bSc:List ByteArray:=[⟨#[80]⟩]
def bMh (dv:Int→Int→Rat):List tI:=[⟨2020,[],[],[],[],[]⟩]
def fR (dv:Int→Int→Rat):kM:={ name:=⟨#[83]⟩,parent:=⟨#[80]⟩,brackets:=(bTO dv),threshold:=PQ (dv 7500 10000),cap:=PQ (dv 5000 10000),back:=1,forward:=2,interest:=PQ (dv 3000 10000),floor:=PQ (dv 0 100),keep:=1,classes:=[],entities:=bSc,years:=(bMh dv) }
def bGa (dv:Int→Int→Rat):List (ByteArray×ByteArray×Rat):=[(⟨#[80]⟩,⟨#[65]⟩,(dv 10000 10000)),(⟨#[65]⟩,⟨#[66]⟩,(dv 5000 10000)),(⟨#[80]⟩,⟨#[66]⟩,(dv 3000 10000)),(⟨#[80]⟩,⟨#[67]⟩,(dv 4000 10000)),(⟨#[67]⟩,⟨#[68]⟩,(dv 10000 10000))]
def aXy (dv:Int→Int→Rat):List aEb:=(bGa dv).map aDC
theorem bEJ:(aXy Rat.divInt).all Lr=true:=by rw [aXy,L9 aJq];kernel_rfl
theorem bEq:∀ a,a∈aXy Rat.divInt→Ud a:=L8 (fun t h=>aId h) (show (bGa Rat.divInt).all aMz=true by kernel_rfl)
def bIU (dv:Int→Int→Rat):List (ByteArray×ByteArray×Rat):=[(⟨#[80]⟩,⟨#[115,97,108,101,115]⟩,(dv 100000 100)),(⟨#[80]⟩,⟨#[99,111,115,116]⟩,(dv 40000 100)),(⟨#[80]⟩,⟨#[105,110,116,45,111,117,116]⟩,(dv 20000 100)),(⟨#[65]⟩,⟨#[115,97,108,101,115]⟩,(dv 50000 100)),(⟨#[65]⟩,⟨#[99,111,115,116]⟩,(dv 90000 100)),(⟨#[65]⟩,⟨#[109,101,97,108,115]⟩,(dv 4001 100)),(⟨#[65]⟩,⟨#[97,100,115]⟩,(dv 9000 100)),(⟨#[66]⟩,⟨#[115,97,108,101,115]⟩,(dv 30000 100)),(⟨#[66]⟩,⟨#[100,101,112]⟩,(dv 3000 100)),(⟨#[66]⟩,⟨#[105,110,116,45,105,110]⟩,(dv 2000 100)),(⟨#[67]⟩,⟨#[99,111,115,116]⟩,(dv 25000 100)),(⟨#[67]⟩,⟨#[115,97,108,101,115]⟩,(dv 5000 100)),(⟨#[68]⟩,⟨#[102,114,101,101]⟩,(dv 777 100))]
def aXz (dv:Int→Int→Rat):List aD4:=(bIU dv).map aDG
theorem bFp:(aXz Rat.divInt).all Lu=true:=by rw [aXz,L9 aIX];kernel_rfl
theorem bH3:∀ a,a∈aXz Rat.divInt→Tq a:=L8 (fun t h=>aKJ h) (show (bIU Rat.divInt).all aMH=true by kernel_rfl)
def bD9 (dv:Int→Int→Rat):List (Bool×ByteArray×Int×ByteArray×ByteArray×ByteArray×Rat):=[(true,⟨#[71,49]⟩,1,⟨#[65]⟩,⟨#[80]⟩,⟨#[115,97,108,101,115]⟩,dv 12000 100),(false,⟨#[71,49]⟩,1,⟨#[65]⟩,⟨#[80]⟩,⟨#[99,111,115,116]⟩,dv 12000 100),(true,⟨#[76,49]⟩,3,⟨#[66]⟩,⟨#[80]⟩,⟨#[105,110,116,45,105,110]⟩,dv 2000 100),(false,⟨#[76,49]⟩,3,⟨#[66]⟩,⟨#[80]⟩,⟨#[105,110,116,45,111,117,116]⟩,dv 2000 100)]
def aWE (dv:Int→Int→Rat):List aF7:=(bD9 dv).map aGg
theorem bG3:(aWE Rat.divInt).all Dm=true:=by rw [aWE,L9 aTX];kernel_rfl
theorem bHV:∀ a,a∈aWE Rat.divInt→aAb a:=L8 (fun t h=>aTN h) (show (bD9 Rat.divInt).all aSY=true by kernel_rfl)
def bHI (dv:Int→Int→Rat):List (ByteArray×Rat×Rat):=[(⟨#[71,49]⟩,(dv 3000 100),(dv 5000 10000))]
def aXm (dv:Int→Int→Rat):List aA9:=(bHI dv).map aE1
theorem bEH:(aXm Rat.divInt).all Hw=true:=by rw [aXm,L9 aWA];kernel_rfl
theorem bIm:∀ a,a∈aXm Rat.divInt→Xb a:=L8 (fun t h=>aWS h) (show (bHI Rat.divInt).all aTi=true by kernel_rfl)
def aE2 (dv:Int→Int→Rat):tI:={ number:=2020,holds:=(aXy dv),books:=(aXz dv),deals:=(aWE dv),stocks:=(aXm dv),solds:=[] }
def bD6 (dv:Int→Int→Rat):List (ByteArray×ByteArray×Rat):=[(⟨#[80]⟩,⟨#[65]⟩,(dv 10000 10000)),(⟨#[65]⟩,⟨#[66]⟩,(dv 5000 10000)),(⟨#[80]⟩,⟨#[66]⟩,(dv 3000 10000)),(⟨#[80]⟩,⟨#[67]⟩,(dv 8000 10000)),(⟨#[67]⟩,⟨#[68]⟩,(dv 10000 10000))]
def aWM (dv:Int→Int→Rat):List aEb:=(bD6 dv).map aDC
theorem bDg:(aWM Rat.divInt).all Lr=true:=by rw [aWM,L9 aJq];kernel_rfl
theorem bFt:∀ a,a∈aWM Rat.divInt→Ud a:=L8 (fun t h=>aId h) (show (bD6 Rat.divInt).all aMz=true by kernel_rfl)
def bFz (dv:Int→Int→Rat):List (ByteArray×ByteArray×Rat):=[(⟨#[80]⟩,⟨#[99,111,115,116]⟩,(dv 150000 100)),(⟨#[80]⟩,⟨#[115,97,108,101,115]⟩,(dv 20000 100)),(⟨#[80]⟩,⟨#[100,105,115,116]⟩,(dv 5000 100)),(⟨#[65]⟩,⟨#[100,105,118]⟩,(dv 1000 100)),(⟨#[66]⟩,⟨#[100,105,115,116]⟩,(dv 1000 100)),(⟨#[67]⟩,⟨#[115,97,108,101,115]⟩,(dv 60000 100)),(⟨#[68]⟩,⟨#[103,105,102,116,115]⟩,(dv 25000 100)),(⟨#[68]⟩,⟨#[115,97,108,101,115]⟩,(dv 12345 100))]
def aWy (dv:Int→Int→Rat):List aD4:=(bFz dv).map aDG
theorem bEw:(aWy Rat.divInt).all Lu=true:=by rw [aWy,L9 aIX];kernel_rfl
theorem bHW:∀ a,a∈aWy Rat.divInt→Tq a:=L8 (fun t h=>aKJ h) (show (bFz Rat.divInt).all aMH=true by kernel_rfl)
def bIH (dv:Int→Int→Rat):List (Bool×ByteArray×Int×ByteArray×ByteArray×ByteArray×Rat):=[(true,⟨#[86,49]⟩,4,⟨#[65]⟩,⟨#[66]⟩,⟨#[100,105,118]⟩,dv 1000 100),(false,⟨#[86,49]⟩,4,⟨#[65]⟩,⟨#[66]⟩,⟨#[100,105,115,116]⟩,dv 1000 100),(true,⟨#[83,49]⟩,2,⟨#[67]⟩,⟨#[68]⟩,⟨#[115,97,108,101,115]⟩,dv 5000 100),(false,⟨#[83,49]⟩,2,⟨#[67]⟩,⟨#[68]⟩,⟨#[103,105,102,116,115]⟩,dv 5000 100)]
def aX6 (dv:Int→Int→Rat):List aF7:=(bIH dv).map aGg
theorem bIT:(aX6 Rat.divInt).all Dm=true:=by rw [aX6,L9 aTX];kernel_rfl
theorem bIG:∀ a,a∈aX6 Rat.divInt→aAb a:=L8 (fun t h=>aTN h) (show (bIH Rat.divInt).all aSY=true by kernel_rfl)
def bIu (dv:Int→Int→Rat):List (ByteArray×Rat):=[(⟨#[71,49]⟩,(dv 2500 10000))]
def aWX (dv:Int→Int→Rat):List aF0:=(bIu dv).map aGt
theorem bFf:(aWX Rat.divInt).all Wc=true:=by rw [aWX,L9 aTz];kernel_rfl
theorem bFD:∀ a,a∈aWX Rat.divInt→Yu a:=L8 (fun t h=>aTP h) (show (bIu Rat.divInt).all aS1=true by kernel_rfl)
def Yy (dv:Int→Int→Rat):tI:={ number:=2021,holds:=(aWM dv),books:=(aWy dv),deals:=(aX6 dv),stocks:=[],solds:=(aWX dv) }
def bLY (dv:Int→Int→Rat):List (ByteArray×ByteArray×Rat):=[(⟨#[80]⟩,⟨#[65]⟩,(dv 7400 10000)),(⟨#[80]⟩,⟨#[67]⟩,(dv 8000 10000)),(⟨#[67]⟩,⟨#[68]⟩,(dv 9999 10000))]
def bIr (dv:Int→Int→Rat):List aEb:=(bLY dv).map aDC
theorem bKF:(bIr Rat.divInt).all Lr=true:=by rw [bIr,L9 aJq];kernel_rfl
theorem bLd:∀ a,a∈bIr Rat.divInt→Ud a:=L8 (fun t h=>aId h) (show (bLY Rat.divInt).all aMz=true by kernel_rfl)
def bEt (dv:Int→Int→Rat):List (ByteArray×ByteArray×Rat):=[(⟨#[80]⟩,⟨#[115,97,108,101,115]⟩,(dv 300000 100)),(⟨#[80]⟩,⟨#[105,110,116,45,111,117,116]⟩,(dv 9000 100)),(⟨#[65]⟩,⟨#[115,97,108,101,115]⟩,(dv 10000 100)),(⟨#[67]⟩,⟨#[115,97,108,101,115]⟩,(dv 70001 100)),(⟨#[68]⟩,⟨#[99,111,115,116]⟩,(dv 8000 100)),(⟨#[68]⟩,⟨#[109,101,97,108,115]⟩,(dv (-100) 100))]
def aXj (dv:Int→Int→Rat):List aD4:=(bEt dv).map aDG
theorem bHa:(aXj Rat.divInt).all Lu=true:=by rw [aXj,L9 aIX];kernel_rfl
theorem bIV:∀ a,a∈aXj Rat.divInt→Tq a:=L8 (fun t h=>aKJ h) (show (bEt Rat.divInt).all aMH=true by kernel_rfl)
def bIc (dv:Int→Int→Rat):List (ByteArray×Rat):=[(⟨#[71,49]⟩,(dv 7500 10000))]
def aW5 (dv:Int→Int→Rat):List aF0:=(bIc dv).map aGt
theorem bEn:(aW5 Rat.divInt).all Wc=true:=by rw [aW5,L9 aTz];kernel_rfl
theorem bFn:∀ a,a∈aW5 Rat.divInt→Yu a:=L8 (fun t h=>aTP h) (show (bIc Rat.divInt).all aS1=true by kernel_rfl)
def aEX (dv:Int→Int→Rat):tI:={ number:=2022,holds:=(bIr dv),books:=(aXj dv),deals:=[],stocks:=[],solds:=(aW5 dv) }
def bGV (dv:Int→Int→Rat):List (Rat×Rat):=[((dv 0 100),(dv 1000 10000)),((dv 100000 100),(dv 2550 10000))]
def aXV (dv:Int→Int→Rat):List F3:=(bGV dv).map M6
theorem bEZ:(aXV Rat.divInt).all Ar=true:=by rw [aXV,L9 aUd];kernel_rfl
theorem bID:∀ a,a∈aXV Rat.divInt→Jc a:=L8 (fun t h=>aUk h) (show (bGV Rat.divInt).all aJb=true by kernel_rfl)
def bLZ:List ByteArray:=[⟨#[80]⟩,⟨#[68]⟩,⟨#[65]⟩,⟨#[66]⟩,⟨#[67]⟩]
def bLU (dv:Int→Int→Rat):List tI:=[(aE2 dv),(Yy dv),(aEX dv)]
def aYO (dv:Int→Int→Rat):kM:={ name:=⟨#[71,114,111,117,112]⟩,parent:=(fR dv).parent,brackets:=(aXV dv),threshold:=(fR dv).threshold,cap:=PQ (dv 6000 10000),back:=(fR dv).back,forward:=3,interest:=(fR dv).interest,floor:=PQ (dv 5000 100),keep:=2,classes:=(aWI dv),entities:=bLZ,years:=(bLU dv) }
theorem aDW {dv:Int→Int→Rat} (hdv:∀ n d,dv n d=Rat.divInt n d) {k:Nat} (hk:12≤k) {z:dE} {id pe pr ci co:ByteArray} {kd n:Int} (h1 : -9223372036854775808≤n) (h2:n<9223372036854775808):FCt (E k) 157 [.c (.v (.string id)),.c (.v (.int .u8 kd)),.c (.v (.string pe)),.c (.v (.string pr)),.c (.v (.string ci)),.c (.v (.string co)),.c (.v (.int .i64 n))] z [] fun v z' H'=>∃ c cs,v=.c c∧H'=[.row (.c c) 176 10 2 cs]∧CL 10 Ez z' cs [⟨true,id,kd,pe,pr,ci,PQ (dv n 100)⟩,⟨false,id,kd,pe,pr,co,PQ (dv n 100)⟩]:=by
 refine aQo (bBR) (by omega) (aU O) fun B j hj=>?_
 refine R4 512 O ?_
 refine lZ z (nV hdv (n:=n) (by omega) h1 h2) O O fun v21 z21 _ ⟨c21,d21,hv21,m21,n21⟩=>?_
 subst hv21
 refine iU (cs:=[Cb true,Cs id,Cu kd,Cs pe,Cs pr,Cs ci,.v (.bool (PQ (dv n 100)).n),c21,.v (.bool (PQ (dv n 100)).d),d21]) (by kernel_rfl) ?_
 refine R1 64 O ?_
 refine lZ z21 (nV hdv (n:=n) (by omega) h1 h2) O O fun v29 z29 _ ⟨c29,d29,hv29,m29,n29⟩=>?_
 subst hv29
 refine iU (cs:=[Cb false,Cs id,Cu kd,Cs pe,Cs pr,Cs co,.v (.bool (PQ (dv n 100)).n),c29,.v (.bool (PQ (dv n 100)).d),d29]) (by kernel_rfl) ?_
 refine kO (cs:=[Cb true,Cs id,Cu kd,Cs pe,Cs pr,Cs ci,.v (.bool (PQ (dv n 100)).n),c21,.v (.bool (PQ (dv n 100)).d),d21,Cb false,Cs id,Cu kd,Cs pe,Cs pr,Cs co,.v (.bool (PQ (dv n 100)).n),c29,.v (.bool (PQ (dv n 100)).d),d29]) O fun b31=>?_
 refine aBB (n:=2) (size:=10) (p:=[]) O O ?_
 have k31:CL 10 Ez z29 _ [⟨true,id,kd,pe,pr,ci,PQ (dv n 100)⟩,⟨false,id,kd,pe,pr,co,PQ (dv n 100)⟩]:=sJ rfl (aVl (a:=⟨true,id,kd,pe,pr,ci,PQ (dv n 100)⟩) m21.m n21.m) (sJ rfl (aVl (a:=⟨false,id,kd,pe,pr,co,PQ (dv n 100)⟩) m29 n29) (CL.nil))
 refine R0 2 O (xT (aSM (.inl O) (rt O rn) (List.Sublist.refl _) ?_))
 exact ⟨_,_,rfl,rfl,k31⟩
theorem aUl {dv:Int→Int→Rat} (hdv:∀ n d,dv n d=Rat.divInt n d) {k:Nat} (hk:12≤k) {z:dE}  : FC (E k) 86 [] z fun v z'=>∃ c,v=.c c∧CZ 6 xP z' c (aWI dv):=by
 refine cX (bIX) (by omega) (aU O) fun B j hj=>?_
 refine R4 8 O ?_
 refine lZ z (bR0 hdv (n:=0) (d:=1) (by omega) (by decide) (by decide) (by decide) (by decide) (by decide)) O O fun v2 z2 _ ⟨c2,d2,hv2,m2,n2⟩=>?_
 subst hv2
 refine vO fun b1=>?_
 refine mG (cs':=[.v (.bool (PQ (dv 0 1)).n),c2,.v (.bool (PQ (dv 0 1)).d),d2]) O O O iP O O (Nat.le_of_ble_eq_true O) (lN (gX (Qr O O Ht O (gP O O F ?_))))
 refine iU (cs:=[Cs ⟨#[115,97,108,101,115]⟩,Cu 1,.v (.bool (PQ (dv 0 1)).n),c2,.v (.bool (PQ (dv 0 1)).d),d2]) O (lN ?_)
 refine Qr O O Ht O (gP O O F ?_)
 refine iU (cs:=[Cs ⟨#[99,111,115,116]⟩,Cu 2,.v (.bool (PQ (dv 0 1)).n),c2,.v (.bool (PQ (dv 0 1)).d),d2]) O (lN ?_)
 refine Qr O O Ht O (gP O O F ?_)
 refine iU (cs:=[Cs ⟨#[102,114,101,101]⟩,Cu 3,.v (.bool (PQ (dv 0 1)).n),c2,.v (.bool (PQ (dv 0 1)).d),d2]) O (lN ?_)
 refine gC z2 (tG hdv (n:=5000) (by omega) (by decide) (by decide)) O O O O fun v9 z9 _ ⟨c9,d9,hv9,m9,n9⟩=>?_
 subst hv9
 refine gP O O F ?_
 refine iU (cs:=[Cs ⟨#[109,101,97,108,115]⟩,Cu 4,.v (.bool (PQ (dv 5000 10000)).n),c9,.v (.bool (PQ (dv 5000 10000)).d),d9]) O (lN ?_)
 refine gC z9 (nV hdv (n:=10000) (by omega) (by decide) (by decide)) O O O O fun v11 z11 _ ⟨c11,d11,hv11,m11,n11⟩=>?_
 subst hv11
 refine gP O O F ?_
 refine iU (cs:=[Cs ⟨#[103,105,102,116,115]⟩,Cu 5,.v (.bool (PQ (dv 10000 100)).n),c11,.v (.bool (PQ (dv 10000 100)).d),d11]) O (lN ?_)
 refine gC z11 (bR0 hdv (n:=2) (d:=1) (by omega) (by decide) (by decide) (by decide) (by decide) (by decide)) O O O O fun v13 z13 _ ⟨c13,d13,hv13,m13,n13⟩=>?_
 subst hv13
 refine gP O O F ?_
 refine iU (cs:=[Cs ⟨#[97,100,115]⟩,Cu 6,.v (.bool (PQ (dv 2 1)).n),c13,.v (.bool (PQ (dv 2 1)).d),d13]) O (lN ?_)
 refine Qr O O Ht O (gP O O F ?_)
 refine iU (cs:=[Cs ⟨#[100,101,112]⟩,Cu 7,.v (.bool (PQ (dv 0 1)).n),c2,.v (.bool (PQ (dv 0 1)).d),d2]) O (lN ?_)
 refine Qr O O Ht O (gP O O F ?_)
 refine iU (cs:=[Cs ⟨#[105,110,116,45,105,110]⟩,Cu 8,.v (.bool (PQ (dv 0 1)).n),c2,.v (.bool (PQ (dv 0 1)).d),d2]) O (lN ?_)
 refine Qr O O Ht O (gP O O F ?_)
 refine iU (cs:=[Cs ⟨#[105,110,116,45,111,117,116]⟩,Cu 9,.v (.bool (PQ (dv 0 1)).n),c2,.v (.bool (PQ (dv 0 1)).d),d2]) O (lN ?_)
 refine Qr O O Ht O (gP O O F ?_)
 refine iU (cs:=[Cs ⟨#[100,105,118]⟩,Cu 10,.v (.bool (PQ (dv 0 1)).n),c2,.v (.bool (PQ (dv 0 1)).d),d2]) O (lN ?_)
 refine Qr O O Ht O (gP O O F ?_)
 refine iU (cs:=[Cs ⟨#[100,105,115,116]⟩,Cu 11,.v (.bool (PQ (dv 0 1)).n),c2,.v (.bool (PQ (dv 0 1)).d),d2]) O (lN ?_)
 refine qT (k:=.cells 102 [Cs ⟨#[115,97,108,101,115]⟩,Cu 1,.v (.bool (PQ (dv 0 1)).n),c2,.v (.bool (PQ (dv 0 1)).d),d2,Cs ⟨#[99,111,115,116]⟩,Cu 2,.v (.bool (PQ (dv 0 1)).n),c2,.v (.bool (PQ (dv 0 1)).d),d2,Cs ⟨#[102,114,101,101]⟩,Cu 3,.v (.bool (PQ (dv 0 1)).n),c2,.v (.bool (PQ (dv 0 1)).d),d2,Cs ⟨#[109,101,97,108,115]⟩,Cu 4,.v (.bool (PQ (dv 5000 10000)).n),c9,.v (.bool (PQ (dv 5000 10000)).d),d9,Cs ⟨#[103,105,102,116,115]⟩,Cu 5,.v (.bool (PQ (dv 10000 100)).n),c11,.v (.bool (PQ (dv 10000 100)).d),d11,Cs ⟨#[97,100,115]⟩,Cu 6,.v (.bool (PQ (dv 2 1)).n),c13,.v (.bool (PQ (dv 2 1)).d),d13,Cs ⟨#[100,101,112]⟩,Cu 7,.v (.bool (PQ (dv 0 1)).n),c2,.v (.bool (PQ (dv 0 1)).d),d2,Cs ⟨#[105,110,116,45,105,110]⟩,Cu 8,.v (.bool (PQ (dv 0 1)).n),c2,.v (.bool (PQ (dv 0 1)).d),d2,Cs ⟨#[105,110,116,45,111,117,116]⟩,Cu 9,.v (.bool (PQ (dv 0 1)).n),c2,.v (.bool (PQ (dv 0 1)).d),d2,Cs ⟨#[100,105,118]⟩,Cu 10,.v (.bool (PQ (dv 0 1)).n),c2,.v (.bool (PQ (dv 0 1)).d),d2,Cs ⟨#[100,105,115,116]⟩,Cu 11,.v (.bool (PQ (dv 0 1)).n),c2,.v (.bool (PQ (dv 0 1)).d),d2]) (w:=fun b=>.c (.sl b 0 11 6)) rfl F rfl (fun _=>rfl) (fun st hst=>?_) (fun b25 hT25=>?_)
 ·simp only [eE,uZ,AS.ev,hst 4 (by simp [jM.sl,Od.sls,Od.sl]),hst 6 (by simp [jM.sl,Od.sls,Od.sl]),hst 8 (by simp [jM.sl,Od.sls,Od.sl]),hst 10 (by simp [jM.sl,Od.sls,Od.sl]),hst 12 (by simp [jM.sl,Od.sls,Od.sl]),hst 14 (by simp [jM.sl,Od.sls,Od.sl]),hst 16 (by simp [jM.sl,Od.sls,Od.sl]),hst 18 (by simp [jM.sl,Od.sls,Od.sl]),hst 20 (by simp [jM.sl,Od.sls,Od.sl]),hst 22 (by simp [jM.sl,Od.sls,Od.sl]),hst 24 (by simp [jM.sl,Od.sls,Od.sl])];kernel_rfl
 refine zW z13 (p:=[]) O O O (fun _ h=>h) fun zfg25 _ g25=>?_
 have r25:SZ 6 xP zfg25 (.c (.sl b25 0 11 6)) (aXI dv):=CL.sz (sJ rfl (C9 (a:=⟨⟨#[115,97,108,101,115]⟩,1,PQ (dv 0 1)⟩) m2.m n2.m) (sJ rfl (C9 (a:=⟨⟨#[99,111,115,116]⟩,2,PQ (dv 0 1)⟩) m2.m n2.m) (sJ rfl (C9 (a:=⟨⟨#[102,114,101,101]⟩,3,PQ (dv 0 1)⟩) m2.m n2.m) (sJ rfl (C9 (a:=⟨⟨#[109,101,97,108,115]⟩,4,PQ (dv 5000 10000)⟩) m9.m n9.m) (sJ rfl (C9 (a:=⟨⟨#[103,105,102,116,115]⟩,5,PQ (dv 10000 100)⟩) m11.m n11.m) (sJ rfl (C9 (a:=⟨⟨#[97,100,115]⟩,6,PQ (dv 2 1)⟩) m13.m n13.m) (sJ rfl (C9 (a:=⟨⟨#[100,101,112]⟩,7,PQ (dv 0 1)⟩) m2.m n2.m) (sJ rfl (C9 (a:=⟨⟨#[105,110,116,45,105,110]⟩,8,PQ (dv 0 1)⟩) m2.m n2.m) (sJ rfl (C9 (a:=⟨⟨#[105,110,116,45,111,117,116]⟩,9,PQ (dv 0 1)⟩) m2.m n2.m) (sJ rfl (C9 (a:=⟨⟨#[100,105,118]⟩,10,PQ (dv 0 1)⟩) m2.m n2.m) (sJ rfl (C9 (a:=⟨⟨#[100,105,115,116]⟩,11,PQ (dv 0 1)⟩) m2.m n2.m) (CL.nil)))))))))))) rfl (by decide) g25
 refine G0 2 O (xT ?_)
 exact rI O ⟨_,rfl,r25⟩
theorem aXl {dv:Int→Int→Rat} (hdv:∀ n d,dv n d=Rat.divInt n d) {k:Nat} (hk:12≤k) {z:dE}  : FC (E k) 83 [] z fun v z'=>∃ cs,v=.agg cs∧J8 z' cs (fR dv):=by
 refine cX (bEU) (by omega) (aU O) fun B j hj=>?_
 refine xR ?_
 refine mR fun b0=>?_
 refine lN (xR ?_)
 refine lZ z (nV hdv (n:=0) (by omega) (by decide) (by decide)) O O fun v1 z1 _ ⟨c1,d1,hv1,m1,n1⟩=>?_
 subst hv1
 refine lZ z1 (tG hdv (n:=2500) (by omega) (by decide) (by decide)) O O fun v2 z2 _ ⟨c2,d2,hv2,m2,n2⟩=>?_
 subst hv2
 refine iU (cs:=[.v (.bool (PQ (dv 0 100)).n),c1,.v (.bool (PQ (dv 0 100)).d),d1,.v (.bool (PQ (dv 2500 10000)).n),c2,.v (.bool (PQ (dv 2500 10000)).d),d2]) O ?_
 refine kO (cs:=[.v (.bool (PQ (dv 0 100)).n),c1,.v (.bool (PQ (dv 0 100)).d),d1,.v (.bool (PQ (dv 2500 10000)).n),c2,.v (.bool (PQ (dv 2500 10000)).d),d2]) O fun b4=>?_
 refine uT z2 (p:=[]) O O O (fun _ h=>h) fun zfg4 _ g4=>?_
 have r4:SZ 8 pS zfg4 (.c (.sl b4 0 1 8)) (bTO dv):=CL.sz (sJ rfl (aDq (a:=⟨PQ (dv 0 100),PQ (dv 2500 10000)⟩) m1.m n1.m m2.m n2.m) (CL.nil)) rfl (by decide) g4
 refine lZ zfg4 (tG hdv (n:=7500) (by omega) (by decide) (by decide)) O O fun v5 z5 _ ⟨c5,d5,hv5,m5,n5⟩=>?_
 subst hv5
 refine lZ z5 (tG hdv (n:=5000) (by omega) (by decide) (by decide)) O O fun v6 z6 _ ⟨c6,d6,hv6,m6,n6⟩=>?_
 subst hv6
 refine lZ z6 (tG hdv (n:=3000) (by omega) (by decide) (by decide)) O O fun v7 z7 _ ⟨c7,d7,hv7,m7,n7⟩=>?_
 subst hv7
 refine lZ z7 (nV hdv (n:=0) (by omega) (by decide) (by decide)) O O fun v8 z8 _ ⟨c8,d8,hv8,m8,n8⟩=>?_
 subst hv8
 refine kO (cs:=(cE Value.string [⟨#[80]⟩])) O fun b9=>?_
 refine uT z8 (p:=[]) O O O (fun _ h=>h) fun zfg9 _ g9=>?_
 have r9:SZ 1 RS zfg9 (Aw b9 1) bSc:=Ls.sz rfl (by decide) g9
 refine iU (cs:=[Ci 2020,Cz,Cz,Cz,Cz,Cz]) O ?_
 refine kO (cs:=[Ci 2020,Cz,Cz,Cz,Cz,Cz]) O fun b11=>?_
 refine uT zfg9 (p:=[]) O O O (fun _ h=>h) fun zfg11 _ g11=>?_
 have r11:SZ 6 Ak zfg11 (.c (.sl b11 0 1 6)) (bMh dv):=CL.sz (sJ rfl (Ou (a:=⟨2020,[],[],[],[],[]⟩) .nil .nil .nil .nil .nil) (CL.nil)) rfl (by decide) g11
 refine iU (cs:=[Cs ⟨#[83]⟩,Cs ⟨#[80]⟩,.sl b4 0 1 8,.v (.bool (PQ (dv 7500 10000)).n),c5,.v (.bool (PQ (dv 7500 10000)).d),d5,.v (.bool (PQ (dv 5000 10000)).n),c6,.v (.bool (PQ (dv 5000 10000)).d),d6,Ci 1,Ci 2,.v (.bool (PQ (dv 3000 10000)).n),c7,.v (.bool (PQ (dv 3000 10000)).d),d7,.v (.bool (PQ (dv 0 100)).n),c8,.v (.bool (PQ (dv 0 100)).d),d8,Ci 1,Cz,.sl b9 0 1 1,.sl b11 0 1 6]) (by kernel_rfl) ?_
 refine mG (cs':=[Cs ⟨#[83]⟩,Cs ⟨#[80]⟩,.sl b4 0 1 8,.v (.bool (PQ (dv 7500 10000)).n),c5,.v (.bool (PQ (dv 7500 10000)).d),d5,.v (.bool (PQ (dv 5000 10000)).n),c6,.v (.bool (PQ (dv 5000 10000)).d),d6,Ci 1,Ci 2,.v (.bool (PQ (dv 3000 10000)).n),c7,.v (.bool (PQ (dv 3000 10000)).d),d7,.v (.bool (PQ (dv 0 100)).n),c8,.v (.bool (PQ (dv 0 100)).d),d8,Ci 1,Cz,.sl b9 0 1 1,.sl b11 0 1 6]) O O O iP O O (Nat.le_of_ble_eq_true O) ?_
 refine lN (xT (rQ (.inl O) (aXs O mem0 O rn) ?_))
 exact ⟨_,rfl,Ju (a:=fR dv) r4.m m5.m n5.m m6.m n6.m m7.m n7.m m8.m n8.m .nil r9.m r11⟩
theorem aXE {dv:Int→Int→Rat} (hdv:∀ n d,dv n d=Rat.divInt n d) {k:Nat} (hk:13≤k) {z:dE}  : FC (E k) 87 [] z fun v z'=>∃ cs,v=.agg cs∧Ak z' cs (aE2 dv):=by
 refine cX (bHD) (by omega) (aU O) fun B j hj=>?_
 refine xR ?_
 refine mR fun b0=>?_
 refine lN (xR (iU (cs:=[Ci 2020,Cz,Cz,Cz,Cz,Cz]) O ?_))
 refine mR fun b1=>?_
 refine mG (cs':=[Ci 2020,Cz,Cz,Cz,Cz,Cz]) O O O iP O O (Nat.le_of_ble_eq_true O) (lN (xR ?_))
 refine lZ z (tG hdv (n:=10000) (by omega) (by decide) (by decide)) O O fun v3 z3 _ ⟨c3,d3,hv3,m3,n3⟩=>?_
 subst hv3
 refine iU (cs:=[Cs ⟨#[80]⟩,Cs ⟨#[65]⟩,.v (.bool (PQ (dv 10000 10000)).n),c3,.v (.bool (PQ (dv 10000 10000)).d),d3]) O ?_
 refine lZ z3 (tG hdv (n:=5000) (by omega) (by decide) (by decide)) O O fun v5 z5 _ ⟨c5,d5,hv5,m5,n5⟩=>?_
 subst hv5
 refine iU (cs:=[Cs ⟨#[65]⟩,Cs ⟨#[66]⟩,.v (.bool (PQ (dv 5000 10000)).n),c5,.v (.bool (PQ (dv 5000 10000)).d),d5]) O ?_
 refine lZ z5 (tG hdv (n:=3000) (by omega) (by decide) (by decide)) O O fun v7 z7 _ ⟨c7,d7,hv7,m7,n7⟩=>?_
 subst hv7
 refine iU (cs:=[Cs ⟨#[80]⟩,Cs ⟨#[66]⟩,.v (.bool (PQ (dv 3000 10000)).n),c7,.v (.bool (PQ (dv 3000 10000)).d),d7]) O ?_
 refine lZ z7 (tG hdv (n:=4000) (by omega) (by decide) (by decide)) O O fun v9 z9 _ ⟨c9,d9,hv9,m9,n9⟩=>?_
 subst hv9
 refine iU (cs:=[Cs ⟨#[80]⟩,Cs ⟨#[67]⟩,.v (.bool (PQ (dv 4000 10000)).n),c9,.v (.bool (PQ (dv 4000 10000)).d),d9]) O ?_
 refine lZ z9 (tG hdv (n:=10000) (by omega) (by decide) (by decide)) O O fun v11 z11 _ ⟨c11,d11,hv11,m11,n11⟩=>?_
 subst hv11
 refine iU (cs:=[Cs ⟨#[67]⟩,Cs ⟨#[68]⟩,.v (.bool (PQ (dv 10000 10000)).n),c11,.v (.bool (PQ (dv 10000 10000)).d),d11]) O ?_
 refine kO (cs:=[Cs ⟨#[80]⟩,Cs ⟨#[65]⟩,.v (.bool (PQ (dv 10000 10000)).n),c3,.v (.bool (PQ (dv 10000 10000)).d),d3,Cs ⟨#[65]⟩,Cs ⟨#[66]⟩,.v (.bool (PQ (dv 5000 10000)).n),c5,.v (.bool (PQ (dv 5000 10000)).d),d5,Cs ⟨#[80]⟩,Cs ⟨#[66]⟩,.v (.bool (PQ (dv 3000 10000)).n),c7,.v (.bool (PQ (dv 3000 10000)).d),d7,Cs ⟨#[80]⟩,Cs ⟨#[67]⟩,.v (.bool (PQ (dv 4000 10000)).n),c9,.v (.bool (PQ (dv 4000 10000)).d),d9,Cs ⟨#[67]⟩,Cs ⟨#[68]⟩,.v (.bool (PQ (dv 10000 10000)).n),c11,.v (.bool (PQ (dv 10000 10000)).d),d11]) O fun b13=>?_
 refine uT z11 (p:=[]) O O O (fun _ h=>h) fun zfg13 _ g13=>?_
 have r13:SZ 6 Hh zfg13 (.c (.sl b13 0 5 6)) (aXy dv):=CL.sz (sJ rfl (Ei (a:=⟨⟨#[80]⟩,⟨#[65]⟩,PQ (dv 10000 10000)⟩) m3.m n3.m) (sJ rfl (Ei (a:=⟨⟨#[65]⟩,⟨#[66]⟩,PQ (dv 5000 10000)⟩) m5.m n5.m) (sJ rfl (Ei (a:=⟨⟨#[80]⟩,⟨#[66]⟩,PQ (dv 3000 10000)⟩) m7.m n7.m) (sJ rfl (Ei (a:=⟨⟨#[80]⟩,⟨#[67]⟩,PQ (dv 4000 10000)⟩) m9.m n9.m) (sJ rfl (Ei (a:=⟨⟨#[67]⟩,⟨#[68]⟩,PQ (dv 10000 10000)⟩) m11.m n11.m) (CL.nil)))))) rfl (by decide) g13
 refine lF O (mG (cs':=[Ci 2020,.sl b13 0 5 6,Cz,Cz,Cz,Cz]) O O O iP O O (Nat.le_of_ble_eq_true O) (lN (xR ?_)))
 refine lZ zfg13 (nV hdv (n:=100000) (by omega) (by decide) (by decide)) O O fun v15 z15 _ ⟨c15,d15,hv15,m15,n15⟩=>?_
 subst hv15
 refine iU (cs:=[Cs ⟨#[80]⟩,Cs ⟨#[115,97,108,101,115]⟩,.v (.bool (PQ (dv 100000 100)).n),c15,.v (.bool (PQ (dv 100000 100)).d),d15]) O ?_
 refine lZ z15 (nV hdv (n:=40000) (by omega) (by decide) (by decide)) O O fun v17 z17 _ ⟨c17,d17,hv17,m17,n17⟩=>?_
 subst hv17
 refine iU (cs:=[Cs ⟨#[80]⟩,Cs ⟨#[99,111,115,116]⟩,.v (.bool (PQ (dv 40000 100)).n),c17,.v (.bool (PQ (dv 40000 100)).d),d17]) O ?_
 refine lZ z17 (nV hdv (n:=20000) (by omega) (by decide) (by decide)) O O fun v19 z19 _ ⟨c19,d19,hv19,m19,n19⟩=>?_
 subst hv19
 refine iU (cs:=[Cs ⟨#[80]⟩,Cs ⟨#[105,110,116,45,111,117,116]⟩,.v (.bool (PQ (dv 20000 100)).n),c19,.v (.bool (PQ (dv 20000 100)).d),d19]) O ?_
 refine lZ z19 (nV hdv (n:=50000) (by omega) (by decide) (by decide)) O O fun v21 z21 _ ⟨c21,d21,hv21,m21,n21⟩=>?_
 subst hv21
 refine iU (cs:=[Cs ⟨#[65]⟩,Cs ⟨#[115,97,108,101,115]⟩,.v (.bool (PQ (dv 50000 100)).n),c21,.v (.bool (PQ (dv 50000 100)).d),d21]) O ?_
 refine lZ z21 (nV hdv (n:=90000) (by omega) (by decide) (by decide)) O O fun v23 z23 _ ⟨c23,d23,hv23,m23,n23⟩=>?_
 subst hv23
 refine iU (cs:=[Cs ⟨#[65]⟩,Cs ⟨#[99,111,115,116]⟩,.v (.bool (PQ (dv 90000 100)).n),c23,.v (.bool (PQ (dv 90000 100)).d),d23]) O ?_
 refine lZ z23 (nV hdv (n:=4001) (by omega) (by decide) (by decide)) O O fun v25 z25 _ ⟨c25,d25,hv25,m25,n25⟩=>?_
 subst hv25
 refine iU (cs:=[Cs ⟨#[65]⟩,Cs ⟨#[109,101,97,108,115]⟩,.v (.bool (PQ (dv 4001 100)).n),c25,.v (.bool (PQ (dv 4001 100)).d),d25]) O ?_
 refine lZ z25 (nV hdv (n:=9000) (by omega) (by decide) (by decide)) O O fun v27 z27 _ ⟨c27,d27,hv27,m27,n27⟩=>?_
 subst hv27
 refine iU (cs:=[Cs ⟨#[65]⟩,Cs ⟨#[97,100,115]⟩,.v (.bool (PQ (dv 9000 100)).n),c27,.v (.bool (PQ (dv 9000 100)).d),d27]) O ?_
 refine lZ z27 (nV hdv (n:=30000) (by omega) (by decide) (by decide)) O O fun v29 z29 _ ⟨c29,d29,hv29,m29,n29⟩=>?_
 subst hv29
 refine iU (cs:=[Cs ⟨#[66]⟩,Cs ⟨#[115,97,108,101,115]⟩,.v (.bool (PQ (dv 30000 100)).n),c29,.v (.bool (PQ (dv 30000 100)).d),d29]) O ?_
 refine lZ z29 (nV hdv (n:=3000) (by omega) (by decide) (by decide)) O O fun v31 z31 _ ⟨c31,d31,hv31,m31,n31⟩=>?_
 subst hv31
 refine iU (cs:=[Cs ⟨#[66]⟩,Cs ⟨#[100,101,112]⟩,.v (.bool (PQ (dv 3000 100)).n),c31,.v (.bool (PQ (dv 3000 100)).d),d31]) O ?_
 refine lZ z31 (nV hdv (n:=2000) (by omega) (by decide) (by decide)) O O fun v33 z33 _ ⟨c33,d33,hv33,m33,n33⟩=>?_
 subst hv33
 refine iU (cs:=[Cs ⟨#[66]⟩,Cs ⟨#[105,110,116,45,105,110]⟩,.v (.bool (PQ (dv 2000 100)).n),c33,.v (.bool (PQ (dv 2000 100)).d),d33]) O ?_
 refine lZ z33 (nV hdv (n:=25000) (by omega) (by decide) (by decide)) O O fun v35 z35 _ ⟨c35,d35,hv35,m35,n35⟩=>?_
 subst hv35
 refine iU (cs:=[Cs ⟨#[67]⟩,Cs ⟨#[99,111,115,116]⟩,.v (.bool (PQ (dv 25000 100)).n),c35,.v (.bool (PQ (dv 25000 100)).d),d35]) O ?_
 refine lZ z35 (nV hdv (n:=5000) (by omega) (by decide) (by decide)) O O fun v37 z37 _ ⟨c37,d37,hv37,m37,n37⟩=>?_
 subst hv37
 refine iU (cs:=[Cs ⟨#[67]⟩,Cs ⟨#[115,97,108,101,115]⟩,.v (.bool (PQ (dv 5000 100)).n),c37,.v (.bool (PQ (dv 5000 100)).d),d37]) O ?_
 refine lZ z37 (nV hdv (n:=777) (by omega) (by decide) (by decide)) O O fun v39 z39 _ ⟨c39,d39,hv39,m39,n39⟩=>?_
 subst hv39
 refine iU (cs:=[Cs ⟨#[68]⟩,Cs ⟨#[102,114,101,101]⟩,.v (.bool (PQ (dv 777 100)).n),c39,.v (.bool (PQ (dv 777 100)).d),d39]) O ?_
 refine kO (cs:=[Cs ⟨#[80]⟩,Cs ⟨#[115,97,108,101,115]⟩,.v (.bool (PQ (dv 100000 100)).n),c15,.v (.bool (PQ (dv 100000 100)).d),d15,Cs ⟨#[80]⟩,Cs ⟨#[99,111,115,116]⟩,.v (.bool (PQ (dv 40000 100)).n),c17,.v (.bool (PQ (dv 40000 100)).d),d17,Cs ⟨#[80]⟩,Cs ⟨#[105,110,116,45,111,117,116]⟩,.v (.bool (PQ (dv 20000 100)).n),c19,.v (.bool (PQ (dv 20000 100)).d),d19,Cs ⟨#[65]⟩,Cs ⟨#[115,97,108,101,115]⟩,.v (.bool (PQ (dv 50000 100)).n),c21,.v (.bool (PQ (dv 50000 100)).d),d21,Cs ⟨#[65]⟩,Cs ⟨#[99,111,115,116]⟩,.v (.bool (PQ (dv 90000 100)).n),c23,.v (.bool (PQ (dv 90000 100)).d),d23,Cs ⟨#[65]⟩,Cs ⟨#[109,101,97,108,115]⟩,.v (.bool (PQ (dv 4001 100)).n),c25,.v (.bool (PQ (dv 4001 100)).d),d25,Cs ⟨#[65]⟩,Cs ⟨#[97,100,115]⟩,.v (.bool (PQ (dv 9000 100)).n),c27,.v (.bool (PQ (dv 9000 100)).d),d27,Cs ⟨#[66]⟩,Cs ⟨#[115,97,108,101,115]⟩,.v (.bool (PQ (dv 30000 100)).n),c29,.v (.bool (PQ (dv 30000 100)).d),d29,Cs ⟨#[66]⟩,Cs ⟨#[100,101,112]⟩,.v (.bool (PQ (dv 3000 100)).n),c31,.v (.bool (PQ (dv 3000 100)).d),d31,Cs ⟨#[66]⟩,Cs ⟨#[105,110,116,45,105,110]⟩,.v (.bool (PQ (dv 2000 100)).n),c33,.v (.bool (PQ (dv 2000 100)).d),d33,Cs ⟨#[67]⟩,Cs ⟨#[99,111,115,116]⟩,.v (.bool (PQ (dv 25000 100)).n),c35,.v (.bool (PQ (dv 25000 100)).d),d35,Cs ⟨#[67]⟩,Cs ⟨#[115,97,108,101,115]⟩,.v (.bool (PQ (dv 5000 100)).n),c37,.v (.bool (PQ (dv 5000 100)).d),d37,Cs ⟨#[68]⟩,Cs ⟨#[102,114,101,101]⟩,.v (.bool (PQ (dv 777 100)).n),c39,.v (.bool (PQ (dv 777 100)).d),d39]) (by kernel_rfl) fun b41=>?_
 refine uT z39 (p:=[]) O O O (fun _ h=>h) fun zfg41 _ g41=>?_
 have r41:SZ 6 Hi zfg41 (.c (.sl b41 0 13 6)) (aXz dv):=CL.sz (sJ rfl (pW (a:=⟨⟨#[80]⟩,⟨#[115,97,108,101,115]⟩,PQ (dv 100000 100)⟩) m15.m n15.m) (sJ rfl (pW (a:=⟨⟨#[80]⟩,⟨#[99,111,115,116]⟩,PQ (dv 40000 100)⟩) m17.m n17.m) (sJ rfl (pW (a:=⟨⟨#[80]⟩,⟨#[105,110,116,45,111,117,116]⟩,PQ (dv 20000 100)⟩) m19.m n19.m) (sJ rfl (pW (a:=⟨⟨#[65]⟩,⟨#[115,97,108,101,115]⟩,PQ (dv 50000 100)⟩) m21.m n21.m) (sJ rfl (pW (a:=⟨⟨#[65]⟩,⟨#[99,111,115,116]⟩,PQ (dv 90000 100)⟩) m23.m n23.m) (sJ rfl (pW (a:=⟨⟨#[65]⟩,⟨#[109,101,97,108,115]⟩,PQ (dv 4001 100)⟩) m25.m n25.m) (sJ rfl (pW (a:=⟨⟨#[65]⟩,⟨#[97,100,115]⟩,PQ (dv 9000 100)⟩) m27.m n27.m) (sJ rfl (pW (a:=⟨⟨#[66]⟩,⟨#[115,97,108,101,115]⟩,PQ (dv 30000 100)⟩) m29.m n29.m) (sJ rfl (pW (a:=⟨⟨#[66]⟩,⟨#[100,101,112]⟩,PQ (dv 3000 100)⟩) m31.m n31.m) (sJ rfl (pW (a:=⟨⟨#[66]⟩,⟨#[105,110,116,45,105,110]⟩,PQ (dv 2000 100)⟩) m33.m n33.m) (sJ rfl (pW (a:=⟨⟨#[67]⟩,⟨#[99,111,115,116]⟩,PQ (dv 25000 100)⟩) m35.m n35.m) (sJ rfl (pW (a:=⟨⟨#[67]⟩,⟨#[115,97,108,101,115]⟩,PQ (dv 5000 100)⟩) m37.m n37.m) (sJ rfl (pW (a:=⟨⟨#[68]⟩,⟨#[102,114,101,101]⟩,PQ (dv 777 100)⟩) m39.m n39.m) (CL.nil)))))))))))))) rfl (by decide) g41
 refine lF O (mG (cs':=[Ci 2020,.sl b13 0 5 6,.sl b41 0 13 6,Cz,Cz,Cz]) O O O iP O O (Nat.le_of_ble_eq_true O) (lN (xR ?_)))
 refine Dq zfg41 [] (aDW hdv (id:=⟨#[71,49]⟩) (kd:=1) (pe:=⟨#[65]⟩) (pr:=⟨#[80]⟩) (ci:=⟨#[115,97,108,101,115]⟩) (co:=⟨#[99,111,115,116]⟩) (n:=12000) (by omega) (by decide) (by decide)) O O O fun v43 z43 H43 _ ⟨c43,cs43,hv43,hH43,k43⟩=>?_
 subst hv43
 subst hH43
 refine Dq z43 [] (aDW hdv (id:=⟨#[76,49]⟩) (kd:=3) (pe:=⟨#[66]⟩) (pr:=⟨#[80]⟩) (ci:=⟨#[105,110,116,45,105,110]⟩) (co:=⟨#[105,110,116,45,111,117,116]⟩) (n:=2000) (by omega) (by decide) (by decide)) O O O fun v44 z44 H44 _ ⟨c44,cs44,hv44,hH44,k44⟩=>?_
 subst hv44
 subst hH44
 refine aS7 z44 (p:=[]) O O k44 O (Nat.le_of_ble_eq_true O) fun zfr44 _ r44=>?_
 refine aLd O O r44 (fun _ _=>iP) (Nat.le_of_ble_eq_true rfl) (Nat.le_of_ble_eq_true rfl) fun c45 hc45 ns45 kn45=>?_
 refine aS7 zfr44 (p:=[]) O O ((k43.mono (zJ zfr44)).append kn45) O (Nat.le_of_ble_eq_true O) fun zfr45 _ r45=>?_
 have r45:SZ 10 Ez zfr45 (.c c45) (aWE dv):=r45
 refine lF O (mG (cs':=[Ci 2020,.sl b13 0 5 6,.sl b41 0 13 6,c45,Cz,Cz]) O O O iP O O (Nat.le_of_ble_eq_true O) (lN (xR ?_)))
 refine lZ zfr45 (nV hdv (n:=3000) (by omega) (by decide) (by decide)) O O fun v47 z47 _ ⟨c47,d47,hv47,m47,n47⟩=>?_
 subst hv47
 refine lZ z47 (tG hdv (n:=5000) (by omega) (by decide) (by decide)) O O fun v48 z48 _ ⟨c48,d48,hv48,m48,n48⟩=>?_
 subst hv48
 refine iU (cs:=[Cs ⟨#[71,49]⟩,.v (.bool (PQ (dv 3000 100)).n),c47,.v (.bool (PQ (dv 3000 100)).d),d47,.v (.bool (PQ (dv 5000 10000)).n),c48,.v (.bool (PQ (dv 5000 10000)).d),d48]) O ?_
 refine kO (cs:=[Cs ⟨#[71,49]⟩,.v (.bool (PQ (dv 3000 100)).n),c47,.v (.bool (PQ (dv 3000 100)).d),d47,.v (.bool (PQ (dv 5000 10000)).n),c48,.v (.bool (PQ (dv 5000 10000)).d),d48]) O fun b50=>?_
 refine uT z48 (p:=[]) O O O (fun _ h=>h) fun zfg50 _ g50=>?_
 have r50:SZ 9 Bm zfg50 (.c (.sl b50 0 1 9)) (aXm dv):=CL.sz (sJ rfl (aX8 (a:=⟨⟨#[71,49]⟩,PQ (dv 3000 100),PQ (dv 5000 10000)⟩) m47.m n47.m m48.m n48.m) (CL.nil)) rfl (by decide) g50
 refine lF O (mG (cs':=[Ci 2020,.sl b13 0 5 6,.sl b41 0 13 6,c45,.sl b50 0 1 9,Cz]) O O O iP O O (Nat.le_of_ble_eq_true O) (lN (xR (Aa O mem0 O (mG (cs':=[Ci 2020,.sl b13 0 5 6,.sl b41 0 13 6,c45,.sl b50 0 1 9,Cz]) O O O P1 O O (Nat.le_of_ble_eq_true O) (lN (xT (rQ (.inl O) (aXs O Y1 O rn) ?_))))))))
 exact ⟨_,rfl,Ou (a:=aE2 dv) r13.m r41.m r45.m r50 .nil⟩
theorem aWe {dv:Int→Int→Rat} (hdv:∀ n d,dv n d=Rat.divInt n d) {k:Nat} (hk:13≤k) {z:dE}  : FC (E k) 88 [] z fun v z'=>∃ cs,v=.agg cs∧Ak z' cs (Yy dv):=by
 refine cX (bDM) (by omega) (aU O) fun B j hj=>?_
 refine xR ?_
 refine mR fun b0=>?_
 refine lN (xR (iU (cs:=[Ci 2021,Cz,Cz,Cz,Cz,Cz]) O ?_))
 refine mR fun b1=>?_
 refine mG (cs':=[Ci 2021,Cz,Cz,Cz,Cz,Cz]) O O O iP O O (Nat.le_of_ble_eq_true O) (lN (xR ?_))
 refine lZ z (tG hdv (n:=10000) (by omega) (by decide) (by decide)) O O fun v3 z3 _ ⟨c3,d3,hv3,m3,n3⟩=>?_
 subst hv3
 refine iU (cs:=[Cs ⟨#[80]⟩,Cs ⟨#[65]⟩,.v (.bool (PQ (dv 10000 10000)).n),c3,.v (.bool (PQ (dv 10000 10000)).d),d3]) O ?_
 refine lZ z3 (tG hdv (n:=5000) (by omega) (by decide) (by decide)) O O fun v5 z5 _ ⟨c5,d5,hv5,m5,n5⟩=>?_
 subst hv5
 refine iU (cs:=[Cs ⟨#[65]⟩,Cs ⟨#[66]⟩,.v (.bool (PQ (dv 5000 10000)).n),c5,.v (.bool (PQ (dv 5000 10000)).d),d5]) O ?_
 refine lZ z5 (tG hdv (n:=3000) (by omega) (by decide) (by decide)) O O fun v7 z7 _ ⟨c7,d7,hv7,m7,n7⟩=>?_
 subst hv7
 refine iU (cs:=[Cs ⟨#[80]⟩,Cs ⟨#[66]⟩,.v (.bool (PQ (dv 3000 10000)).n),c7,.v (.bool (PQ (dv 3000 10000)).d),d7]) O ?_
 refine lZ z7 (tG hdv (n:=8000) (by omega) (by decide) (by decide)) O O fun v9 z9 _ ⟨c9,d9,hv9,m9,n9⟩=>?_
 subst hv9
 refine iU (cs:=[Cs ⟨#[80]⟩,Cs ⟨#[67]⟩,.v (.bool (PQ (dv 8000 10000)).n),c9,.v (.bool (PQ (dv 8000 10000)).d),d9]) O ?_
 refine lZ z9 (tG hdv (n:=10000) (by omega) (by decide) (by decide)) O O fun v11 z11 _ ⟨c11,d11,hv11,m11,n11⟩=>?_
 subst hv11
 refine iU (cs:=[Cs ⟨#[67]⟩,Cs ⟨#[68]⟩,.v (.bool (PQ (dv 10000 10000)).n),c11,.v (.bool (PQ (dv 10000 10000)).d),d11]) O ?_
 refine kO (cs:=[Cs ⟨#[80]⟩,Cs ⟨#[65]⟩,.v (.bool (PQ (dv 10000 10000)).n),c3,.v (.bool (PQ (dv 10000 10000)).d),d3,Cs ⟨#[65]⟩,Cs ⟨#[66]⟩,.v (.bool (PQ (dv 5000 10000)).n),c5,.v (.bool (PQ (dv 5000 10000)).d),d5,Cs ⟨#[80]⟩,Cs ⟨#[66]⟩,.v (.bool (PQ (dv 3000 10000)).n),c7,.v (.bool (PQ (dv 3000 10000)).d),d7,Cs ⟨#[80]⟩,Cs ⟨#[67]⟩,.v (.bool (PQ (dv 8000 10000)).n),c9,.v (.bool (PQ (dv 8000 10000)).d),d9,Cs ⟨#[67]⟩,Cs ⟨#[68]⟩,.v (.bool (PQ (dv 10000 10000)).n),c11,.v (.bool (PQ (dv 10000 10000)).d),d11]) O fun b13=>?_
 refine uT z11 (p:=[]) O O O (fun _ h=>h) fun zfg13 _ g13=>?_
 have r13:SZ 6 Hh zfg13 (.c (.sl b13 0 5 6)) (aWM dv):=CL.sz (sJ rfl (Ei (a:=⟨⟨#[80]⟩,⟨#[65]⟩,PQ (dv 10000 10000)⟩) m3.m n3.m) (sJ rfl (Ei (a:=⟨⟨#[65]⟩,⟨#[66]⟩,PQ (dv 5000 10000)⟩) m5.m n5.m) (sJ rfl (Ei (a:=⟨⟨#[80]⟩,⟨#[66]⟩,PQ (dv 3000 10000)⟩) m7.m n7.m) (sJ rfl (Ei (a:=⟨⟨#[80]⟩,⟨#[67]⟩,PQ (dv 8000 10000)⟩) m9.m n9.m) (sJ rfl (Ei (a:=⟨⟨#[67]⟩,⟨#[68]⟩,PQ (dv 10000 10000)⟩) m11.m n11.m) (CL.nil)))))) rfl (by decide) g13
 refine lF O (mG (cs':=[Ci 2021,.sl b13 0 5 6,Cz,Cz,Cz,Cz]) O O O iP O O (Nat.le_of_ble_eq_true O) (lN (xR ?_)))
 refine lZ zfg13 (nV hdv (n:=150000) (by omega) (by decide) (by decide)) O O fun v15 z15 _ ⟨c15,d15,hv15,m15,n15⟩=>?_
 subst hv15
 refine iU (cs:=[Cs ⟨#[80]⟩,Cs ⟨#[99,111,115,116]⟩,.v (.bool (PQ (dv 150000 100)).n),c15,.v (.bool (PQ (dv 150000 100)).d),d15]) O ?_
 refine lZ z15 (nV hdv (n:=20000) (by omega) (by decide) (by decide)) O O fun v17 z17 _ ⟨c17,d17,hv17,m17,n17⟩=>?_
 subst hv17
 refine iU (cs:=[Cs ⟨#[80]⟩,Cs ⟨#[115,97,108,101,115]⟩,.v (.bool (PQ (dv 20000 100)).n),c17,.v (.bool (PQ (dv 20000 100)).d),d17]) O ?_
 refine lZ z17 (nV hdv (n:=5000) (by omega) (by decide) (by decide)) O O fun v19 z19 _ ⟨c19,d19,hv19,m19,n19⟩=>?_
 subst hv19
 refine iU (cs:=[Cs ⟨#[80]⟩,Cs ⟨#[100,105,115,116]⟩,.v (.bool (PQ (dv 5000 100)).n),c19,.v (.bool (PQ (dv 5000 100)).d),d19]) O ?_
 refine lZ z19 (nV hdv (n:=1000) (by omega) (by decide) (by decide)) O O fun v21 z21 _ ⟨c21,d21,hv21,m21,n21⟩=>?_
 subst hv21
 refine iU (cs:=[Cs ⟨#[65]⟩,Cs ⟨#[100,105,118]⟩,.v (.bool (PQ (dv 1000 100)).n),c21,.v (.bool (PQ (dv 1000 100)).d),d21]) O ?_
 refine lZ z21 (nV hdv (n:=1000) (by omega) (by decide) (by decide)) O O fun v23 z23 _ ⟨c23,d23,hv23,m23,n23⟩=>?_
 subst hv23
 refine iU (cs:=[Cs ⟨#[66]⟩,Cs ⟨#[100,105,115,116]⟩,.v (.bool (PQ (dv 1000 100)).n),c23,.v (.bool (PQ (dv 1000 100)).d),d23]) O ?_
 refine lZ z23 (nV hdv (n:=60000) (by omega) (by decide) (by decide)) O O fun v25 z25 _ ⟨c25,d25,hv25,m25,n25⟩=>?_
 subst hv25
 refine iU (cs:=[Cs ⟨#[67]⟩,Cs ⟨#[115,97,108,101,115]⟩,.v (.bool (PQ (dv 60000 100)).n),c25,.v (.bool (PQ (dv 60000 100)).d),d25]) O ?_
 refine lZ z25 (nV hdv (n:=25000) (by omega) (by decide) (by decide)) O O fun v27 z27 _ ⟨c27,d27,hv27,m27,n27⟩=>?_
 subst hv27
 refine iU (cs:=[Cs ⟨#[68]⟩,Cs ⟨#[103,105,102,116,115]⟩,.v (.bool (PQ (dv 25000 100)).n),c27,.v (.bool (PQ (dv 25000 100)).d),d27]) O ?_
 refine lZ z27 (nV hdv (n:=12345) (by omega) (by decide) (by decide)) O O fun v29 z29 _ ⟨c29,d29,hv29,m29,n29⟩=>?_
 subst hv29
 refine iU (cs:=[Cs ⟨#[68]⟩,Cs ⟨#[115,97,108,101,115]⟩,.v (.bool (PQ (dv 12345 100)).n),c29,.v (.bool (PQ (dv 12345 100)).d),d29]) O ?_
 refine kO (cs:=[Cs ⟨#[80]⟩,Cs ⟨#[99,111,115,116]⟩,.v (.bool (PQ (dv 150000 100)).n),c15,.v (.bool (PQ (dv 150000 100)).d),d15,Cs ⟨#[80]⟩,Cs ⟨#[115,97,108,101,115]⟩,.v (.bool (PQ (dv 20000 100)).n),c17,.v (.bool (PQ (dv 20000 100)).d),d17,Cs ⟨#[80]⟩,Cs ⟨#[100,105,115,116]⟩,.v (.bool (PQ (dv 5000 100)).n),c19,.v (.bool (PQ (dv 5000 100)).d),d19,Cs ⟨#[65]⟩,Cs ⟨#[100,105,118]⟩,.v (.bool (PQ (dv 1000 100)).n),c21,.v (.bool (PQ (dv 1000 100)).d),d21,Cs ⟨#[66]⟩,Cs ⟨#[100,105,115,116]⟩,.v (.bool (PQ (dv 1000 100)).n),c23,.v (.bool (PQ (dv 1000 100)).d),d23,Cs ⟨#[67]⟩,Cs ⟨#[115,97,108,101,115]⟩,.v (.bool (PQ (dv 60000 100)).n),c25,.v (.bool (PQ (dv 60000 100)).d),d25,Cs ⟨#[68]⟩,Cs ⟨#[103,105,102,116,115]⟩,.v (.bool (PQ (dv 25000 100)).n),c27,.v (.bool (PQ (dv 25000 100)).d),d27,Cs ⟨#[68]⟩,Cs ⟨#[115,97,108,101,115]⟩,.v (.bool (PQ (dv 12345 100)).n),c29,.v (.bool (PQ (dv 12345 100)).d),d29]) (by kernel_rfl) fun b31=>?_
 refine uT z29 (p:=[]) O O O (fun _ h=>h) fun zfg31 _ g31=>?_
 have r31:SZ 6 Hi zfg31 (.c (.sl b31 0 8 6)) (aWy dv):=CL.sz (sJ rfl (pW (a:=⟨⟨#[80]⟩,⟨#[99,111,115,116]⟩,PQ (dv 150000 100)⟩) m15.m n15.m) (sJ rfl (pW (a:=⟨⟨#[80]⟩,⟨#[115,97,108,101,115]⟩,PQ (dv 20000 100)⟩) m17.m n17.m) (sJ rfl (pW (a:=⟨⟨#[80]⟩,⟨#[100,105,115,116]⟩,PQ (dv 5000 100)⟩) m19.m n19.m) (sJ rfl (pW (a:=⟨⟨#[65]⟩,⟨#[100,105,118]⟩,PQ (dv 1000 100)⟩) m21.m n21.m) (sJ rfl (pW (a:=⟨⟨#[66]⟩,⟨#[100,105,115,116]⟩,PQ (dv 1000 100)⟩) m23.m n23.m) (sJ rfl (pW (a:=⟨⟨#[67]⟩,⟨#[115,97,108,101,115]⟩,PQ (dv 60000 100)⟩) m25.m n25.m) (sJ rfl (pW (a:=⟨⟨#[68]⟩,⟨#[103,105,102,116,115]⟩,PQ (dv 25000 100)⟩) m27.m n27.m) (sJ rfl (pW (a:=⟨⟨#[68]⟩,⟨#[115,97,108,101,115]⟩,PQ (dv 12345 100)⟩) m29.m n29.m) (CL.nil))))))))) rfl (by decide) g31
 refine lF O (mG (cs':=[Ci 2021,.sl b13 0 5 6,.sl b31 0 8 6,Cz,Cz,Cz]) O O O iP O O (Nat.le_of_ble_eq_true O) (lN (xR ?_)))
 refine Dq zfg31 [] (aDW hdv (id:=⟨#[86,49]⟩) (kd:=4) (pe:=⟨#[65]⟩) (pr:=⟨#[66]⟩) (ci:=⟨#[100,105,118]⟩) (co:=⟨#[100,105,115,116]⟩) (n:=1000) (by omega) (by decide) (by decide)) O O O fun v33 z33 H33 _ ⟨c33,cs33,hv33,hH33,k33⟩=>?_
 subst hv33
 subst hH33
 refine Dq z33 [] (aDW hdv (id:=⟨#[83,49]⟩) (kd:=2) (pe:=⟨#[67]⟩) (pr:=⟨#[68]⟩) (ci:=⟨#[115,97,108,101,115]⟩) (co:=⟨#[103,105,102,116,115]⟩) (n:=5000) (by omega) (by decide) (by decide)) O O O fun v34 z34 H34 _ ⟨c34,cs34,hv34,hH34,k34⟩=>?_
 subst hv34
 subst hH34
 refine aS7 z34 (p:=[]) O O k34 O (Nat.le_of_ble_eq_true O) fun zfr34 _ r34=>?_
 refine aLd O O r34 (fun _ _=>iP) (Nat.le_of_ble_eq_true rfl) (Nat.le_of_ble_eq_true rfl) fun c35 hc35 ns35 kn35=>?_
 refine aS7 zfr34 (p:=[]) O O ((k33.mono (zJ zfr34)).append kn35) O (Nat.le_of_ble_eq_true O) fun zfr35 _ r35=>?_
 have r35:SZ 10 Ez zfr35 (.c c35) (aX6 dv):=r35
 refine lF O (mG (cs':=[Ci 2021,.sl b13 0 5 6,.sl b31 0 8 6,c35,Cz,Cz]) O O O iP O O (Nat.le_of_ble_eq_true O) (lN (xR ?_)))
 refine lZ zfr35 (tG hdv (n:=2500) (by omega) (by decide) (by decide)) O O fun v37 z37 _ ⟨c37,d37,hv37,m37,n37⟩=>?_
 subst hv37
 refine iU (cs:=[Cs ⟨#[71,49]⟩,.v (.bool (PQ (dv 2500 10000)).n),c37,.v (.bool (PQ (dv 2500 10000)).d),d37]) O ?_
 refine kO (cs:=[Cs ⟨#[71,49]⟩,.v (.bool (PQ (dv 2500 10000)).n),c37,.v (.bool (PQ (dv 2500 10000)).d),d37]) O fun b39=>?_
 refine uT z37 (p:=[]) O O O (fun _ h=>h) fun zfg39 _ g39=>?_
 have r39:SZ 5 Ik zfg39 (.c (.sl b39 0 1 5)) (aWX dv):=CL.sz (sJ rfl (aVm (a:=⟨⟨#[71,49]⟩,PQ (dv 2500 10000)⟩) m37.m n37.m) (CL.nil)) rfl (by decide) g39
 refine lF O (mG (cs':=[Ci 2021,.sl b13 0 5 6,.sl b31 0 8 6,c35,Cz,.sl b39 0 1 5]) O O O iP O O (Nat.le_of_ble_eq_true O) (lN (xR (Aa O mem0 O (mG (cs':=[Ci 2021,.sl b13 0 5 6,.sl b31 0 8 6,c35,Cz,.sl b39 0 1 5]) O O O P1 O O (Nat.le_of_ble_eq_true O) (lN (xT (rQ (.inl O) (aXs O Y1 O rn) ?_))))))))
 exact ⟨_,rfl,Ou (a:=Yy dv) r13.m r31.m r35.m .nil r39⟩
theorem aXp {dv:Int→Int→Rat} (hdv:∀ n d,dv n d=Rat.divInt n d) {k:Nat} (hk:12≤k) {z:dE}  : FC (E k) 89 [] z fun v z'=>∃ cs,v=.agg cs∧Ak z' cs (aEX dv):=by
 refine cX (bGp) (by omega) (aU O) fun B j hj=>?_
 refine xR ?_
 refine mR fun b0=>?_
 refine lN (xR (iU (cs:=[Ci 2022,Cz,Cz,Cz,Cz,Cz]) O ?_))
 refine mR fun b1=>?_
 refine mG (cs':=[Ci 2022,Cz,Cz,Cz,Cz,Cz]) O O O iP O O (Nat.le_of_ble_eq_true O) (lN (xR ?_))
 refine lZ z (tG hdv (n:=7400) (by omega) (by decide) (by decide)) O O fun v3 z3 _ ⟨c3,d3,hv3,m3,n3⟩=>?_
 subst hv3
 refine iU (cs:=[Cs ⟨#[80]⟩,Cs ⟨#[65]⟩,.v (.bool (PQ (dv 7400 10000)).n),c3,.v (.bool (PQ (dv 7400 10000)).d),d3]) O ?_
 refine lZ z3 (tG hdv (n:=8000) (by omega) (by decide) (by decide)) O O fun v5 z5 _ ⟨c5,d5,hv5,m5,n5⟩=>?_
 subst hv5
 refine iU (cs:=[Cs ⟨#[80]⟩,Cs ⟨#[67]⟩,.v (.bool (PQ (dv 8000 10000)).n),c5,.v (.bool (PQ (dv 8000 10000)).d),d5]) O ?_
 refine lZ z5 (tG hdv (n:=9999) (by omega) (by decide) (by decide)) O O fun v7 z7 _ ⟨c7,d7,hv7,m7,n7⟩=>?_
 subst hv7
 refine iU (cs:=[Cs ⟨#[67]⟩,Cs ⟨#[68]⟩,.v (.bool (PQ (dv 9999 10000)).n),c7,.v (.bool (PQ (dv 9999 10000)).d),d7]) O ?_
 refine kO (cs:=[Cs ⟨#[80]⟩,Cs ⟨#[65]⟩,.v (.bool (PQ (dv 7400 10000)).n),c3,.v (.bool (PQ (dv 7400 10000)).d),d3,Cs ⟨#[80]⟩,Cs ⟨#[67]⟩,.v (.bool (PQ (dv 8000 10000)).n),c5,.v (.bool (PQ (dv 8000 10000)).d),d5,Cs ⟨#[67]⟩,Cs ⟨#[68]⟩,.v (.bool (PQ (dv 9999 10000)).n),c7,.v (.bool (PQ (dv 9999 10000)).d),d7]) O fun b9=>?_
 refine uT z7 (p:=[]) O O O (fun _ h=>h) fun zfg9 _ g9=>?_
 have r9:SZ 6 Hh zfg9 (.c (.sl b9 0 3 6)) (bIr dv):=CL.sz (sJ rfl (Ei (a:=⟨⟨#[80]⟩,⟨#[65]⟩,PQ (dv 7400 10000)⟩) m3.m n3.m) (sJ rfl (Ei (a:=⟨⟨#[80]⟩,⟨#[67]⟩,PQ (dv 8000 10000)⟩) m5.m n5.m) (sJ rfl (Ei (a:=⟨⟨#[67]⟩,⟨#[68]⟩,PQ (dv 9999 10000)⟩) m7.m n7.m) (CL.nil)))) rfl (by decide) g9
 refine lF O (mG (cs':=[Ci 2022,.sl b9 0 3 6,Cz,Cz,Cz,Cz]) O O O iP O O (Nat.le_of_ble_eq_true O) (lN (xR ?_)))
 refine lZ zfg9 (nV hdv (n:=300000) (by omega) (by decide) (by decide)) O O fun v11 z11 _ ⟨c11,d11,hv11,m11,n11⟩=>?_
 subst hv11
 refine iU (cs:=[Cs ⟨#[80]⟩,Cs ⟨#[115,97,108,101,115]⟩,.v (.bool (PQ (dv 300000 100)).n),c11,.v (.bool (PQ (dv 300000 100)).d),d11]) O ?_
 refine lZ z11 (nV hdv (n:=9000) (by omega) (by decide) (by decide)) O O fun v13 z13 _ ⟨c13,d13,hv13,m13,n13⟩=>?_
 subst hv13
 refine iU (cs:=[Cs ⟨#[80]⟩,Cs ⟨#[105,110,116,45,111,117,116]⟩,.v (.bool (PQ (dv 9000 100)).n),c13,.v (.bool (PQ (dv 9000 100)).d),d13]) O ?_
 refine lZ z13 (nV hdv (n:=10000) (by omega) (by decide) (by decide)) O O fun v15 z15 _ ⟨c15,d15,hv15,m15,n15⟩=>?_
 subst hv15
 refine iU (cs:=[Cs ⟨#[65]⟩,Cs ⟨#[115,97,108,101,115]⟩,.v (.bool (PQ (dv 10000 100)).n),c15,.v (.bool (PQ (dv 10000 100)).d),d15]) O ?_
 refine lZ z15 (nV hdv (n:=70001) (by omega) (by decide) (by decide)) O O fun v17 z17 _ ⟨c17,d17,hv17,m17,n17⟩=>?_
 subst hv17
 refine iU (cs:=[Cs ⟨#[67]⟩,Cs ⟨#[115,97,108,101,115]⟩,.v (.bool (PQ (dv 70001 100)).n),c17,.v (.bool (PQ (dv 70001 100)).d),d17]) O ?_
 refine lZ z17 (nV hdv (n:=8000) (by omega) (by decide) (by decide)) O O fun v19 z19 _ ⟨c19,d19,hv19,m19,n19⟩=>?_
 subst hv19
 refine iU (cs:=[Cs ⟨#[68]⟩,Cs ⟨#[99,111,115,116]⟩,.v (.bool (PQ (dv 8000 100)).n),c19,.v (.bool (PQ (dv 8000 100)).d),d19]) O ?_
 refine lZ z19 (nV hdv (n:=(-100)) (by omega) (by decide) (by decide)) O O fun v21 z21 _ ⟨c21,d21,hv21,m21,n21⟩=>?_
 subst hv21
 refine iU (cs:=[Cs ⟨#[68]⟩,Cs ⟨#[109,101,97,108,115]⟩,.v (.bool (PQ (dv (-100) 100)).n),c21,.v (.bool (PQ (dv (-100) 100)).d),d21]) O ?_
 refine kO (cs:=[Cs ⟨#[80]⟩,Cs ⟨#[115,97,108,101,115]⟩,.v (.bool (PQ (dv 300000 100)).n),c11,.v (.bool (PQ (dv 300000 100)).d),d11,Cs ⟨#[80]⟩,Cs ⟨#[105,110,116,45,111,117,116]⟩,.v (.bool (PQ (dv 9000 100)).n),c13,.v (.bool (PQ (dv 9000 100)).d),d13,Cs ⟨#[65]⟩,Cs ⟨#[115,97,108,101,115]⟩,.v (.bool (PQ (dv 10000 100)).n),c15,.v (.bool (PQ (dv 10000 100)).d),d15,Cs ⟨#[67]⟩,Cs ⟨#[115,97,108,101,115]⟩,.v (.bool (PQ (dv 70001 100)).n),c17,.v (.bool (PQ (dv 70001 100)).d),d17,Cs ⟨#[68]⟩,Cs ⟨#[99,111,115,116]⟩,.v (.bool (PQ (dv 8000 100)).n),c19,.v (.bool (PQ (dv 8000 100)).d),d19,Cs ⟨#[68]⟩,Cs ⟨#[109,101,97,108,115]⟩,.v (.bool (PQ (dv (-100) 100)).n),c21,.v (.bool (PQ (dv (-100) 100)).d),d21]) (by kernel_rfl) fun b23=>?_
 refine uT z21 (p:=[]) O O O (fun _ h=>h) fun zfg23 _ g23=>?_
 have r23:SZ 6 Hi zfg23 (.c (.sl b23 0 6 6)) (aXj dv):=CL.sz (sJ rfl (pW (a:=⟨⟨#[80]⟩,⟨#[115,97,108,101,115]⟩,PQ (dv 300000 100)⟩) m11.m n11.m) (sJ rfl (pW (a:=⟨⟨#[80]⟩,⟨#[105,110,116,45,111,117,116]⟩,PQ (dv 9000 100)⟩) m13.m n13.m) (sJ rfl (pW (a:=⟨⟨#[65]⟩,⟨#[115,97,108,101,115]⟩,PQ (dv 10000 100)⟩) m15.m n15.m) (sJ rfl (pW (a:=⟨⟨#[67]⟩,⟨#[115,97,108,101,115]⟩,PQ (dv 70001 100)⟩) m17.m n17.m) (sJ rfl (pW (a:=⟨⟨#[68]⟩,⟨#[99,111,115,116]⟩,PQ (dv 8000 100)⟩) m19.m n19.m) (sJ rfl (pW (a:=⟨⟨#[68]⟩,⟨#[109,101,97,108,115]⟩,PQ (dv (-100) 100)⟩) m21.m n21.m) (CL.nil))))))) rfl (by decide) g23
 refine lF O (mG (cs':=[Ci 2022,.sl b9 0 3 6,.sl b23 0 6 6,Cz,Cz,Cz]) O O O iP O O (Nat.le_of_ble_eq_true O) (lN (xR ?_)))
 refine lZ zfg23 (tG hdv (n:=7500) (by omega) (by decide) (by decide)) O O fun v25 z25 _ ⟨c25,d25,hv25,m25,n25⟩=>?_
 subst hv25
 refine iU (cs:=[Cs ⟨#[71,49]⟩,.v (.bool (PQ (dv 7500 10000)).n),c25,.v (.bool (PQ (dv 7500 10000)).d),d25]) O ?_
 refine kO (cs:=[Cs ⟨#[71,49]⟩,.v (.bool (PQ (dv 7500 10000)).n),c25,.v (.bool (PQ (dv 7500 10000)).d),d25]) O fun b27=>?_
 refine uT z25 (p:=[]) O O O (fun _ h=>h) fun zfg27 _ g27=>?_
 have r27:SZ 5 Ik zfg27 (.c (.sl b27 0 1 5)) (aW5 dv):=CL.sz (sJ rfl (aVm (a:=⟨⟨#[71,49]⟩,PQ (dv 7500 10000)⟩) m25.m n25.m) (CL.nil)) rfl (by decide) g27
 refine lF O (mG (cs':=[Ci 2022,.sl b9 0 3 6,.sl b23 0 6 6,Cz,Cz,.sl b27 0 1 5]) O O O iP O O (Nat.le_of_ble_eq_true O) (lN (xR (Aa O mem0 O (mG (cs':=[Ci 2022,.sl b9 0 3 6,.sl b23 0 6 6,Cz,Cz,.sl b27 0 1 5]) O O O P1 O O (Nat.le_of_ble_eq_true O) (lN (xT (rQ (.inl O) (aXs O Y1 O rn) ?_))))))))
 exact ⟨_,rfl,Ou (a:=aEX dv) r9.m r23.m .nil .nil r27⟩
theorem aXu {dv:Int→Int→Rat} (hdv:∀ n d,dv n d=Rat.divInt n d) {k:Nat} (hk:14≤k) {z:dE}  : FC (E k) 30 [] z fun v z'=>∃ cs,v=.agg cs∧J8 z' cs (aYO dv):=by
 refine cX (bD7) (by omega) (aU O) fun B j hj=>?_
 refine xR ?_
 refine mR fun b0=>?_
 refine lN (xR ?_)
 refine lZ z (aXl hdv (by omega)) O O fun v2 z2 _ ⟨cs,hv2,hR⟩=>?_
 subst hv2
 obtain ⟨u0,u1,u2,u3,u4,u5,u6,u7,u8,u9,u10,u11,hcs,w0,w1,w2,w3,w4,w5,w6,w7,w8,w9,w10,w11⟩:=hR
 subst hcs
 refine mR fun b1=>?_
 refine mG (cs':=[.v (.string (fR dv).name),.v (.string (fR dv).parent),u0,.v (.bool (fR dv).threshold.n),u1,.v (.bool (fR dv).threshold.d),u2,.v (.bool (fR dv).cap.n),u3,.v (.bool (fR dv).cap.d),u4,.v (.int .i64 (fR dv).back),.v (.int .i64 (fR dv).forward),.v (.bool (fR dv).interest.n),u5,.v (.bool (fR dv).interest.d),u6,.v (.bool (fR dv).floor.n),u7,.v (.bool (fR dv).floor.d),u8,.v (.int .i64 (fR dv).keep),u9,u10,u11]) O O O iP O O (Nat.le_of_ble_eq_true O) (lN (R4 4 O ?_))
 refine mG (cs':=[Cs ⟨#[71,114,111,117,112]⟩,.v (.string (fR dv).parent),u0,.v (.bool (fR dv).threshold.n),u1,.v (.bool (fR dv).threshold.d),u2,.v (.bool (fR dv).cap.n),u3,.v (.bool (fR dv).cap.d),u4,.v (.int .i64 (fR dv).back),.v (.int .i64 (fR dv).forward),.v (.bool (fR dv).interest.n),u5,.v (.bool (fR dv).interest.d),u6,.v (.bool (fR dv).floor.n),u7,.v (.bool (fR dv).floor.d),u8,.v (.int .i64 (fR dv).keep),u9,u10,u11]) O O O iP O O (Nat.le_of_ble_eq_true O) ?_
 refine lN (xR ?_)
 refine lZ z2 (nV hdv (n:=0) (by omega) (by decide) (by decide)) O O fun v4 z4 _ ⟨c4,d4,hv4,m4,n4⟩=>?_
 subst hv4
 refine lZ z4 (tG hdv (n:=1000) (by omega) (by decide) (by decide)) O O fun v5 z5 _ ⟨c5,d5,hv5,m5,n5⟩=>?_
 subst hv5
 refine iU (cs:=[.v (.bool (PQ (dv 0 100)).n),c4,.v (.bool (PQ (dv 0 100)).d),d4,.v (.bool (PQ (dv 1000 10000)).n),c5,.v (.bool (PQ (dv 1000 10000)).d),d5]) O ?_
 refine lZ z5 (nV hdv (n:=100000) (by omega) (by decide) (by decide)) O O fun v7 z7 _ ⟨c7,d7,hv7,m7,n7⟩=>?_
 subst hv7
 refine lZ z7 (tG hdv (n:=2550) (by omega) (by decide) (by decide)) O O fun v8 z8 _ ⟨c8,d8,hv8,m8,n8⟩=>?_
 subst hv8
 refine iU (cs:=[.v (.bool (PQ (dv 100000 100)).n),c7,.v (.bool (PQ (dv 100000 100)).d),d7,.v (.bool (PQ (dv 2550 10000)).n),c8,.v (.bool (PQ (dv 2550 10000)).d),d8]) O ?_
 refine kO (cs:=[.v (.bool (PQ (dv 0 100)).n),c4,.v (.bool (PQ (dv 0 100)).d),d4,.v (.bool (PQ (dv 1000 10000)).n),c5,.v (.bool (PQ (dv 1000 10000)).d),d5,.v (.bool (PQ (dv 100000 100)).n),c7,.v (.bool (PQ (dv 100000 100)).d),d7,.v (.bool (PQ (dv 2550 10000)).n),c8,.v (.bool (PQ (dv 2550 10000)).d),d8]) O fun b10=>?_
 refine uT z8 (p:=[]) O O O (fun _ h=>h) fun zfg10 _ g10=>?_
 have r10:SZ 8 pS zfg10 (.c (.sl b10 0 2 8)) (aXV dv):=CL.sz (sJ rfl (aDq (a:=⟨PQ (dv 0 100),PQ (dv 1000 10000)⟩) m4.m n4.m m5.m n5.m) (sJ rfl (aDq (a:=⟨PQ (dv 100000 100),PQ (dv 2550 10000)⟩) m7.m n7.m m8.m n8.m) (CL.nil))) rfl (by decide) g10
 refine lF O ?_
 refine mG (cs':=[Cs ⟨#[71,114,111,117,112]⟩,.v (.string (fR dv).parent),.sl b10 0 2 8,.v (.bool (fR dv).threshold.n),u1,.v (.bool (fR dv).threshold.d),u2,.v (.bool (fR dv).cap.n),u3,.v (.bool (fR dv).cap.d),u4,.v (.int .i64 (fR dv).back),.v (.int .i64 (fR dv).forward),.v (.bool (fR dv).interest.n),u5,.v (.bool (fR dv).interest.d),u6,.v (.bool (fR dv).floor.n),u7,.v (.bool (fR dv).floor.d),u8,.v (.int .i64 (fR dv).keep),u9,u10,u11]) O O O iP O O (Nat.le_of_ble_eq_true O) ?_
 refine lN (xR ?_)
 refine lZ zfg10 (nV hdv (n:=5000) (by omega) (by decide) (by decide)) O O fun v12 z12 _ ⟨c12,d12,hv12,m12,n12⟩=>?_
 subst hv12
 refine lF O ?_
 refine mG (cs':=[Cs ⟨#[71,114,111,117,112]⟩,.v (.string (fR dv).parent),.sl b10 0 2 8,.v (.bool (fR dv).threshold.n),u1,.v (.bool (fR dv).threshold.d),u2,.v (.bool (fR dv).cap.n),u3,.v (.bool (fR dv).cap.d),u4,.v (.int .i64 (fR dv).back),.v (.int .i64 (fR dv).forward),.v (.bool (fR dv).interest.n),u5,.v (.bool (fR dv).interest.d),u6,.v (.bool (PQ (dv 5000 100)).n),c12,.v (.bool (PQ (dv 5000 100)).d),d12,.v (.int .i64 (fR dv).keep),u9,u10,u11]) O O O iP O O (Nat.le_of_ble_eq_true O) ?_
 refine lN (xR ?_)
 refine lZ z12 (tG hdv (n:=6000) (by omega) (by decide) (by decide)) O O fun v14 z14 _ ⟨c14,d14,hv14,m14,n14⟩=>?_
 subst hv14
 refine lF O ?_
 refine mG (cs':=[Cs ⟨#[71,114,111,117,112]⟩,.v (.string (fR dv).parent),.sl b10 0 2 8,.v (.bool (fR dv).threshold.n),u1,.v (.bool (fR dv).threshold.d),u2,.v (.bool (PQ (dv 6000 10000)).n),c14,.v (.bool (PQ (dv 6000 10000)).d),d14,.v (.int .i64 (fR dv).back),.v (.int .i64 (fR dv).forward),.v (.bool (fR dv).interest.n),u5,.v (.bool (fR dv).interest.d),u6,.v (.bool (PQ (dv 5000 100)).n),c12,.v (.bool (PQ (dv 5000 100)).d),d12,.v (.int .i64 (fR dv).keep),u9,u10,u11]) O O O iP O O (Nat.le_of_ble_eq_true O) ?_
 refine lN (R4 4 O ?_)
 refine mG (cs':=[Cs ⟨#[71,114,111,117,112]⟩,.v (.string (fR dv).parent),.sl b10 0 2 8,.v (.bool (fR dv).threshold.n),u1,.v (.bool (fR dv).threshold.d),u2,.v (.bool (PQ (dv 6000 10000)).n),c14,.v (.bool (PQ (dv 6000 10000)).d),d14,.v (.int .i64 (fR dv).back),.v (.int .i64 (fR dv).forward),.v (.bool (fR dv).interest.n),u5,.v (.bool (fR dv).interest.d),u6,.v (.bool (PQ (dv 5000 100)).n),c12,.v (.bool (PQ (dv 5000 100)).d),d12,Ci 2,u9,u10,u11]) O O O iP O O (Nat.le_of_ble_eq_true O) ?_
 refine lN (R4 4 O ?_)
 refine mG (cs':=[Cs ⟨#[71,114,111,117,112]⟩,.v (.string (fR dv).parent),.sl b10 0 2 8,.v (.bool (fR dv).threshold.n),u1,.v (.bool (fR dv).threshold.d),u2,.v (.bool (PQ (dv 6000 10000)).n),c14,.v (.bool (PQ (dv 6000 10000)).d),d14,.v (.int .i64 (fR dv).back),Ci 3,.v (.bool (fR dv).interest.n),u5,.v (.bool (fR dv).interest.d),u6,.v (.bool (PQ (dv 5000 100)).n),c12,.v (.bool (PQ (dv 5000 100)).d),d12,Ci 2,u9,u10,u11]) O O O iP O O (Nat.le_of_ble_eq_true O) ?_
 refine lN (xR ?_)
 refine lZ z14 (aUl hdv (by omega)) O O fun v18 z18 _ ⟨c18,hv18,r18⟩=>?_
 subst hv18
 refine lF O ?_
 refine mG (cs':=[Cs ⟨#[71,114,111,117,112]⟩,.v (.string (fR dv).parent),.sl b10 0 2 8,.v (.bool (fR dv).threshold.n),u1,.v (.bool (fR dv).threshold.d),u2,.v (.bool (PQ (dv 6000 10000)).n),c14,.v (.bool (PQ (dv 6000 10000)).d),d14,.v (.int .i64 (fR dv).back),Ci 3,.v (.bool (fR dv).interest.n),u5,.v (.bool (fR dv).interest.d),u6,.v (.bool (PQ (dv 5000 100)).n),c12,.v (.bool (PQ (dv 5000 100)).d),d12,Ci 2,c18,u10,u11]) O O O iP O O (Nat.le_of_ble_eq_true O) ?_
 refine lN (xR ?_)
 refine kO (cs:=(cE Value.string [⟨#[80]⟩,⟨#[68]⟩,⟨#[65]⟩,⟨#[66]⟩,⟨#[67]⟩])) O fun b20=>?_
 refine uT z18 (p:=[]) O O O (fun _ h=>h) fun zfg20 _ g20=>?_
 have r20:SZ 1 RS zfg20 (Aw b20 5) bLZ:=Ls.sz rfl (by decide) g20
 refine lF O ?_
 refine mG (cs':=[Cs ⟨#[71,114,111,117,112]⟩,.v (.string (fR dv).parent),.sl b10 0 2 8,.v (.bool (fR dv).threshold.n),u1,.v (.bool (fR dv).threshold.d),u2,.v (.bool (PQ (dv 6000 10000)).n),c14,.v (.bool (PQ (dv 6000 10000)).d),d14,.v (.int .i64 (fR dv).back),Ci 3,.v (.bool (fR dv).interest.n),u5,.v (.bool (fR dv).interest.d),u6,.v (.bool (PQ (dv 5000 100)).n),c12,.v (.bool (PQ (dv 5000 100)).d),d12,Ci 2,c18,.sl b20 0 5 1,u11]) O O O iP O O (Nat.le_of_ble_eq_true O) ?_
 refine lN (xR ?_)
 refine lZ zfg20 (aXE hdv (by omega)) O O fun v22 z22 _ ⟨cs22,hv22,hR⟩=>?_
 subst hv22
 obtain ⟨y22_0,y22_1,y22_2,y22_3,y22_4,hcs,q22_0,q22_1,q22_2,q22_3,q22_4⟩:=hR
 subst hcs
 refine lZ z22 (aWe hdv (by omega)) O O fun v23 z23 _ ⟨cs23,hv23,hR⟩=>?_
 subst hv23
 obtain ⟨y23_0,y23_1,y23_2,y23_3,y23_4,hcs,q23_0,q23_1,q23_2,q23_3,q23_4⟩:=hR
 subst hcs
 refine lZ z23 (aXp hdv (by omega)) O O fun v24 z24 _ ⟨cs24,hv24,hR⟩=>?_
 subst hv24
 obtain ⟨y24_0,y24_1,y24_2,y24_3,y24_4,hcs,q24_0,q24_1,q24_2,q24_3,q24_4⟩:=hR
 subst hcs
 refine kO (cs:=[.v (.int .i64 (aE2 dv).number),y22_0,y22_1,y22_2,y22_3,y22_4,.v (.int .i64 (Yy dv).number),y23_0,y23_1,y23_2,y23_3,y23_4,.v (.int .i64 (aEX dv).number),y24_0,y24_1,y24_2,y24_3,y24_4]) O fun b25=>?_
 refine uT z24 (p:=[]) O O O (fun _ h=>h) fun zfg25 _ g25=>?_
 have r25:SZ 6 Ak zfg25 (.c (.sl b25 0 3 6)) (bLU dv):=CL.sz (sJ rfl (Ou (a:=(aE2 dv)) q22_0.m q22_1.m q22_2.m q22_3.m q22_4.m) (sJ rfl (Ou (a:=(Yy dv)) q23_0.m q23_1.m q23_2.m q23_3.m q23_4.m) (sJ rfl (Ou (a:=(aEX dv)) q24_0.m q24_1.m q24_2.m q24_3.m q24_4.m) (CL.nil)))) rfl (by decide) g25
 refine lF O ?_
 refine mG (cs':=[Cs ⟨#[71,114,111,117,112]⟩,.v (.string (fR dv).parent),.sl b10 0 2 8,.v (.bool (fR dv).threshold.n),u1,.v (.bool (fR dv).threshold.d),u2,.v (.bool (PQ (dv 6000 10000)).n),c14,.v (.bool (PQ (dv 6000 10000)).d),d14,.v (.int .i64 (fR dv).back),Ci 3,.v (.bool (fR dv).interest.n),u5,.v (.bool (fR dv).interest.d),u6,.v (.bool (PQ (dv 5000 100)).n),c12,.v (.bool (PQ (dv 5000 100)).d),d12,Ci 2,c18,.sl b20 0 5 1,.sl b25 0 3 6]) O O O iP O O (Nat.le_of_ble_eq_true O) ?_
 refine lN (xR (Aa O mem0 O ?_))
 refine mG (cs':=[Cs ⟨#[71,114,111,117,112]⟩,.v (.string (fR dv).parent),.sl b10 0 2 8,.v (.bool (fR dv).threshold.n),u1,.v (.bool (fR dv).threshold.d),u2,.v (.bool (PQ (dv 6000 10000)).n),c14,.v (.bool (PQ (dv 6000 10000)).d),d14,.v (.int .i64 (fR dv).back),Ci 3,.v (.bool (fR dv).interest.n),u5,.v (.bool (fR dv).interest.d),u6,.v (.bool (PQ (dv 5000 100)).n),c12,.v (.bool (PQ (dv 5000 100)).d),d12,Ci 2,c18,.sl b20 0 5 1,.sl b25 0 3 6]) O O O P1 O O (Nat.le_of_ble_eq_true O) ?_
 refine lN (xT (rQ (.inl O) (aXs O Y1 O rn) ?_))
 exact ⟨_,rfl,Ju (a:=aYO dv) r10.m w1.m w2.m m14.m n14.m w5.m w6.m m12.m n12.m r18.m r20.m r25⟩
end Go.Proofs.YtcnpoojdochapaaGreatDoor
