/- Sums, places, names, which classes fit; deals, walked. -/
import Derived.WalkKit
import Derived.Orders
import Derived.Test.YtlceligcgelbdaaGreatKF1
set_option linter.unusedVariables false
set_option linter.unusedSimpArgs false
set_option maxRecDepth 100000
set_option maxHeartbeats 1000000
namespace Go.Proofs.YtlceligcgelbdaaGreat
open Go.CE Go.RowKit Go.Num
open Go.Eng (kN)
abbrev B0 (n:Int):AV:=Ai n
theorem bVY {z:dA} {b ty:Nat} {c:C} (h:z b (.cells ty [c])):At z b 0 [c]:=⟨_,[c],h,rfl,by simp,rfl⟩
def aSv {α:Type} (p:α→Bool) (l:List α):Int:=match l.findIdx? p with
 | some i=>(i:Nat)
 | none=>-1
theorem aW3 {α:Type} {p:α→Bool} {l:List α} {i:Nat} {a:α} (ha:l[i]? = some a) (h:p a=true) (hp:∀ q,q<i→∀ b,l[q]? = some b→p b=false):aSv p l=(i:Nat):=by
 have:l.findIdx? p=some i:=by
  rw [List.findIdx?_eq_some_iff_getElem]
  obtain ⟨hl,he⟩:=List.getElem?_eq_some_iff.1 ha
  exact ⟨hl,by rw [he];exact h,fun q hq=>by rw [hp q hq _ (List.getElem?_eq_getElem (by omega))];simp⟩
 simp only [aSv,this]
theorem aWT {α:Type} {p:α→Bool} {l:List α} {i:Nat} (hi:l.length≤i) (hp:∀ q,q<i→∀ b,l[q]? = some b→p b=false):aSv p l = -1:=by
 have:l.findIdx? p=none:=by
  rw [List.findIdx?_eq_none_iff]
  intro a ha
  obtain ⟨q,hq⟩:=List.mem_iff_getElem?.1 ha
  exact hp q (by have:=(List.getElem?_eq_some_iff.1 hq).1;omega) a hq
 simp only [aSv,this]
theorem aWd {α:Type} {p:α→Bool} {l:List α} {i:Nat} {a:α} (hp:∀ q,q<i→∀ b,l[q]? = some b→p b=false) (ha:l[i]? = some a) (h:p a=false):∀ q,q<i+1→∀ b,l[q]? = some b→p b=false:=fun q hq b hb=>by
 by_cases hqi:q=i
 ·subst hqi;rw [ha] at hb;injection hb with hb;rw [← hb];exact h
 exact hp q (by omega) b hb
theorem aWN {α:Type} {p:α→Bool} {l:List α} (h:0≤aSv p l):∃ (i:Nat) (a:α),aSv p l=(i:Nat)∧l[i]? = some a∧p a=true:=by
 unfold aSv at h ⊢
 cases hf:l.findIdx? p with
 | none=>rw [hf] at h;simp at h
 | some i =>
  obtain ⟨h1,h2,_⟩:=List.findIdx?_eq_some_iff_getElem.1 hf
  exact ⟨i,l[i],rfl,List.getElem?_eq_getElem h1,h2⟩
abbrev uT (l:List ByteArray) (s:ByteArray):Int:=aSv (fun a=>decide (a=s)) l
abbrev wN (l:List nN) (s:ByteArray):Int:=aSv (fun c=>decide (c.name=s)) l
theorem I7 {k:Nat} (hk:1≤k) {z:dA} {v:AV} {l:List ByteArray} {s:ByteArray} (hx:SZ 1 RS z v l):FC (E k) 248 [v,.c (Cs s)] z fun u _=>u=B0 (uT l s):=by
 have hxl:=hx.le
 refine eA (bDa) (by omega) (aU O) fun B j hj=>?_
 refine R4 48 O ?_
 refine aS O hx ?_
 refine R0 2 O ?_
 refine aT (aQ ?_)
 refine dX (fun n fs=>∃ (i:Nat),LI z [] [(0,v),(1,.c (Cs s)),(7,Az l.length),(8,Az i)] fs∧n=l.length - i∧(i≤l.length)∧(∀ q,q<i→∀ b,l[q]? = some b→decide (b=s)=false)) ?_ _ ⟨0,LI.m [] O,rfl,Nat.zero_le _,fun q hq=>absurd hq (Nat.not_lt_zero _)⟩ (kK (by omega))
 intro n fs ⟨i,hL0,hmz0,hi,hp⟩
 refine hL0.open fun e zl0 _=>?_
 refine R5 8 O ?_
 refine xD O (fun hc9=>?_) (fun hc9=>?_)
 ·refine cP ?_
  refine aT (aQ ?_)
  refine R4 160 O ?_
  refine Hh (zz:=zl0) (e:=Value.string) O O hx.m i O (by omega) fun p14 hp14=>?_
  refine uO O hp14 ?_
  refine lB O O (aAI _ _) ?_
  refine lN ?_
  refine xD O (fun hc16=>?_) (fun hc16=>?_)
  ·refine R5 8 O ?_
   refine xT ?_
   refine nS ?_
   refine L9 ?_
   refine nS ?_
   exact rI O (congrArg B0 (aW3 (l:=l) (i:=i) (List.getElem?_eq_getElem (by omega)) (decide_eq_true hc16.symm) hp).symm)
  refine oC ?_
  refine eT ?_
  refine xG ?_
  refine lB O O (gI (n:=i+1) (by omega) (by omega)) ?_
  refine R0 2 O ?_
  exact mK (by omega) ⟨i+1,LI.m [] O,rfl,by omega,aWd hp (List.getElem?_eq_getElem (by omega)) (decide_eq_false fun h=>hc16 h.symm)⟩
 refine dH ?_
 refine nF ?_
 refine eT ?_
 refine R5 4 O ?_
 refine xT ?_
 exact rI O (congrArg B0 (aWT (l:=l) (i:=i) (by omega) hp).symm)
theorem Gf {k:Nat} (hk:2≤k) {z:dA} {v:AV} {l:List ByteArray} {s:ByteArray} (hx:SZ 1 RS z v l):FC (E k) 186 [v,.c (Cs s)] z fun u _=>u=B0 (uT l s):=by
 refine eA (bD1) (by omega) (aU O) fun B j hj=>?_
 refine R4 40 O ?_
 refine lE z (I7 (by omega) hx) O O fun z7 _=>?_
 refine R0 3 O ?_
 refine xT ?_
 refine rI O ?_
 rfl
theorem aNf {k:Nat} (hk:1≤k) {z:dA} {a1 s:ByteArray} {k1:Int} {m1 d1:Bool} {c0 c1:C} {b:Nat} (hb:At z b 0 [Cs s]):FC (E k) 247 [.agg [Cs a1,Cu k1,Cb m1,c0,Cb d1,c1],Ap b] z fun u _=>u=nE (decide (a1=s)):=by
 refine eA (bEd) (by omega) (aU O) fun B j hj=>?_
 refine xR ?_
 refine iU O fun b2=>?_
 refine R2 8 O ?_
 refine dK O mem0 O ?_
 refine Zm O hb ?_
 refine lB O O (aAI _ _) ?_
 refine R0 2 O ?_
 refine xT ?_
 refine rI O ?_
 rfl
theorem Bm {k:Nat} (hk:2≤k) {z:dA} {v:AV} {l:List nN} {s:ByteArray} {b:Nat} (hx:SZ 6 vR z v l) (hb:At z b 0 [Cs s]):FC (E k) 246 [v,.c (.fn 247 [] [(false,[.ptr b 0])])] z fun u _=>u=B0 (wN l s):=by
 have hxl:=hx.le
 refine eA (bCy) (by omega) (aU O) fun B j hj=>?_
 refine R4 48 O ?_
 refine aS O hx ?_
 refine R0 2 O ?_
 refine aT (aQ ?_)
 refine dX (fun n fs=>∃ (i:Nat),LI z [] [(0,v),(1,.c (.fn 247 [] [(false,[.ptr b 0])])),(7,Az l.length),(8,Az i)] fs∧n=l.length - i∧(i≤l.length)∧(∀ q,q<i→∀ b,l[q]? = some b→decide (b.name=s)=false)) ?_ _ ⟨0,LI.m [] O,rfl,Nat.zero_le _,fun q hq=>absurd hq (Nat.not_lt_zero _)⟩ (kK (by omega))
 intro n fs ⟨i,hL0,hmz0,hi,hp⟩
 refine hL0.open fun e zl0 _=>?_
 refine R5 8 O ?_
 refine xD O (fun hc9=>?_) (fun hc9=>?_)
 ·refine cP ?_
  refine aT (aQ ?_)
  refine R4 160 O ?_
  refine dE (zz:=zl0) O O hx.m i O _ (List.getElem?_eq_getElem (by omega)) fun b14 p14 cs at14 hR=>?_
  obtain ⟨c0,c1,hcs,q0,q1⟩:=hR
  subst hcs
  refine nQ (off:=0) O at14 O (by simp) O ?_
  refine aJ6 zl0 O (aNf (by omega) hb.m) O O fun v16 z16 _ hv16=>?_
  subst hv16
  refine lN ?_
  refine xD O (fun hc16=>?_) (fun hc16=>?_)
  ·refine R5 8 O ?_
   refine xT ?_
   refine nS ?_
   refine L9 ?_
   refine nS ?_
   exact rI O (congrArg B0 (aW3 (l:=l) (i:=i) (List.getElem?_eq_getElem (by omega)) (decide_eq_true hc16) hp).symm)
  refine oC ?_
  refine eT ?_
  refine xG ?_
  refine lB O O (gI (n:=i+1) (by omega) (by omega)) ?_
  refine R0 2 O ?_
  exact mK (by omega) ⟨i+1,LI.m [] O,rfl,by omega,aWd hp (List.getElem?_eq_getElem (by omega)) (decide_eq_false hc16)⟩
 refine dH ?_
 refine nF ?_
 refine eT ?_
 refine R5 4 O ?_
 refine xT ?_
 exact rI O (congrArg B0 (aWT (l:=l) (i:=i) (by omega) hp).symm)
theorem Jr {k:Nat} (hk:3≤k) {z:dA} {v:AV} {l:List nN} {s:ByteArray} (hx:SZ 6 vR z v l):FC (E k) 185 [v,.c (Cs s)] z fun u _=>u=B0 (wN l s):=by
 refine eA (bD7) (by omega) (aU O) fun B j hj=>?_
 refine xR ?_
 refine aDN O O fun b3=>?_
 refine R2 12 O ?_
 refine aZu O O ?_
 refine yB z (p:=[]) O O O (fun _ h=>h) fun zffb _ fb=>?_
 refine lE zffb (Bm (by omega) hx.m (bVY fb)) O O fun z7 _=>?_
 refine R0 3 O ?_
 refine xT ?_
 refine rI O ?_
 rfl
open Go.CE Go.RowKit Go.Num
open Go.Eng (kN)
def eBh (n:Int):Value:=.int .u8 n
instance:RMono (RE eBh):=⟨fun _ h=>h⟩
theorem bIU {l:List Int} {c x:Int} {i:Nat} (hp:∀ q,q<i→l[q]?≠some c) (hx:l[i]? = some x) (h:¬ c=x):∀ q,q<i+1→l[q]?≠some c:=fun q hq e=>by
 by_cases hqi:q=i
 ·subst hqi;rw [hx] at e;injection e with e;exact h e.symm
 exact hp q (by omega) e
theorem bNu {l:List Int} {c:Int} {i:Nat} {P:Prop} (hp:∀ q,q<i→l[q]?≠some c) (hi:l.length≤i) (h:c∈l):P:=by
 obtain ⟨q,hq⟩:=List.mem_iff_getElem?.1 h
 exact absurd hq (hp q (by have:=(List.getElem?_eq_some_iff.1 hq).1;omega))
def uQ (k:Int) (g:Bool):List Int:=if k=1∨k=2 then (if g=true then [1] else [2,4,5,6,7]) else if k=3 then (if g=true then [8] else [9]) else if k=4 then (if g=true then [10] else [11]) else []
theorem Uw {call:eE} {B:pK} {fs:Sf} {l:List I} {Q:Sf→Prop} {d:Nat} {len size:Nat} {agg:Bool} {x i:Go.Eng.Od} {cs:List C} {kd:IntKind} {z:Int} {v:AV} (hx:fs.ev x=.agg cs) (hi:fs.ev i=.c (.v (.int kd z))) (j:Nat) (hj:z=(j:Int)) (h:j<len) (hl:len * size=cs.length) (hv:I0 agg ((cs.drop (j * size)).take size)=v)
    (hw:FL call B l (fs.put d v) Q):FL call B (⟨some d,none,.ixa len agg size x i⟩::l) fs Q:=
  aGg (fun _ => rfl) (fun st rf => by
    simp only [bQ,rf.ev,hx,hi,AV.int?,hj]
    rw [Go.Eng.need_pos ⟨by omega,by omega,hl⟩,Int.toNat_natCast,hv]) hw
theorem aL1 {k0 n:Int} {v:AV} {m:Nat} {es:List (Value×AV×Nat)} {r:Option (Option AV)} (h:¬ k0=n) (t:Kz false (.int .u8 k0) es=r):Kz false (.int .u8 k0) ((.int .u8 n,v,m)::es)=r:=by
 have:aEs false (.int .u8 k0) (.int .u8 n)=some false:=by simp [aEs,h]
 simp only [Kz,this]
 exact t
theorem Jz {k:Nat} (hk:1≤k) {z:dA} {v:AV} {l:List Int} {c:Int} (hx:SZ 1 (RE eBh) z v l):FC (E k) 291 [v,.c (Cu c)] z fun u _=>∃ n:Int,u=Ai n∧(0≤n↔c∈l):=by
 have hxl:=hx.le
 refine eA (bDL) (by omega) (aU O) fun B j hj=>?_
 refine R4 48 O ?_
 refine aS O hx ?_
 refine R0 2 O ?_
 refine aT (aQ ?_)
 refine dX (fun n fs=>∃ (i:Nat),LI z [] [(0,v),(1,.c (Cu c)),(7,Az l.length),(8,Az i)] fs∧n=l.length - i∧(i≤l.length)∧(∀ q,q<i→l[q]?≠some c)) ?_ _ ⟨0,LI.m [] O,rfl,Nat.zero_le _,fun q hq=>absurd hq (Nat.not_lt_zero _)⟩ (kK (by omega))
 intro n fs ⟨i,hL0,hmz0,hi,hp⟩
 refine hL0.open fun e zl0 _=>?_
 refine R5 8 O ?_
 refine xD O (fun hc9=>?_) (fun hc9=>?_)
 ·refine cP ?_
  refine aT (aQ ?_)
  refine R4 160 O ?_
  refine Hh (zz:=zl0) O O hx.m (i) (O) (by omega) fun p14 hp14=>?_
  refine uO O hp14 ?_
  refine R0 2 O ?_
  refine xD O (fun hc16=>?_) (fun hc16=>?_)
  ·refine R5 8 O ?_
   refine xT ?_
   refine nS ?_
   refine L9 ?_
   refine nS ?_
   exact rI O ⟨_,rfl,⟨fun _=>by rw [hc16];exact List.getElem_mem _,fun _=>by omega⟩⟩
  refine oC ?_
  refine eT ?_
  refine xG ?_
  refine lB O O (gI (n:=i+1) (by omega) (by omega)) ?_
  refine R0 2 O ?_
  exact mK (by omega) ⟨i+1,LI.m [] O,rfl,by omega,bIU hp (List.getElem?_eq_getElem (by omega)) hc16⟩
 refine dH ?_
 refine nF ?_
 refine eT ?_
 refine R5 4 O ?_
 refine xT ?_
 exact rI O ⟨_,rfl,⟨fun h=>absurd h (by decide),fun h=>bNu hp (by omega) h⟩⟩
theorem iO {k:Nat} (hk:2≤k) {z:dA} {v:AV} {l:List Int} {c:Int} (hx:SZ 1 (RE eBh) z v l):FC (E k) 249 [v,.c (Cu c)] z fun u _=>u=Ab (decide (c∈l)):=by
 refine eA (bBZ) (by omega) (aU O) fun B j hj=>?_
 refine R4 40 O ?_
 refine lZ z (Jz (by omega) hx) O O fun v7 z7 _ ⟨n7,hv7,hn7⟩=>?_
 subst hv7
 refine R0 4 O ?_
 refine xT ?_
 exact rI O (cQ (by by_cases h:c∈l<;>simp_all))
theorem bFZ {k:Nat} (hk:3≤k) {z:dA} {c:Int} {g:Bool}:FC (E k) 187 [.c (Cu 1),Ab g,.c (Cu c)] z fun u _=>u=Ab (decide (c∈uQ 1 g)):=by
 refine eA (Wh) (by omega) (aU O) fun B j hj=>?_
 refine R4 8 O ?_
 refine aKK fun b9=>?_
 refine cX O fun b10=>?_
 refine cX O fun b11=>?_
 refine mN (cs:=[_,_]) O ?_
 refine uZ O O O O P2 ?_
 refine cX O fun b13=>?_
 refine cX O fun b14=>?_
 refine mN (cs:=[_,_]) O ?_
 refine uZ O O O O (mR P3) ?_
 refine cX O fun b16=>?_
 refine cX O fun b17=>?_
 refine mN (cs:=[_,_]) O ?_
 refine uZ O O O O (mR (mR (mR P3))) ?_
 refine cX O fun b19=>?_
 refine cX O fun b20=>?_
 refine mN (cs:=[_,_]) O ?_
 refine uZ O O O O (mR (mR (mR (mR (mR P3))))) ?_
 refine R3 259 O ?_
 refine jB O (fun hc23=>?_) (fun hc23=>?_)
 ·refine R4 40 O ?_
  refine It (r:=some _) O O (mC (mC (mC (mC Y4)))) O O ?_
  refine lC O ?_
  refine Uw O O 1 O (by omega) O O ?_
  refine lC O ?_
  refine yB z (p:=[_,_,_,_,_,_]) O O O (fun _ h=>h) fun zffb hzffb fb=>?_
  refine lE zffb (iO (by omega) (l:=[1]) ((Oe (e:=eBh)).sz O (by decide) fb)) O O fun z30 hz30=>?_
  refine R0 3 O ?_
  refine xT ?_
  exact rI O (cQ (by simp [uQ,hc23]))
 refine R4 20 O ?_
 refine It (r:=some _) O O (mC (mC (mC (mC Y4)))) O O ?_
 refine lC O ?_
 refine Uw O O 0 O (by omega) O O ?_
 refine lC O ?_
 refine yB z (p:=[_,_,_,_,_,_,_]) O O O (fun _ h=>h) fun zffb hzffb fb=>?_
 refine lE zffb (iO (by omega) (l:=[2,4,5,6,7]) ((Oe (e:=eBh)).sz O (by decide) fb)) O O fun z30 hz30=>?_
 refine R0 3 O ?_
 refine xT ?_
 exact rI O (cQ (by simp [uQ,hc23]))
theorem bFx {k:Nat} (hk:3≤k) {z:dA} {c:Int} {g:Bool}:FC (E k) 187 [.c (Cu 2),Ab g,.c (Cu c)] z fun u _=>u=Ab (decide (c∈uQ 2 g)):=by
 refine eA (Wh) (by omega) (aU O) fun B j hj=>?_
 refine R4 8 O ?_
 refine aKK fun b9=>?_
 refine cX O fun b10=>?_
 refine cX O fun b11=>?_
 refine mN (cs:=[_,_]) O ?_
 refine uZ O O O O P2 ?_
 refine cX O fun b13=>?_
 refine cX O fun b14=>?_
 refine mN (cs:=[_,_]) O ?_
 refine uZ O O O O (mR P3) ?_
 refine cX O fun b16=>?_
 refine cX O fun b17=>?_
 refine mN (cs:=[_,_]) O ?_
 refine uZ O O O O (mR (mR (mR P3))) ?_
 refine cX O fun b19=>?_
 refine cX O fun b20=>?_
 refine mN (cs:=[_,_]) O ?_
 refine uZ O O O O (mR (mR (mR (mR (mR P3))))) ?_
 refine R3 259 O ?_
 refine jB O (fun hc23=>?_) (fun hc23=>?_)
 ·refine R4 40 O ?_
  refine It (r:=some _) O O (mC (mC (mC (mC Y4)))) O O ?_
  refine lC O ?_
  refine Uw O O 1 O (by omega) O O ?_
  refine lC O ?_
  refine yB z (p:=[_,_,_,_]) O O O (fun _ h=>h) fun zffb hzffb fb=>?_
  refine lE zffb (iO (by omega) (l:=[1]) ((Oe (e:=eBh)).sz O (by decide) fb)) O O fun z30 hz30=>?_
  refine R0 3 O ?_
  refine xT ?_
  exact rI O (cQ (by simp [uQ,hc23]))
 refine R4 20 O ?_
 refine It (r:=some _) O O (mC (mC (mC (mC Y4)))) O O ?_
 refine lC O ?_
 refine Uw O O 0 O (by omega) O O ?_
 refine lC O ?_
 refine yB z (p:=[_,_,_,_,_]) O O O (fun _ h=>h) fun zffb hzffb fb=>?_
 refine lE zffb (iO (by omega) (l:=[2,4,5,6,7]) ((Oe (e:=eBh)).sz O (by decide) fb)) O O fun z30 hz30=>?_
 refine R0 3 O ?_
 refine xT ?_
 exact rI O (cQ (by simp [uQ,hc23]))
theorem bFF {k:Nat} (hk:3≤k) {z:dA} {c:Int} {g:Bool}:FC (E k) 187 [.c (Cu 3),Ab g,.c (Cu c)] z fun u _=>u=Ab (decide (c∈uQ 3 g)):=by
 refine eA (Wh) (by omega) (aU O) fun B j hj=>?_
 refine R4 8 O ?_
 refine aKK fun b9=>?_
 refine cX O fun b10=>?_
 refine cX O fun b11=>?_
 refine mN (cs:=[_,_]) O ?_
 refine uZ O O O O P2 ?_
 refine cX O fun b13=>?_
 refine cX O fun b14=>?_
 refine mN (cs:=[_,_]) O ?_
 refine uZ O O O O (mR P3) ?_
 refine cX O fun b16=>?_
 refine cX O fun b17=>?_
 refine mN (cs:=[_,_]) O ?_
 refine uZ O O O O (mR (mR (mR P3))) ?_
 refine cX O fun b19=>?_
 refine cX O fun b20=>?_
 refine mN (cs:=[_,_]) O ?_
 refine uZ O O O O (mR (mR (mR (mR (mR P3))))) ?_
 refine R3 259 O ?_
 refine jB O (fun hc23=>?_) (fun hc23=>?_)
 ·refine R4 40 O ?_
  refine It (r:=some _) O O (mC (mC (mC (mC Y4)))) O O ?_
  refine lC O ?_
  refine Uw O O 1 O (by omega) O O ?_
  refine lC O ?_
  refine yB z (p:=[_,_]) O O O (fun _ h=>h) fun zffb hzffb fb=>?_
  refine lE zffb (iO (by omega) (l:=[8]) ((Oe (e:=eBh)).sz O (by decide) fb)) O O fun z30 hz30=>?_
  refine R0 3 O ?_
  refine xT ?_
  exact rI O (cQ (by simp [uQ,hc23]))
 refine R4 20 O ?_
 refine It (r:=some _) O O (mC (mC (mC (mC Y4)))) O O ?_
 refine lC O ?_
 refine Uw O O 0 O (by omega) O O ?_
 refine lC O ?_
 refine yB z (p:=[_,_,_]) O O O (fun _ h=>h) fun zffb hzffb fb=>?_
 refine lE zffb (iO (by omega) (l:=[9]) ((Oe (e:=eBh)).sz O (by decide) fb)) O O fun z30 hz30=>?_
 refine R0 3 O ?_
 refine xT ?_
 exact rI O (cQ (by simp [uQ,hc23]))
theorem bIE {k:Nat} (hk:3≤k) {z:dA} {c:Int} {g:Bool}:FC (E k) 187 [.c (Cu 4),Ab g,.c (Cu c)] z fun u _=>u=Ab (decide (c∈uQ 4 g)):=by
 refine eA (Wh) (by omega) (aU O) fun B j hj=>?_
 refine R4 8 O ?_
 refine aKK fun b9=>?_
 refine cX O fun b10=>?_
 refine cX O fun b11=>?_
 refine mN (cs:=[_,_]) O ?_
 refine uZ O O O O P2 ?_
 refine cX O fun b13=>?_
 refine cX O fun b14=>?_
 refine mN (cs:=[_,_]) O ?_
 refine uZ O O O O (mR P3) ?_
 refine cX O fun b16=>?_
 refine cX O fun b17=>?_
 refine mN (cs:=[_,_]) O ?_
 refine uZ O O O O (mR (mR (mR P3))) ?_
 refine cX O fun b19=>?_
 refine cX O fun b20=>?_
 refine mN (cs:=[_,_]) O ?_
 refine uZ O O O O (mR (mR (mR (mR (mR P3))))) ?_
 refine R3 259 O ?_
 refine jB O (fun hc23=>?_) (fun hc23=>?_)
 ·refine R4 40 O ?_
  refine It (r:=some _) O O (mC (mC (mC (mC Y4)))) O O ?_
  refine lC O ?_
  refine Uw O O 1 O (by omega) O O ?_
  refine lC O ?_
  refine yB z (p:=[]) O O O (fun _ h=>h) fun zffb hzffb fb=>?_
  refine lE zffb (iO (by omega) (l:=[10]) ((Oe (e:=eBh)).sz O (by decide) fb)) O O fun z30 hz30=>?_
  refine R0 3 O ?_
  refine xT ?_
  exact rI O (cQ (by simp [uQ,hc23]))
 refine R4 20 O ?_
 refine It (r:=some _) O O (mC (mC (mC (mC Y4)))) O O ?_
 refine lC O ?_
 refine Uw O O 0 O (by omega) O O ?_
 refine lC O ?_
 refine yB z (p:=[_]) O O O (fun _ h=>h) fun zffb hzffb fb=>?_
 refine lE zffb (iO (by omega) (l:=[11]) ((Oe (e:=eBh)).sz O (by decide) fb)) O O fun z30 hz30=>?_
 refine R0 3 O ?_
 refine xT ?_
 exact rI O (cQ (by simp [uQ,hc23]))
theorem bGi {k:Nat} (hk:3≤k) {z:dA} {k0 c:Int} {g:Bool} (h1:¬ k0=1) (h2:¬ k0=2) (h3:¬ k0=3) (h4:¬ k0=4):FC (E k) 187 [.c (Cu k0),Ab g,.c (Cu c)] z fun u _=>u=Ab (decide (c∈uQ k0 g)):=by
 refine eA (Wh) (by omega) (aU O) fun B j hj=>?_
 refine R4 8 O ?_
 refine aKK fun b9=>?_
 refine cX O fun b10=>?_
 refine cX O fun b11=>?_
 refine mN (cs:=[_,_]) O ?_
 refine uZ O O O O P2 ?_
 refine cX O fun b13=>?_
 refine cX O fun b14=>?_
 refine mN (cs:=[_,_]) O ?_
 refine uZ O O O O (mR P3) ?_
 refine cX O fun b16=>?_
 refine cX O fun b17=>?_
 refine mN (cs:=[_,_]) O ?_
 refine uZ O O O O (mR (mR (mR P3))) ?_
 refine cX O fun b19=>?_
 refine cX O fun b20=>?_
 refine mN (cs:=[_,_]) O ?_
 refine uZ O O O O (mR (mR (mR (mR (mR P3))))) ?_
 refine R3 259 O ?_
 refine jB O (fun hc23=>?_) (fun hc23=>?_)
 ·refine R4 40 O ?_
  refine It (r:=none) O O (mC (mC (mC (mC Y4)))) (aL1 h1 (aL1 h2 (aL1 h3 (aL1 h4 O)))) O ?_
  refine lC O ?_
  refine Uw O O 1 O (by omega) O O ?_
  refine lC O ?_
  refine lE z (iO (by omega) (l:=[]) (.nil)) O O fun z30 hz30=>?_
  refine R0 3 O ?_
  refine xT ?_
  exact rI O (cQ (by simp [uQ,hc23,h1,h2,h3,h4]))
 refine R4 20 O ?_
 refine It (r:=none) O O (mC (mC (mC (mC Y4)))) (aL1 h1 (aL1 h2 (aL1 h3 (aL1 h4 O)))) O ?_
 refine lC O ?_
 refine Uw O O 0 O (by omega) O O ?_
 refine lC O ?_
 refine lE z (iO (by omega) (l:=[]) (.nil)) O O fun z30 hz30=>?_
 refine R0 3 O ?_
 refine xT ?_
 exact rI O (cQ (by simp [uQ,hc23,h1,h2,h3,h4]))
theorem aWB {k:Nat} (hk:3≤k) {z:dA} {k0 c:Int} {g:Bool}:FC (E k) 187 [.c (Cu k0),Ab g,.c (Cu c)] z fun u _=>u=Ab (decide (c∈uQ k0 g)):=by
 by_cases h1:k0=1
 ·subst h1;exact bFZ hk
 by_cases h2:k0=2
 ·subst h2;exact bFx hk
 by_cases h3:k0=3
 ·subst h3;exact bFF hk
 by_cases h4:k0=4
 ·subst h4;exact bIE hk
 exact bGi hk h1 h2 h3 h4
open Go.CE Go.RowKit Go.Num
open Go.Eng (kN)
theorem aZX {k:Nat} (hk:10≤k) {z:dA} {n1 n2:Bool} {c1 c2:C} {l1 l2:List UInt32} (hx:CZ 1 RW z c1 l1) (hy:CZ 1 RW z c2 l2) (h1:l1.length≤20000000) (h2:l2.length≤20000000):FC (E k) 39 [.agg [Cb n1,c1,Cb n2,c2]] z fun v _=>v=.c (.v (.int .i64 (valR ((n1,l1),(n2,l2))).num.sign)):=by
 refine eA (bFT) (by omega) (aU O) fun B j hj=>?_
 refine xR ?_
 refine iU O fun b1=>?_
 refine R2 4 O ?_
 refine sL O mem0 O ?_
 refine lZ z (Cf (by omega) hx hy h1 h2) O O fun v4 z4 _ hv4=>?_
 have hw4:=hv4 _ hx.m hy.m jF
 obtain ⟨c4,d4,hv,hm4,hn4⟩:=hw4
 subst hv
 refine aGw O O ?_
 refine lZ z4 (Zv (by omega) hm4) O O fun v6 z6 _ hv6=>?_
 rw [jI] at hv6
 refine R0 3 O ?_
 refine xT ?_
 exact rI O hv6
theorem bL4 {fs:Sf} {i b ty size:Nat} {cs:List C} {rs:List RR} {vs:List AV} (hp:fs.e i=Ap b) (hm:HA.blk b (.cells ty cs)∈fs.H) (hs:cs.length=size) (t:Vf fs rs vs):Vf fs (.c i true size::rs) (.agg cs::vs):=rc hp hm (by omega) (by rw [List.drop_zero,List.take_of_length_le (by omega)];rfl) t
def txt (l:List ByteArray):List (List UInt8):=l.map fun s=>s.data.toList
theorem aFZ (l:List ByteArray):(txt l).length=l.length:=by simp [txt]
theorem bOh {z:dA} {cs:List C} {l:List ByteArray} (h:CL 1 RS z cs l):cs=cS (txt l):=by
 have:=bHh (e:=Value.string) h
 rw [this,cS,txt,List.map_map]
 rfl
def mB (l:List ByteArray):List ByteArray:=(B8 (txt l)).map bs
theorem Be (l:List ByteArray):(mB l).length=l.length:=by rw [mB,List.length_map,aDO,aFZ]
theorem bGx {z:dA} {l:List ByteArray}:CL 1 RS z (cS (B8 (txt l))) (mB l):=by
 have h:CL 1 (RE Value.string) z (cE Value.string (mB l)) (mB l):=Oe
 have e:cE Value.string (mB l)=cS (B8 (txt l)):=by
  rw [cE,mB,cS,List.map_map];rfl
 rw [e] at h
 exact h
theorem bCg {k:Nat} (hk:1≤k) {z:dA} {v:AV} {l:List ByteArray} (hv:SZ 1 RS z v l) (hb:l.length≤1000):Lp (E k) 118 [v] z [] fun v' _ H'=>H'=[.row v' 9 1 (txt l).length (cS (txt l))]:=(aTa bCV hk hv (by omega)).mono fun v' z' H' _ ⟨cs,h1,h2,_⟩=>by rw [h1,bOh h2,aFZ]
theorem bRf {k:Nat} (hk:1≤k) {z:dA} {u:AV} {l:List (List UInt8)} (hl:l.length≤1000):Lp (E k) 184 [u] z [.row u 9 1 l.length (cS l)] fun v z' H'=>v=.tup []∧z'=z∧H'=[.row u 9 1 l.length (cS (B8 l))]:=bJ4 (call:=aLQ 321 117 (aEu 184 (aC3 106 107 h1))) (h0:=aC3 106 107 h1) bFQ (fun _ _ _ _ h=>h) (fun mem nx=>bOr mem nx) hk (by omega)
theorem aEP {k:Nat} (hk:2≤k) {z:dA} {x:oK} {c0 c1 c2 c3 c4 c5 c6 c7 c8 c9 c10 c11:C} (g0:CZ 8 tI z c0 x.brackets) (g1:CZ 1 RW z c1 x.threshold.nm) (g2:CZ 1 RW z c2 x.threshold.dm) (g3:CZ 1 RW z c3 x.cap.nm) (g4:CZ 1 RW z c4 x.cap.dm) (g5:CZ 1 RW z c5 x.interest.nm) (g6:CZ 1 RW z c6 x.interest.dm) (g7:CZ 1 RW z c7 x.floor.nm) (g8:CZ 1 RW z c8 x.floor.dm) (g9:CZ 6 vR z c9 x.classes) (g10:CZ 1 RS z c10 x.entities) (g11:CZ 6 Gk z c11 x.years) (hb:x.entities.length≤1000):FC (E k) 101 [.agg [Cs x.name,Cs x.parent,c0,Cb x.threshold.n,c1,Cb x.threshold.d,c2,Cb x.cap.n,c3,Cb x.cap.d,c4,Ci x.back,Ci x.forward,Cb x.interest.n,c5,Cb x.interest.d,c6,Cb x.floor.n,c7,Cb x.floor.d,c8,Ci x.keep,c9,c10,c11]] z fun u z'=>∃ c,u=.c c∧CZ 1 RS z' c (mB x.entities):=by
 refine eA (bCF) (by omega) (aU O) fun B j hj=>?_
 refine xR ?_
 refine iU O fun b1=>?_
 refine R2 8 O ?_
 refine dK O mem0 O ?_
 refine uW z [] (bCg (by omega) g10 hb) O O O fun v6 z6 H6 _ hH6=>?_
 subst hH6
 refine R2 13 O ?_
 refine uW z6 [.row v6 9 1 (txt x.entities).length (cS (txt x.entities))] (bRf (by omega) (by rw [aFZ];omega)) O O O fun v8 z8 H8 _ hv8=>?_
 obtain ⟨rfl,rfl,rfl⟩:=hv8
 refine lN ?_
 refine R5 14 O ?_
 refine Bd (p:=[]) O (bGx (l:=x.entities)) (by rw [Be,aFZ]) (by rw [aFZ];omega) fun zr _ hsr=>?_
 refine xT ?_
 refine rI O ?_
 obtain ⟨c,hc,_⟩:=SZ.one hsr
 subst hc
 exact ⟨c,rfl,hsr⟩
theorem aST {k:Nat} (hk:1≤k) {z:dA} {x:lL} {c0 c1:C}:FC (E k) 103 [.agg [Cb x.give,Cs x.id,Cu x.kind,Cs x.payee,Cs x.payer,Cs x.cls,Cb x.amount.n,c0,Cb x.amount.d,c1]] z fun v _=>v=.agg [Cs x.id,Cu x.kind,Cs x.payee,Cs x.payer]:=by
 refine eA (bDN) (by omega) (aU O) fun B j hj=>?_
 refine xR ?_
 refine iU O fun b1=>?_
 refine uM fun b2=>?_
 refine lN ?_
 refine R4 4 O ?_
 refine dK O Y1 O ?_
 refine lF O ?_
 refine dK O Y1 O ?_
 refine lF O ?_
 refine dK O Y1 O ?_
 refine lF O ?_
 refine dK O Y1 O ?_
 refine mN (cs:=[Cs x.id,Cu x.kind,Cs x.payee,Cs x.payer]) O ?_
 refine pA O O iW ?_
 refine lN ?_
 refine xT ?_
 refine rQ (.inl O) (rc4 O mem0 rn) ?_
 rfl
abbrev aBH (x:lL):Rat:=valR ((x.amount.n,x.amount.nm),(x.amount.d,x.amount.dm))
def Bo (nl:List ByteArray) (cl:List nN) (x:lL):Bool:=!decide (x.payee=x.payer) && decide (uT nl x.payee ≥ 0) && decide (uT nl x.payer ≥ 0) && decide (wN cl x.cls ≥ 0) && (cl[(wN cl x.cls).toNat]?).any (fun c=>decide (c.kind∈uQ x.kind x.give)) && decide ((aBH x).num.sign > 0)
theorem aEn {k:Nat} (hk:11≤k) {z:dA} {cn ck:C} {nl:List ByteArray} {cl:List nN} (hn:CZ 1 RS z cn nl) (hc0:CZ 6 vR z ck cl) {x:lL} {c0 c1:C} (g0:CZ 1 RW z c0 x.amount.nm) (g1:CZ 1 RW z c1 x.amount.dm) (hS:Sm x.amount):FC (E k) 102 [.agg [cn,ck],.agg [Cb x.give,Cs x.id,Cu x.kind,Cs x.payee,Cs x.payer,Cs x.cls,Cb x.amount.n,c0,Cb x.amount.d,c1]] z fun u _=>u=nE (Bo nl cl x):=by
 refine eA (bEw) (by omega) (aU O) fun B j hj=>?_
 refine xR ?_
 refine iU O fun b2=>?_
 refine iU O fun b3=>?_
 refine R2 8 O ?_
 refine dK O Y1 O ?_
 refine lF O ?_
 refine dK O mem0 O ?_
 refine lE z (Jr (by omega) hc0) O O fun z10 _=>?_
 refine R0 3 O ?_
 refine iN ?_
 refine G1 2 O ?_
 refine zG O O Ht O ?_
 refine G1 2 O ?_
 refine zG O O Ht O ?_
 refine gP O O F ?_
 refine lB O O (bGL _ _) (lN ?_)
 refine G1 2 O ?_
 refine aLH 16 O (fun hg16=>?_) (fun hg16=>?_)
 ·refine G1 2 O ?_
  refine zG O O (.inr Y1) O ?_
  refine G1 2 O ?_
  refine zG O O Ht O ?_
  refine gE z10 (Gf (by omega) hn.m) O O O O fun z21 _=>?_
  refine G1 12 O ?_
  refine yP 24 O (fun hg24=>?_) (fun hg24=>?_)
  ·refine G1 2 O ?_
   refine zG O O (.inr Y1) O ?_
   refine G1 2 O ?_
   refine zG O O Ht O ?_
   refine gE z21 (Gf (by omega) hn.m) O O O O fun z29 _=>?_
   refine G1 12 O ?_
   refine yP 32 O (fun hg32=>?_) (fun hg32=>?_)
   ·refine G1 25 O ?_
    refine yP 36 O (fun hg36=>?_) (fun hg36=>?_)
    ·refine G1 2 O ?_
     refine zG O O Ht O ?_
     refine G1 2 O ?_
     refine zG O O Ht O ?_
     refine G1 2 O ?_
     refine zG O O (.inr Y1) O ?_
     refine G1 3 O ?_
     obtain ⟨i44,a44,hi44,ha44,hp44⟩:=aWN hg36
     refine gP O O O ?_
     refine dE O O hc0 i44 hi44 a44 ha44 fun b44 p44 cs at44 hR=>lN ?_
     obtain ⟨c44,d44,hcs,q44,r44⟩:=hR
     subst hcs
     refine G1 2 O ?_
     refine oD (i:=⟨_,_,.load _ _ _⟩) (off:=1) O O O O at44 ti O (by simp) O sR ?_
     refine gE z29 (aWB (by omega)) O O O O fun z47 _=>?_
     refine G1 6 O ?_
     refine yP 49 O (fun hg49=>?_) (fun hg49=>?_)
     ·refine G1 2 O ?_
      refine gl4 O O Ht O ?_
      refine gE z47 (aZX (by omega) g0.m g1.m (by have:=hS.1;omega) (by have:=hS.2;omega)) O O O O fun z52 _=>?_
      refine G0 12 O ?_
      refine xT ?_
      exact rI O (congrArg nE (by simp [*,Bo]))
     refine G0 96 O ?_
     refine xT ?_
     exact rI O (congrArg nE (by simp [*,Bo]))
    refine G0 790528 O ?_
    refine xT ?_
    exact rI O (congrArg nE (by simp [*,Bo]))
   refine G0 12648456 O ?_
   refine xT ?_
   exact rI O (congrArg nE (by simp [*,Bo]))
  refine G0 3238004864 O ?_
  refine xT ?_
  exact rI O (congrArg nE (by simp [*,Bo]))
 refine G0 828929245312 O ?_
 refine xT ?_
 exact rI O (congrArg nE (by simp [*,Bo]))
theorem bQ5 {α:Type} {size:Nat} {R:RT α} {z:dA} {b ty:Nat} {cs:List C} {a:α} (h:z b (.cells ty cs)) (hR:R z cs a) (hl:cs.length=size):SZ size R z (.c (.sl b 0 1 size)) [a]:=by
 refine .sl b 0 1 _ cs [a] O (by decide) h O (by omega) fun i a' hi=>?_
 cases i with
 | zero=>simp at hi;subst hi;rw [Nat.zero_mul,List.drop_zero,List.take_of_length_le (by omega)];exact hR
 | succ i=>simp at hi
def aSY (nl:List ByteArray) (cl:List nN) (x y:lL) (c d:C):List C:=[Cs x.id,Cu x.kind,Ci (uT nl x.payee),Ci (uT nl x.payer),Ci (wN cl x.cls),Ci (wN cl y.cls),Cb (decide ((aBH x).num<0)),c,Cb (decide (((aBH x).den:Int)<0)),d]
theorem aEf {k:Nat} (hk:11≤k) {z:dA} {cn ck:C} {nl:List ByteArray} {cl:List nN} (hn:CZ 1 RS z cn nl) (hc0:CZ 6 vR z ck cl) {x:lL} {c0 c1:C} (g0:CZ 1 RW z c0 x.amount.nm) (g1:CZ 1 RW z c1 x.amount.dm) (hS:Sm x.amount) {y:lL} {cy0 cy1:C} (gy0:pO cy0 cy0=true) (gy1:pO cy1 cy1=true):FC (E k) 105 [.agg [cn,ck],.agg [Cb x.give,Cs x.id,Cu x.kind,Cs x.payee,Cs x.payer,Cs x.cls,Cb x.amount.n,c0,Cb x.amount.d,c1],.agg [Cb y.give,Cs y.id,Cu y.kind,Cs y.payee,Cs y.payer,Cs y.cls,Cb y.amount.n,cy0,Cb y.amount.d,cy1]] z fun v z'=>∃ c d,v=.agg (aSY nl cl x y c d)∧CZ 1 RW (zd z z') c (toL (aBH x).num.natAbs)∧CZ 1 RW (zd z z') d (toL ((aBH x).den:Int).natAbs):=by
 refine eA (bBK) (by omega) (aU O) fun B j hj=>?_
 refine xR ?_
 refine iU O fun b3=>?_
 refine iU O fun b4=>?_
 refine iU O fun b5=>?_
 refine kC fun b6=>?_
 refine lN ?_
 refine iN ?_
 refine G1 2 O ?_
 refine zG O O (.inr Y2) O ?_
 refine G1 2 O ?_
 refine zG O O (.inr Y2) O ?_
 refine G1 2 O ?_
 refine zG O O (.inr Y3) O ?_
 refine G1 2 O ?_
 refine zG O O (.inr Y2) O ?_
 refine gE z (Gf (by omega) hn) O O O O fun z15 hz15=>?_
 refine G1 2 O ?_
 refine zG O O (.inr Y3) O ?_
 refine G1 2 O ?_
 refine zG O O (.inr Y2) O ?_
 refine gE z15 (Gf (by omega) hn.m) O O O O fun z20 hz20=>?_
 refine G1 2 O ?_
 refine zG O O (.inr Y3) O ?_
 refine G1 2 O ?_
 refine zG O O (.inr Y2) O ?_
 refine gE z20 (Jr (by omega) hc0.m) O O O O fun z25 hz25=>?_
 refine G1 2 O ?_
 refine zG O O (.inr Y3) O ?_
 refine G1 2 O ?_
 refine zG O O (.inr Y1) O ?_
 refine gE z25 (Jr (by omega) hc0.m) O O O O fun z30 hz30=>?_
 refine G1 2 O ?_
 refine gl4 O O (.inr Y2) O ?_
 refine wE (k:=.cells 35 [Cb x.amount.n,c0,Cb x.amount.d,c1]) (w:=fun b=>.c (.sl b 0 1 4)) rfl F rfl (fun _=>rfl) (fun st hst=>?_) (fun b33 hT33=>?_)
 ·simp only [eP,zB,AS.ev,hst 32 (by simp [lS.sl,Od.sls,Od.sl])];rfl
 refine aPp z30 (p:=[]) O O O (fun _ h=>h) fun zff33 hzff33 f33=>?_
 refine gC zff33 (aVK (by omega) (bQ5 f33 (Dp g0.m g1.m) O) (by have:=hS.1;omega) (by have:=hS.2;omega)) O O O O fun v34 z34 _ hv34=>?_
 obtain ⟨c34,d34,hv,hm34,hn34⟩:=hv34
 subst hv
 have hm34:=hm34.mono (qY (hz15.trans (hz20.trans (hz25.trans (hz30.trans hzff33)))))
 have hn34:=hn34.mono (qY (hz15.trans (hz20.trans (hz25.trans (hz30.trans hzff33)))))
 refine gP O O F ?_
 refine mN (cs:=aSY nl cl x y c34 d34) (by kernel_rfl) (lN ?_)
 refine gS O O O ?_
 refine oI O O O O iW ?_
 refine lN ?_
 refine mL ?_
 refine xT ?_
 refine rQ (.inl O) (bL4 O mem0 O rn) ?_
 exact ⟨_,_,rfl,hm34,hn34⟩
open Go.CE Go.RowKit Go.Num
def B2 (s:ByteArray) (l:List lL):List Nat:=(List.range l.length).filter fun i=>(l[i]?).any fun d=>decide (d.id=s)
theorem aO7 {s:ByteArray} {l:List lL} {i:Nat}:i∈B2 s l↔∃ d,l[i]? = some d∧d.id=s:=by
 simp only [B2,List.mem_filter,List.mem_range,Option.any_eq_true,decide_eq_true_eq]
 constructor
 ·rintro ⟨_,h⟩;exact h
 rintro ⟨d,h,e⟩
 exact ⟨(List.getElem?_eq_some_iff.1 h).1,d,h,e⟩
theorem aXF {s:ByteArray} {l:List lL} {i:Nat} {a:lL} (h:l[i]? = some a):B2 s (l.take (i+1))=if s=a.id then B2 s (l.take i)++[i] else B2 s (l.take i):=by
 obtain ⟨hl,he⟩:=List.getElem?_eq_some_iff.1 h
 have e1:(l.take (i+1)).length=i+1:=by rw [List.length_take];omega
 have e2:(l.take i).length=i:=by rw [List.length_take];omega
 unfold B2
 rw [e1,e2,List.range_succ,List.filter_append]
 have h1:(List.range i).filter (fun j=>((l.take (i+1))[j]?).any fun d=>decide (d.id=s))=(List.range i).filter fun j=>((l.take i)[j]?).any fun d=>decide (d.id=s):=by
  refine List.filter_congr fun j hj=>?_
  have hj:=List.mem_range.1 hj
  rw [List.getElem?_take,List.getElem?_take,if_pos (by omega),if_pos hj]
 rw [h1]
 have h2:(l.take (i+1))[i]? = some a:=by rw [List.getElem?_take,if_pos (by omega),h]
 simp only [List.filter_cons,List.filter_nil,h2,Option.any_some,decide_eq_true_eq]
 by_cases hs:a.id=s
 ·rw [if_pos hs,if_pos hs.symm]
 rw [if_neg hs,if_neg fun e=>hs e.symm,List.append_nil]
theorem bI8 (s:ByteArray) (l:List lL):(B2 s l).length≤l.length:=by
 have:=List.length_filter_le (fun i=>(l[i]?).any fun d=>decide (d.id=s)) (List.range l.length)
 rwa [List.length_range] at this
theorem bFE {s:ByteArray} {l:List lL}:(B2 s l).Pairwise (· < ·):=List.pairwise_lt_range.filter _
def I4 (a b:lL):Bool:=!decide (a.id=b.id∧a.kind=b.kind∧a.payee=b.payee∧a.payer=b.payer) || (a.give == b.give) || !decide (aBH a=aBH b)
def aBr (nl:List ByteArray) (cl:List nN) (dl:List lL) (i:Nat):Bool:=match dl[i]? with
  | none=>false
  | some d => !Bo nl cl d || (match B2 d.id dl with
    | [p, q] => (match dl[p]?, dl[q]? with
      | some a,some b=>I4 a b
      | _,_=>true)
    | _=>true)
def aB3 (dl:List lL) (i:Nat):Option (lL×lL):=match dl[i]? with
 | some d=>match d.give with
  | true=>match B2 d.id dl with
   | [p,q]=>(dl[p+q - i]?).map fun e=>(d,e)
   | _=>none
  | false=>none
 | none=>none
def L8 (dl:List lL) (m:Nat):List (lL×lL):=(List.range m).filterMap (aB3 dl)
theorem aF6 (dl:List lL) (i:Nat):L8 dl (i+1)=L8 dl i++(aB3 dl i).toList:=by
 unfold L8
 rw [List.range_succ,List.filterMap_append]
 congr 1
section
variable {nl:List ByteArray} {cl:List nN} {dl:List lL} {i p q:Nat} {d a b:lL}
theorem bLG (h:dl[i]? = some d) (g:Bo nl cl d=false):aBr nl cl dl i=true:=by simp [aBr,h,g]
theorem bHq (h:dl[i]? = some d) (g:(B2 d.id dl).length≠2):aBr nl cl dl i=true:=by
 simp only [aBr,h]
 rcases hp:B2 d.id dl with _ | ⟨p,_ | ⟨q,_ | ⟨r,t⟩⟩⟩<;>simp_all
theorem aSX (h:dl[i]? = some d) (hp:B2 d.id dl=[p,q]) (ha:dl[p]? = some a) (hb:dl[q]? = some b):aBr nl cl dl i=(!Bo nl cl d || I4 a b):=by
 simp only [aBr,h,hp,ha,hb]
theorem aW4 {l:List Nat} (h:l.length=2):∃ p q,l=[p,q]:=by
 match l,h with
 | [p,q],_=>exact ⟨p,q,rfl⟩
theorem aD4 (hp:B2 d.id dl=[p,q]):p<q∧(∃ a,dl[p]? = some a∧a.id=d.id)∧∃ b,dl[q]? = some b∧b.id=d.id:=by
 have h1:p∈B2 d.id dl:=by rw [hp];simp
 have h2:q∈B2 d.id dl:=by rw [hp];simp
 have h3:=bFE (s:=d.id) (l:=dl)
 rw [hp] at h3
 exact ⟨(List.pairwise_cons.1 h3).1 q (by simp),aO7.1 h1,aO7.1 h2⟩
theorem Y0 (h:dl[i]? = some d) (hp:B2 d.id dl=[p,q]):i=p∨i=q:=by
 have:i∈B2 d.id dl:=aO7.2 ⟨d,h,rfl⟩
 rw [hp] at this
 simpa using this
theorem bKK (h:dl[i]? = some d) (g:aBr nl cl dl i=false):∃ p q a b,B2 d.id dl=[p,q]∧dl[p]? = some a∧dl[q]? = some b∧p<q∧Bo nl cl d=true∧I4 a b=false:=by
 by_cases h2:(B2 d.id dl).length=2
 ·obtain ⟨p,q,hp⟩:=aW4 h2
  obtain ⟨h3,⟨a,ha,_⟩,b,hb,_⟩:=aD4 hp
  rw [aSX h hp ha hb] at g
  simp only [Bool.or_eq_false_iff,Bool.not_eq_false'] at g
  exact ⟨p,q,a,b,hp,ha,hb,h3,g.1,g.2⟩
 rw [bHq h h2] at g;cases g
theorem aWM (h:dl[i]? = some d) (hg:d.give=true) (hp:B2 d.id dl=[p,q]) (hb:dl[p+q - i]? = some b):aB3 dl i=some (d,b):=by
 simp only [aB3,h,hg,hp,hb,Option.map_some]
theorem bAy (h:dl[i]? = some d) (hg:d.give=false):aB3 dl i=none:=by simp only [aB3,h,hg]
theorem aSV {x:lL×lL} (h:aB3 dl i=some x):dl[i]? = some x.1∧x.1.give=true∧∃ p q,B2 x.1.id dl=[p,q]∧dl[p+q - i]? = some x.2:=by
 unfold aB3 at h
 split at h
 ·rename_i d hd
  split at h
  ·rename_i hg
   split at h
   ·rename_i p q hp
    cases hb:dl[p+q - i]? with
    | none=>rw [hb] at h;cases h
    | some b =>
     rw [hb] at h
     injection h with h
     subst h
     exact ⟨hd,hg,p,q,hp,hb⟩
   cases h
  cases h
 cases h
theorem bET (h:I4 a b=false):a.give≠b.give:=by
 simp only [I4,Bool.or_eq_false_iff] at h
 simpa using h.1.2
theorem aYd (h:∀ i,i<dl.length→aBr nl cl dl i=false) (m:Nat):((L8 dl m).map fun a=>tx a.1.id).Nodup:=by
 unfold List.Nodup L8
 rw [List.pairwise_map,List.pairwise_filterMap]
 refine List.pairwise_lt_range.imp fun {i j} hij x hx y hy he=>?_
 obtain ⟨h1,h2,p,q,h3,_⟩:=aSV hx
 obtain ⟨g1,g2,_⟩:=aSV hy
 have he:=aZr.1 he
 have hi:i=p∨i=q:=Y0 h1 h3
 have hj:j=p∨j=q:=Y0 g1 (by rw [← he];exact h3)
 obtain ⟨p',q',a,b,k1,k2,k3,_,_,k4⟩:=bKK h1 (h i (List.getElem?_eq_some_iff.1 h1).1)
 rw [h3] at k1
 simp only [List.cons.injEq,and_true] at k1
 obtain ⟨rfl,rfl⟩:=k1
 have hg:=bET k4
 have:i=p∧j=q:=by
  obtain ⟨hlt,_⟩:=aD4 h3
  omega
 obtain ⟨rfl,rfl⟩:=this
 rw [h1] at k2
 rw [g1] at k3
 injection k2 with k2
 injection k3 with k3
 subst k2 k3
 exact hg (h2.trans g2.symm)
end
def aTU (nl:List ByteArray) (cl:List nN):RT (lL×lL):=fun z cs a=>∃ c d,cs=aSY nl cl a.1 a.2 c d∧CZ 1 RW z c (toL (aBH a.1).num.natAbs)∧CZ 1 RW z d (toL ((aBH a.1).den:Int).natAbs)
instance {nl:List ByteArray} {cl:List nN}:RMono (aTU nl cl):=⟨fun hz ⟨c,d,h,g1,g2⟩=>⟨c,d,h,g1.mono hz,g2.mono hz⟩⟩
abbrev PQ:=(lL×lL)×C×C
def J9 (nl:List ByteArray) (cl:List nN) (t:PQ):List C:=aSY nl cl t.1.1 t.1.2 t.2.1 t.2.2
def aG4 (nl:List ByteArray) (cl:List nN) (L:List PQ):List C:=L.flatMap (J9 nl cl)
def QOk (z:dA) (t:PQ):Prop:=CZ 1 RW z t.2.1 (toL (aBH t.1.1).num.natAbs)∧CZ 1 RW z t.2.2 (toL ((aBH t.1.1).den:Int).natAbs)
theorem QOk.mono {z z':dA} {t:PQ} (h:QOk z t) (hz:zle z z'):QOk z' t:=⟨h.1.mono hz,h.2.mono hz⟩
def leQ (a b:PQ):Bool:=decide (tx a.1.1.id≤tx b.1.1.id)
def leP (a b:lL×lL):Bool:=decide (tx a.1.id≤tx b.1.id)
def aX0 (L:List PQ):List PQ:=L.mergeSort leQ
def aDI (P:List (lL×lL)):List (lL×lL):=P.mergeSort leP
theorem bEk (L:List PQ):(aX0 L).map (·.1)=aDI (L.map (·.1)):=List.map_mergeSort (r:=leQ) (s:=leP) (f:=fun t:PQ=>t.1) fun a _ b _=>rfl
theorem bCb (L:List PQ):(aX0 L).length=L.length:=List.length_mergeSort L
theorem bER {L:List PQ} {t:PQ}:t∈aX0 L↔t∈L:=(List.mergeSort_perm L leQ).mem_iff
def chQ (nl:List ByteArray) (cl:List nN) (t:PQ):Ch:=(tx t.1.1.id,J9 nl cl t)
theorem bAj (nl:List ByteArray) (cl:List nN) (L:List PQ):(L.map (chQ nl cl)).flatMap (·.2)=aG4 nl cl L:=by rw [List.flatMap_map];rfl
theorem bKi (nl:List ByteArray) (cl:List nN) (L:List PQ):Ky (L.map (chQ nl cl))=(aX0 L).map (chQ nl cl):=(List.map_mergeSort (r:=leQ) (s:=leC) (f:=chQ nl cl) fun a _ b _=>rfl).symm
theorem bUF {nl:List ByteArray} {cl:List nN} (t:PQ):aYh (chQ nl cl t):=⟨_,rfl,rfl⟩
theorem bJS {k:Nat} (hk:1≤k) {z:dA} {u:AV} {nl:List ByteArray} {cl:List nN} {L:List PQ} (hl:L.length≤1000) (hd:(L.map fun t=>tx t.1.1.id).Nodup):Lp (E k) 106 [u,.c (.fn 107 [] [])] z [.row u 116 10 L.length (aG4 nl cl L)] fun v z' H'=>v=.tup []∧z'=z∧H'=[.row u 116 10 L.length (aG4 nl cl (aX0 L))]:=by
 have h:=bGB (call:=aLQ 321 117 (aEu 184 (aC3 106 107 h1))) (h0:=h1) (g:=107) (ty:=116) (u:=u) (z:=z) (k0:=K0) (l:=L.map (chQ nl cl)) bGb (fun _ _ _ _ h=>h) (fun mem nx=>bPB mem nx) hk (by rw [List.length_map];omega) (fun x hx=>by obtain ⟨t,_,rfl⟩:=List.mem_map.1 hx;exact bUF t) (by rw [List.map_map];exact hd)
 rw [bKi,bAj,bAj,List.length_map] at h
 exact h
theorem bAP {nl:List ByteArray} {cl:List nN} {z:dA} {L:List PQ} (h:∀ t,t∈L→QOk z t):CL 10 (aTU nl cl) z (aG4 nl cl L) (L.map (·.1)):=by
 induction L with
 | nil=>exact CL.nil
 | cons t L ih =>
  have h1:=h t (List.mem_cons_self ..)
  have h2:=ih fun x hx=>h x (List.mem_cons_of_mem _ hx)
  have h3:CL 10 (aTU nl cl) z (J9 nl cl t) [t.1]:=by
   refine ⟨O,fun i a hi=>?_⟩
   cases i with
   | zero=>simp at hi;subst hi;exact ⟨rfl,_,_,rfl,h1.1,h1.2⟩
   | succ i=>simp at hi
  exact h3.append h2
end Go.Proofs.YtlceligcgelbdaaGreat
