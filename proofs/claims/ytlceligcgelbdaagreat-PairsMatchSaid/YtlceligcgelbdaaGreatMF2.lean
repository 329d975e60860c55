/- Sums, places, names, which classes fit; deals, walked. -/
import Derived.WalkKit
import Derived.Orders
import Derived.Test.YtlceligcgelbdaaGreatMF1
set_option linter.unusedVariables false
set_option linter.unusedSimpArgs false
set_option maxRecDepth 100000
set_option maxHeartbeats 1000000
namespace Go.Proofs.YtlceligcgelbdaaGreat
open Go.CE Go.RowKit Go.Num
open Go.Eng (mR)
abbrev oO (b:Bool):AV:=Ab b
abbrev Bt (n:Int):AV:=Ai n
theorem at1 {z:fR} {b ty:Nat} {c:C} (h:z b (.cells ty [c])):At z b 0 [c]:=⟨_,[c],h,rfl,by simp,rfl⟩
def aUL {α:Type} (p:α→Bool) (l:List α):Int:=match l.findIdx? p with
 | some i=>(i:Nat)
 | none=>-1
theorem aUh {α:Type} {p:α→Bool} {l:List α} {i:Nat} {a:α} (ha:l[i]? = some a) (h:p a=true) (hp:∀ q,q<i→∀ b,l[q]? = some b→p b=false):aUL p l=(i:Nat):=by
 have:l.findIdx? p=some i:=by
  rw [List.findIdx?_eq_some_iff_getElem]
  obtain ⟨hl,he⟩:=List.getElem?_eq_some_iff.1 ha
  exact ⟨hl,by rw [he];exact h,fun q hq=>by rw [hp q hq _ (List.getElem?_eq_getElem (by omega))];simp⟩
 simp only [aUL,this]
theorem aUZ {α:Type} {p:α→Bool} {l:List α} {i:Nat} (hi:l.length≤i) (hp:∀ q,q<i→∀ b,l[q]? = some b→p b=false):aUL p l = -1:=by
 have:l.findIdx? p=none:=by
  rw [List.findIdx?_eq_none_iff]
  intro a ha
  obtain ⟨q,hq⟩:=List.mem_iff_getElem?.1 ha
  exact hp q (by have:=(List.getElem?_eq_some_iff.1 hq).1;omega) a hq
 simp only [aUL,this]
theorem aU0 {α:Type} {p:α→Bool} {l:List α} {i:Nat} {a:α} (hp:∀ q,q<i→∀ b,l[q]? = some b→p b=false) (ha:l[i]? = some a) (h:p a=false):∀ q,q<i+1→∀ b,l[q]? = some b→p b=false:=fun q hq b hb=>by
 by_cases hqi:q=i
 ·subst hqi;rw [ha] at hb;injection hb with hb;rw [← hb];exact h
 exact hp q (by omega) b hb
theorem aZt {α:Type} {p:α→Bool} {l:List α} (h:0≤aUL p l):∃ (i:Nat) (a:α),aUL p l=(i:Nat)∧l[i]? = some a∧p a=true:=by
 unfold aUL at h ⊢
 cases hf:l.findIdx? p with
 | none=>rw [hf] at h;simp at h
 | some i =>
  obtain ⟨h1,h2,_⟩:=List.findIdx?_eq_some_iff_getElem.1 hf
  exact ⟨i,l[i],rfl,List.getElem?_eq_getElem h1,h2⟩
abbrev Ff (l:List ByteArray) (s:ByteArray):Int:=aUL (fun a=>decide (a=s)) l
abbrev N7 (l:List rS) (s:ByteArray):Int:=aUL (fun c=>decide (c.name=s)) l
theorem bBw {k:Nat} (hk:10≤k) {z:fR} {v:AV} {x:Ax} (hx:SZ 4 aSY z v [x]) (h1:x.nm.length≤9000000) (h2:x.dm.length≤9000000):FC (E k) 37 [v] z fun v z'=>QV (zd z z') v (valR ((x.n,x.nm),(x.d,x.dm))):=by
 have em:=Nat.le_trans (aRm (x:=((x.n,x.nm),(x.d,x.dm)))) h1
 have en:=Nat.le_trans (aPp (x:=((x.n,x.nm),(x.d,x.dm)))) (Nat.succ_le_succ h2)
 refine iI (bIk) (by omega) (dN O) fun B j hj=>?_
 refine xR ?_
 refine F3 fun b2=>?_
 refine lN ?_
 refine xR ?_
 refine lZ z (aWN (by omega) (by decide) (by decide)) O O fun v6 z6 hz6 hv6=>?_
 obtain ⟨c6,d6,hv,hm6,hn6⟩:=hv6
 subst hv
 refine F3 fun b3=>?_
 refine uZ O O lR ?_
 refine lN ?_
 refine R4 12 O ?_
 refine cX O hx ?_
 refine R0 2 O ?_
 refine dE (bQ ?_)
 refine eT (fun n fs=>∃ (i:Nat) (q:Rat) (c3:C) (d3:C) (zz:fR),LZ z6 zz [.blk b3 (.cells 35 [Cb (decide (q.num<0)),c3,Cb (decide ((q.den:Int)<0)),d3]),.blk b2 (.cells 35 [Cb false,Cz,Cb false,Cz])] [(2,Ap b2),(3,Ap b3),(7,v),(8,Az ([x].length)),(9,Az i)] fs∧n=1 - i∧(i≤1)∧(q=if i=0 then 0 else valR ((x.n,x.nm),(x.d,x.dm)))∧(CZ 1 RW (zd z zz) c3 (toL q.num.natAbs))∧(CZ 1 RW (zd z zz) d3 (toL (q.den:Int).natAbs))) ?_ _ ⟨0,0,_,_,_,LZ.m [] O,rfl,by omega,rfl,hm6,hn6⟩ (kK (by omega))
 intro n fs ⟨i,q,c3,d3,zz,hL0,hmz0,hi,hq,hqm,hqn⟩
 refine hL0.open fun e hzz=>?_
 refine R5 8 O ?_
 refine xD O (fun hc10=>?_) (fun hc10=>?_)
 ·refine dX ?_
  refine dE (bQ ?_)
  refine xR ?_
  have hi0:i=0:=by have:=hc10;simp only [List.length_cons,List.length_nil] at this;omega
  have hq0:q=0:=by rw [hq,if_pos hi0]
  have hql:(toL q.num.natAbs).length≤9000001:=by rw [hq0,show toL (0:Rat).num.natAbs=[] from uW];simp
  have hqd:(toL (q.den:Int).natAbs).length≤9000001:=by rw [hq0];exact Nat.le_trans (m:=1) (qS.2 (by decide)) (by omega)
  refine eA (zz:=zz) O O hx.m i O x (by rw [hi0];rfl) fun b11 p11 cs at11 hR=>?_
  obtain ⟨c11,d11,hcs,qm,qn⟩:=hR
  subst hcs
  refine tG (off:=0) O at11 O (by simp) O ?_
  refine F3 fun b5=>?_
  refine uZ O O lR ?_
  refine lN ?_
  refine Ak ?_
  refine gl4 O O (.inr Y1) O ?_
  refine gl4 O O Ht O ?_
  refine gC zz (O1 (by omega) qm qn (Nat.le_trans h1 (show 9000000≤20000000 by decide)) (Nat.le_trans h2 (show 9000000≤20000000 by decide))) O O O O fun v15 z15 hz15 hv15=>?_
  have hw15:=V7 (hv15 _ qm.m qn.m kY)
  obtain ⟨c15,d15,hv,hm15,hn15⟩:=hw15
  subst hv
  refine gC z15 (bBl (by omega) hqm.m hqn.m hm15 hn15 hql hqd (Nat.le_succ_of_le em) en) O O O O fun v16 z16 _ hv16=>?_
  rw [hq0,Rat.zero_add] at hv16
  obtain ⟨c16,d16,hv,hm16,hn16⟩:=hv16
  subst hv
  have hm16:=hm16.mono (vS (hz6.trans (hzz.trans hz15)))
  have hn16:=hn16.mono (vS (hz6.trans (hzz.trans hz15)))
  refine gS O O O ?_
  refine uZ O O P1 ?_
  refine lN ?_
  refine nQ ?_
  refine iE ?_
  refine xG ?_
  refine lB O O (iW (n:=i+1) (by omega) (by omega)) ?_
  refine R0 2 O ?_
  exact nN (by omega) ⟨i+1,valR ((x.n,x.nm),(x.d,x.dm)),_,_,_,LZ.m [_] O,rfl,by omega,by rw [if_neg (by omega)],hm16,hn16⟩
 refine eE ?_
 refine oC ?_
 refine iE ?_
 refine xR ?_
 refine qZ O mem0 O ?_
 refine uZ O O P1 ?_
 refine lN ?_
 refine xT ?_
 refine rQ (.inl O) (rc4 O Y1 rn) ?_
 rw [if_neg (show ¬ i=0 by have:=hc10;simp only [List.length_cons,List.length_nil] at this;omega)] at hq
 subst hq
 exact ⟨_,_,rfl,hqm,hqn⟩
theorem I1 {k:Nat} (hk:1≤k) {z:fR} {v:AV} {l:List ByteArray} {s:ByteArray} (hx:SZ 1 RS z v l):FC (E k) 248 [v,.c (Cs s)] z fun u _=>u=Bt (Ff l s):=by
 have hxl:=hx.le
 refine iI (bBu) (by omega) (dN O) fun B j hj=>?_
 refine R4 48 O ?_
 refine cX O hx ?_
 refine R0 2 O ?_
 refine dE (bQ ?_)
 refine eT (fun n fs=>∃ (i:Nat),LI z [] [(0,v),(1,.c (Cs s)),(7,Az l.length),(8,Az i)] fs∧n=l.length - i∧(i≤l.length)∧(∀ q,q<i→∀ b,l[q]? = some b→decide (b=s)=false)) ?_ _ ⟨0,LI.m [] O,rfl,Nat.zero_le _,fun q hq=>absurd hq (Nat.not_lt_zero _)⟩ (kK (by omega))
 intro n fs ⟨i,hL0,hmz0,hi,hp⟩
 refine hL0.open fun e zl0 _=>?_
 refine R5 8 O ?_
 refine xD O (fun hc9=>?_) (fun hc9=>?_)
 ·refine dX ?_
  refine dE (bQ ?_)
  refine R4 160 O ?_
  refine K9 (zz:=zl0) (e:=Value.string) O O hx.m i O (by omega) fun p14 hp14=>?_
  refine wF O hp14 ?_
  refine lB O O (Wl _ _) ?_
  refine lN ?_
  refine xD O (fun hc16=>?_) (fun hc16=>?_)
  ·refine R5 8 O ?_
   refine xT ?_
   refine oD ?_
   refine Ou ?_
   refine oD ?_
   exact rI O (congrArg Bt (aUh (l:=l) (i:=i) (List.getElem?_eq_getElem (by omega)) (decide_eq_true hc16.symm) hp).symm)
  refine mQ ?_
  refine iE ?_
  refine xG ?_
  refine lB O O (iW (n:=i+1) (by omega) (by omega)) ?_
  refine R0 2 O ?_
  exact nN (by omega) ⟨i+1,LI.m [] O,rfl,by omega,aU0 hp (List.getElem?_eq_getElem (by omega)) (decide_eq_false fun h=>hc16 h.symm)⟩
 refine eE ?_
 refine oC ?_
 refine iE ?_
 refine R5 4 O ?_
 refine xT ?_
 exact rI O (congrArg Bt (aUZ (l:=l) (i:=i) (by omega) hp).symm)
theorem Jg {k:Nat} (hk:2≤k) {z:fR} {v:AV} {l:List ByteArray} {s:ByteArray} (hx:SZ 1 RS z v l):FC (E k) 186 [v,.c (Cs s)] z fun u _=>u=Bt (Ff l s):=by
 refine iI (bCN) (by omega) (dN O) fun B j hj=>?_
 refine R4 40 O ?_
 refine lE z (I1 (by omega) hx) O O fun z7 _=>?_
 refine R0 3 O ?_
 refine xT ?_
 refine rI O ?_
 rfl
theorem aMb {k:Nat} (hk:1≤k) {z:fR} {a1 s:ByteArray} {k1:Int} {m1 d1:Bool} {c0 c1:C} {b:Nat} (hb:At z b 0 [Cs s]):FC (E k) 247 [.agg [Cs a1,Cu k1,Cb m1,c0,Cb d1,c1],Ap b] z fun u _=>u=oO (decide (a1=s)):=by
 refine iI (bCL) (by omega) (dN O) fun B j hj=>?_
 refine xR ?_
 refine kN O fun b2=>?_
 refine R2 8 O ?_
 refine dH O mem0 O ?_
 refine aFH O hb ?_
 refine lB O O (Wl _ _) ?_
 refine R0 2 O ?_
 refine xT ?_
 refine rI O ?_
 rfl
theorem Bh {k:Nat} (hk:2≤k) {z:fR} {v:AV} {l:List rS} {s:ByteArray} {b:Nat} (hx:SZ 6 yM z v l) (hb:At z b 0 [Cs s]):FC (E k) 246 [v,.c (.fn 247 [] [(false,[.ptr b 0])])] z fun u _=>u=Bt (N7 l s):=by
 have hxl:=hx.le
 refine iI (bCr) (by omega) (dN O) fun B j hj=>?_
 refine R4 48 O ?_
 refine cX O hx ?_
 refine R0 2 O ?_
 refine dE (bQ ?_)
 refine eT (fun n fs=>∃ (i:Nat),LI z [] [(0,v),(1,.c (.fn 247 [] [(false,[.ptr b 0])])),(7,Az l.length),(8,Az i)] fs∧n=l.length - i∧(i≤l.length)∧(∀ q,q<i→∀ b,l[q]? = some b→decide (b.name=s)=false)) ?_ _ ⟨0,LI.m [] O,rfl,Nat.zero_le _,fun q hq=>absurd hq (Nat.not_lt_zero _)⟩ (kK (by omega))
 intro n fs ⟨i,hL0,hmz0,hi,hp⟩
 refine hL0.open fun e zl0 _=>?_
 refine R5 8 O ?_
 refine xD O (fun hc9=>?_) (fun hc9=>?_)
 ·refine dX ?_
  refine dE (bQ ?_)
  refine R4 160 O ?_
  refine eA (zz:=zl0) O O hx.m i O _ (List.getElem?_eq_getElem (by omega)) fun b14 p14 cs at14 hR=>?_
  obtain ⟨c0,c1,hcs,q0,q1⟩:=hR
  subst hcs
  refine tG (off:=0) O at14 O (by simp) O ?_
  refine bCz zl0 O (aMb (by omega) hb.m) O O fun v16 z16 _ hv16=>?_
  subst hv16
  refine lN ?_
  refine xD O (fun hc16=>?_) (fun hc16=>?_)
  ·refine R5 8 O ?_
   refine xT ?_
   refine oD ?_
   refine Ou ?_
   refine oD ?_
   exact rI O (congrArg Bt (aUh (l:=l) (i:=i) (List.getElem?_eq_getElem (by omega)) (decide_eq_true hc16) hp).symm)
  refine mQ ?_
  refine iE ?_
  refine xG ?_
  refine lB O O (iW (n:=i+1) (by omega) (by omega)) ?_
  refine R0 2 O ?_
  exact nN (by omega) ⟨i+1,LI.m [] O,rfl,by omega,aU0 hp (List.getElem?_eq_getElem (by omega)) (decide_eq_false hc16)⟩
 refine eE ?_
 refine oC ?_
 refine iE ?_
 refine R5 4 O ?_
 refine xT ?_
 exact rI O (congrArg Bt (aUZ (l:=l) (i:=i) (by omega) hp).symm)
theorem Q3 {k:Nat} (hk:3≤k) {z:fR} {v:AV} {l:List rS} {s:ByteArray} (hx:SZ 6 yM z v l):FC (E k) 185 [v,.c (Cs s)] z fun u _=>u=Bt (N7 l s):=by
 refine iI (bBr) (by omega) (dN O) fun B j hj=>?_
 refine xR ?_
 refine aEu O O fun b3=>?_
 refine R2 12 O ?_
 refine bNR O O ?_
 refine Ju z (p:=[]) O O O (fun _ h=>h) fun zffb _ fb=>?_
 refine lE zffb (Bh (by omega) hx.m (at1 fb)) O O fun z7 _=>?_
 refine R0 3 O ?_
 refine xT ?_
 refine rI O ?_
 rfl
open Go.CE Go.RowKit Go.Num
open Go.Eng (mR)
def eB (n:Int):Value:=.int .u8 n
instance:RMono (RE eB):=⟨fun _ h=>h⟩
theorem bJ8 {l:List Int} {c x:Int} {i:Nat} (hp:∀ q,q<i→l[q]?≠some c) (hx:l[i]? = some x) (h:¬ c=x):∀ q,q<i+1→l[q]?≠some c:=fun q hq e=>by
 by_cases hqi:q=i
 ·subst hqi;rw [hx] at e;injection e with e;exact h e.symm
 exact hp q (by omega) e
theorem bND {l:List Int} {c:Int} {i:Nat} {P:Prop} (hp:∀ q,q<i→l[q]?≠some c) (hi:l.length≤i) (h:c∈l):P:=by
 obtain ⟨q,hq⟩:=List.mem_iff_getElem?.1 h
 exact absurd hq (hp q (by have:=(List.getElem?_eq_some_iff.1 hq).1;omega))
def uT (k:Int) (g:Bool):List Int:=if k=1∨k=2 then (if g=true then [1] else [2,4,5,6,7]) else if k=3 then (if g=true then [8] else [9]) else if k=4 then (if g=true then [10] else [11]) else []
theorem Rk {call:iJ} {B:rR} {fs:Sf} {l:List I} {Q:Sf→Prop} {d:Nat} {len size:Nat} {agg:Bool} {x i:Go.Eng.Od} {cs:List C} {kd:IntKind} {z:Int} {v:AV} (hx:fs.ev x=.agg cs) (hi:fs.ev i=.c (.v (.int kd z))) (j:Nat) (hj:z=(j:Int)) (h:j<len) (hl:len * size=cs.length) (hv:Ek agg ((cs.drop (j * size)).take size)=v)
    (hw:FL call B l (fs.put d v) Q):FL call B (⟨some d,none,.ixa len agg size x i⟩::l) fs Q:=
  aFW (fun _ => rfl) (fun st rf => by
    simp only [dK,rf.ev,hx,hi,AV.int?,hj]
    rw [Go.Eng.need_pos ⟨by omega,by omega,hl⟩,Int.toNat_natCast,hv]) hw
theorem aLt {k0 n:Int} {v:AV} {m:Nat} {es:List (Value×AV×Nat)} {r:Option (Option AV)} (h:¬ k0=n) (t:Kz false (.int .u8 k0) es=r):Kz false (.int .u8 k0) ((.int .u8 n,v,m)::es)=r:=by
 have:aDW false (.int .u8 k0) (.int .u8 n)=some false:=by simp [aDW,h]
 simp only [Kz,this]
 exact t
theorem Jw {k:Nat} (hk:1≤k) {z:fR} {v:AV} {l:List Int} {c:Int} (hx:SZ 1 (RE eB) z v l):FC (E k) 291 [v,.c (Cu c)] z fun u _=>∃ n:Int,u=Ai n∧(0≤n↔c∈l):=by
 have hxl:=hx.le
 refine iI (bDh) (by omega) (dN O) fun B j hj=>?_
 refine R4 48 O ?_
 refine cX O hx ?_
 refine R0 2 O ?_
 refine dE (bQ ?_)
 refine eT (fun n fs=>∃ (i:Nat),LI z [] [(0,v),(1,.c (Cu c)),(7,Az l.length),(8,Az i)] fs∧n=l.length - i∧(i≤l.length)∧(∀ q,q<i→l[q]?≠some c)) ?_ _ ⟨0,LI.m [] O,rfl,Nat.zero_le _,fun q hq=>absurd hq (Nat.not_lt_zero _)⟩ (kK (by omega))
 intro n fs ⟨i,hL0,hmz0,hi,hp⟩
 refine hL0.open fun e zl0 _=>?_
 refine R5 8 O ?_
 refine xD O (fun hc9=>?_) (fun hc9=>?_)
 ·refine dX ?_
  refine dE (bQ ?_)
  refine R4 160 O ?_
  refine K9 (zz:=zl0) O O hx.m (i) (O) (by omega) fun p14 hp14=>?_
  refine wF O hp14 ?_
  refine R0 2 O ?_
  refine xD O (fun hc16=>?_) (fun hc16=>?_)
  ·refine R5 8 O ?_
   refine xT ?_
   refine oD ?_
   refine Ou ?_
   refine oD ?_
   exact rI O ⟨_,rfl,⟨fun _=>by rw [hc16];exact List.getElem_mem _,fun _=>by omega⟩⟩
  refine mQ ?_
  refine iE ?_
  refine xG ?_
  refine lB O O (iW (n:=i+1) (by omega) (by omega)) ?_
  refine R0 2 O ?_
  exact nN (by omega) ⟨i+1,LI.m [] O,rfl,by omega,bJ8 hp (List.getElem?_eq_getElem (by omega)) hc16⟩
 refine eE ?_
 refine oC ?_
 refine iE ?_
 refine R5 4 O ?_
 refine xT ?_
 exact rI O ⟨_,rfl,⟨fun h=>absurd h (by decide),fun h=>bND hp (by omega) h⟩⟩
theorem jM {k:Nat} (hk:2≤k) {z:fR} {v:AV} {l:List Int} {c:Int} (hx:SZ 1 (RE eB) z v l):FC (E k) 249 [v,.c (Cu c)] z fun u _=>u=Ab (decide (c∈l)):=by
 refine iI (bBY) (by omega) (dN O) fun B j hj=>?_
 refine R4 40 O ?_
 refine lZ z (Jw (by omega) hx) O O fun v7 z7 _ ⟨n7,hv7,hn7⟩=>?_
 subst hv7
 refine R0 4 O ?_
 refine xT ?_
 exact rI O (cQ (by by_cases h:c∈l<;>simp_all))
theorem bGh {k:Nat} (hk:3≤k) {z:fR} {c:Int} {g:Bool}:FC (E k) 187 [.c (Cu 1),Ab g,.c (Cu c)] z fun u _=>u=Ab (decide (c∈uT 1 g)):=by
 refine iI (Wb) (by omega) (dN O) fun B j hj=>?_
 refine R4 8 O ?_
 refine aJb fun b9=>?_
 refine gU O fun b10=>?_
 refine gU O fun b11=>?_
 refine pR (cs:=[_,_]) O ?_
 refine vD O O O O P2 ?_
 refine gU O fun b13=>?_
 refine gU O fun b14=>?_
 refine pR (cs:=[_,_]) O ?_
 refine vD O O O O (oH P3) ?_
 refine gU O fun b16=>?_
 refine gU O fun b17=>?_
 refine pR (cs:=[_,_]) O ?_
 refine vD O O O O (oH (oH (oH P3))) ?_
 refine gU O fun b19=>?_
 refine gU O fun b20=>?_
 refine pR (cs:=[_,_]) O ?_
 refine vD O O O O (oH (oH (oH (oH (oH P3))))) ?_
 refine R3 259 O ?_
 refine kJ O (fun hc23=>?_) (fun hc23=>?_)
 ·refine R4 40 O ?_
  refine Ho (r:=some _) O O (mX (mX (mX (mX Y4)))) O O ?_
  refine lC O ?_
  refine Rk O O 1 O (by omega) O O ?_
  refine lC O ?_
  refine Ju z (p:=[_,_,_,_,_,_]) O O O (fun _ h=>h) fun zffb hzffb fb=>?_
  refine lE zffb (jM (by omega) (l:=[1]) ((Ti (e:=eB)).sz O (by decide) fb)) O O fun z30 hz30=>?_
  refine R0 3 O ?_
  refine xT ?_
  exact rI O (cQ (by simp [uT,hc23]))
 refine R4 20 O ?_
 refine Ho (r:=some _) O O (mX (mX (mX (mX Y4)))) O O ?_
 refine lC O ?_
 refine Rk O O 0 O (by omega) O O ?_
 refine lC O ?_
 refine Ju z (p:=[_,_,_,_,_,_,_]) O O O (fun _ h=>h) fun zffb hzffb fb=>?_
 refine lE zffb (jM (by omega) (l:=[2,4,5,6,7]) ((Ti (e:=eB)).sz O (by decide) fb)) O O fun z30 hz30=>?_
 refine R0 3 O ?_
 refine xT ?_
 exact rI O (cQ (by simp [uT,hc23]))
theorem bD7 {k:Nat} (hk:3≤k) {z:fR} {c:Int} {g:Bool}:FC (E k) 187 [.c (Cu 2),Ab g,.c (Cu c)] z fun u _=>u=Ab (decide (c∈uT 2 g)):=by
 refine iI (Wb) (by omega) (dN O) fun B j hj=>?_
 refine R4 8 O ?_
 refine aJb fun b9=>?_
 refine gU O fun b10=>?_
 refine gU O fun b11=>?_
 refine pR (cs:=[_,_]) O ?_
 refine vD O O O O P2 ?_
 refine gU O fun b13=>?_
 refine gU O fun b14=>?_
 refine pR (cs:=[_,_]) O ?_
 refine vD O O O O (oH P3) ?_
 refine gU O fun b16=>?_
 refine gU O fun b17=>?_
 refine pR (cs:=[_,_]) O ?_
 refine vD O O O O (oH (oH (oH P3))) ?_
 refine gU O fun b19=>?_
 refine gU O fun b20=>?_
 refine pR (cs:=[_,_]) O ?_
 refine vD O O O O (oH (oH (oH (oH (oH P3))))) ?_
 refine R3 259 O ?_
 refine kJ O (fun hc23=>?_) (fun hc23=>?_)
 ·refine R4 40 O ?_
  refine Ho (r:=some _) O O (mX (mX (mX (mX Y4)))) O O ?_
  refine lC O ?_
  refine Rk O O 1 O (by omega) O O ?_
  refine lC O ?_
  refine Ju z (p:=[_,_,_,_]) O O O (fun _ h=>h) fun zffb hzffb fb=>?_
  refine lE zffb (jM (by omega) (l:=[1]) ((Ti (e:=eB)).sz O (by decide) fb)) O O fun z30 hz30=>?_
  refine R0 3 O ?_
  refine xT ?_
  exact rI O (cQ (by simp [uT,hc23]))
 refine R4 20 O ?_
 refine Ho (r:=some _) O O (mX (mX (mX (mX Y4)))) O O ?_
 refine lC O ?_
 refine Rk O O 0 O (by omega) O O ?_
 refine lC O ?_
 refine Ju z (p:=[_,_,_,_,_]) O O O (fun _ h=>h) fun zffb hzffb fb=>?_
 refine lE zffb (jM (by omega) (l:=[2,4,5,6,7]) ((Ti (e:=eB)).sz O (by decide) fb)) O O fun z30 hz30=>?_
 refine R0 3 O ?_
 refine xT ?_
 exact rI O (cQ (by simp [uT,hc23]))
theorem bIm {k:Nat} (hk:3≤k) {z:fR} {c:Int} {g:Bool}:FC (E k) 187 [.c (Cu 3),Ab g,.c (Cu c)] z fun u _=>u=Ab (decide (c∈uT 3 g)):=by
 refine iI (Wb) (by omega) (dN O) fun B j hj=>?_
 refine R4 8 O ?_
 refine aJb fun b9=>?_
 refine gU O fun b10=>?_
 refine gU O fun b11=>?_
 refine pR (cs:=[_,_]) O ?_
 refine vD O O O O P2 ?_
 refine gU O fun b13=>?_
 refine gU O fun b14=>?_
 refine pR (cs:=[_,_]) O ?_
 refine vD O O O O (oH P3) ?_
 refine gU O fun b16=>?_
 refine gU O fun b17=>?_
 refine pR (cs:=[_,_]) O ?_
 refine vD O O O O (oH (oH (oH P3))) ?_
 refine gU O fun b19=>?_
 refine gU O fun b20=>?_
 refine pR (cs:=[_,_]) O ?_
 refine vD O O O O (oH (oH (oH (oH (oH P3))))) ?_
 refine R3 259 O ?_
 refine kJ O (fun hc23=>?_) (fun hc23=>?_)
 ·refine R4 40 O ?_
  refine Ho (r:=some _) O O (mX (mX (mX (mX Y4)))) O O ?_
  refine lC O ?_
  refine Rk O O 1 O (by omega) O O ?_
  refine lC O ?_
  refine Ju z (p:=[_,_]) O O O (fun _ h=>h) fun zffb hzffb fb=>?_
  refine lE zffb (jM (by omega) (l:=[8]) ((Ti (e:=eB)).sz O (by decide) fb)) O O fun z30 hz30=>?_
  refine R0 3 O ?_
  refine xT ?_
  exact rI O (cQ (by simp [uT,hc23]))
 refine R4 20 O ?_
 refine Ho (r:=some _) O O (mX (mX (mX (mX Y4)))) O O ?_
 refine lC O ?_
 refine Rk O O 0 O (by omega) O O ?_
 refine lC O ?_
 refine Ju z (p:=[_,_,_]) O O O (fun _ h=>h) fun zffb hzffb fb=>?_
 refine lE zffb (jM (by omega) (l:=[9]) ((Ti (e:=eB)).sz O (by decide) fb)) O O fun z30 hz30=>?_
 refine R0 3 O ?_
 refine xT ?_
 exact rI O (cQ (by simp [uT,hc23]))
theorem bHQ {k:Nat} (hk:3≤k) {z:fR} {c:Int} {g:Bool}:FC (E k) 187 [.c (Cu 4),Ab g,.c (Cu c)] z fun u _=>u=Ab (decide (c∈uT 4 g)):=by
 refine iI (Wb) (by omega) (dN O) fun B j hj=>?_
 refine R4 8 O ?_
 refine aJb fun b9=>?_
 refine gU O fun b10=>?_
 refine gU O fun b11=>?_
 refine pR (cs:=[_,_]) O ?_
 refine vD O O O O P2 ?_
 refine gU O fun b13=>?_
 refine gU O fun b14=>?_
 refine pR (cs:=[_,_]) O ?_
 refine vD O O O O (oH P3) ?_
 refine gU O fun b16=>?_
 refine gU O fun b17=>?_
 refine pR (cs:=[_,_]) O ?_
 refine vD O O O O (oH (oH (oH P3))) ?_
 refine gU O fun b19=>?_
 refine gU O fun b20=>?_
 refine pR (cs:=[_,_]) O ?_
 refine vD O O O O (oH (oH (oH (oH (oH P3))))) ?_
 refine R3 259 O ?_
 refine kJ O (fun hc23=>?_) (fun hc23=>?_)
 ·refine R4 40 O ?_
  refine Ho (r:=some _) O O (mX (mX (mX (mX Y4)))) O O ?_
  refine lC O ?_
  refine Rk O O 1 O (by omega) O O ?_
  refine lC O ?_
  refine Ju z (p:=[]) O O O (fun _ h=>h) fun zffb hzffb fb=>?_
  refine lE zffb (jM (by omega) (l:=[10]) ((Ti (e:=eB)).sz O (by decide) fb)) O O fun z30 hz30=>?_
  refine R0 3 O ?_
  refine xT ?_
  exact rI O (cQ (by simp [uT,hc23]))
 refine R4 20 O ?_
 refine Ho (r:=some _) O O (mX (mX (mX (mX Y4)))) O O ?_
 refine lC O ?_
 refine Rk O O 0 O (by omega) O O ?_
 refine lC O ?_
 refine Ju z (p:=[_]) O O O (fun _ h=>h) fun zffb hzffb fb=>?_
 refine lE zffb (jM (by omega) (l:=[11]) ((Ti (e:=eB)).sz O (by decide) fb)) O O fun z30 hz30=>?_
 refine R0 3 O ?_
 refine xT ?_
 exact rI O (cQ (by simp [uT,hc23]))
theorem bHE {k:Nat} (hk:3≤k) {z:fR} {k0 c:Int} {g:Bool} (h1:¬ k0=1) (h2:¬ k0=2) (h3:¬ k0=3) (h4:¬ k0=4):FC (E k) 187 [.c (Cu k0),Ab g,.c (Cu c)] z fun u _=>u=Ab (decide (c∈uT k0 g)):=by
 refine iI (Wb) (by omega) (dN O) fun B j hj=>?_
 refine R4 8 O ?_
 refine aJb fun b9=>?_
 refine gU O fun b10=>?_
 refine gU O fun b11=>?_
 refine pR (cs:=[_,_]) O ?_
 refine vD O O O O P2 ?_
 refine gU O fun b13=>?_
 refine gU O fun b14=>?_
 refine pR (cs:=[_,_]) O ?_
 refine vD O O O O (oH P3) ?_
 refine gU O fun b16=>?_
 refine gU O fun b17=>?_
 refine pR (cs:=[_,_]) O ?_
 refine vD O O O O (oH (oH (oH P3))) ?_
 refine gU O fun b19=>?_
 refine gU O fun b20=>?_
 refine pR (cs:=[_,_]) O ?_
 refine vD O O O O (oH (oH (oH (oH (oH P3))))) ?_
 refine R3 259 O ?_
 refine kJ O (fun hc23=>?_) (fun hc23=>?_)
 ·refine R4 40 O ?_
  refine Ho (r:=none) O O (mX (mX (mX (mX Y4)))) (aLt h1 (aLt h2 (aLt h3 (aLt h4 O)))) O ?_
  refine lC O ?_
  refine Rk O O 1 O (by omega) O O ?_
  refine lC O ?_
  refine lE z (jM (by omega) (l:=[]) (.nil)) O O fun z30 hz30=>?_
  refine R0 3 O ?_
  refine xT ?_
  exact rI O (cQ (by simp [uT,hc23,h1,h2,h3,h4]))
 refine R4 20 O ?_
 refine Ho (r:=none) O O (mX (mX (mX (mX Y4)))) (aLt h1 (aLt h2 (aLt h3 (aLt h4 O)))) O ?_
 refine lC O ?_
 refine Rk O O 0 O (by omega) O O ?_
 refine lC O ?_
 refine lE z (jM (by omega) (l:=[]) (.nil)) O O fun z30 hz30=>?_
 refine R0 3 O ?_
 refine xT ?_
 exact rI O (cQ (by simp [uT,hc23,h1,h2,h3,h4]))
theorem aUb {k:Nat} (hk:3≤k) {z:fR} {k0 c:Int} {g:Bool}:FC (E k) 187 [.c (Cu k0),Ab g,.c (Cu c)] z fun u _=>u=Ab (decide (c∈uT k0 g)):=by
 by_cases h1:k0=1
 ·subst h1;exact bGh hk
 by_cases h2:k0=2
 ·subst h2;exact bD7 hk
 by_cases h3:k0=3
 ·subst h3;exact bIm hk
 by_cases h4:k0=4
 ·subst h4;exact bHQ hk
 exact bHE hk h1 h2 h3 h4
open Go.CE Go.RowKit Go.Num
open Go.Eng (mR)
theorem bMc {fs:Sf} {i b ty size:Nat} {cs:List C} {rs:List RR} {vs:List AV} (hp:fs.e i=Ap b) (hm:HA.blk b (.cells ty cs)∈fs.H) (hs:cs.length=size) (t:Wh fs rs vs):Wh fs (.c i true size::rs) (.agg cs::vs):=rc hp hm (by omega) (by rw [List.drop_zero,List.take_of_length_le (by omega)];rfl) t
def txt (l:List ByteArray):List (List UInt8):=l.map fun s=>s.data.toList
theorem aGC (l:List ByteArray):(txt l).length=l.length:=by simp [txt]
theorem bPb {z:fR} {cs:List C} {l:List ByteArray} (h:CL 1 RS z cs l):cs=cS (txt l):=by
 have:=bEe (e:=Value.string) h
 rw [this,cS,txt,List.map_map]
 rfl
def pE (l:List ByteArray):List ByteArray:=(Bq (txt l)).map bs
theorem aOE (l:List ByteArray):(pE l).length=l.length:=by rw [pE,List.length_map,aCi,aGC]
theorem bGv {z:fR} {l:List ByteArray}:CL 1 RS z (cS (Bq (txt l))) (pE l):=by
 have h:CL 1 (RE Value.string) z (cE Value.string (pE l)) (pE l):=Ti
 have e:cE Value.string (pE l)=cS (Bq (txt l)):=by
  rw [cE,pE,cS,List.map_map];rfl
 rw [e] at h
 exact h
theorem bBV {k:Nat} (hk:1≤k) {z:fR} {v:AV} {l:List ByteArray} (hv:SZ 1 RS z v l) (hb:l.length≤1000):FCt (E k) 118 [v] z [] fun v' _ H'=>H'=[.row v' 9 1 (txt l).length (cS (txt l))]:=(aOd bBh hk hv (by omega)).mono fun v' z' H' _ ⟨cs,h1,h2,_⟩=>by rw [h1,bPb h2,aGC]
theorem bOG {k:Nat} (hk:1≤k) {z:fR} {u:AV} {l:List (List UInt8)} (hl:l.length≤1000):FCt (E k) 184 [u] z [.row u 9 1 l.length (cS l)] fun v z' H'=>v=.tup []∧z'=z∧H'=[.row u 9 1 l.length (cS (Bq l))]:=bL6 (call:=aBD 321 117 (aAd 184 (Uw 106 107 h1))) (h0:=Uw 106 107 h1) bDW (fun _ _ _ _ h=>h) (fun mem nx=>bQv mem nx) hk (by omega)
theorem aS2 {k:Nat} (hk:2≤k) {z:fR} {x:uV} {c0 c1 c2 c3 c4 c5 c6 c7 c8 c9 c10 c11:C} (g0:CZ 8 vF z c0 x.brackets) (g1:CZ 1 RW z c1 x.threshold.nm) (g2:CZ 1 RW z c2 x.threshold.dm) (g3:CZ 1 RW z c3 x.cap.nm) (g4:CZ 1 RW z c4 x.cap.dm) (g5:CZ 1 RW z c5 x.interest.nm) (g6:CZ 1 RW z c6 x.interest.dm) (g7:CZ 1 RW z c7 x.floor.nm) (g8:CZ 1 RW z c8 x.floor.dm) (g9:CZ 6 yM z c9 x.classes) (g10:CZ 1 RS z c10 x.entities) (g11:CZ 6 Ib z c11 x.years) (hb:x.entities.length≤1000):FC (E k) 101 [.agg [Cs x.name,Cs x.parent,c0,Cb x.threshold.n,c1,Cb x.threshold.d,c2,Cb x.cap.n,c3,Cb x.cap.d,c4,Ci x.back,Ci x.forward,Cb x.interest.n,c5,Cb x.interest.d,c6,Cb x.floor.n,c7,Cb x.floor.d,c8,Ci x.keep,c9,c10,c11]] z fun u z'=>∃ c,u=.c c∧CZ 1 RS z' c (pE x.entities):=by
 refine iI (bBp) (by omega) (dN O) fun B j hj=>?_
 refine xR ?_
 refine kN O fun b1=>?_
 refine R2 8 O ?_
 refine dH O mem0 O ?_
 refine Dm z [] (bBV (by omega) g10 hb) O O O fun v6 z6 H6 _ hH6=>?_
 subst hH6
 refine R2 13 O ?_
 refine Dm z6 [.row v6 9 1 (txt x.entities).length (cS (txt x.entities))] (bOG (by omega) (by rw [aGC];omega)) O O O fun v8 z8 H8 _ hv8=>?_
 obtain ⟨rfl,rfl,rfl⟩:=hv8
 refine lN ?_
 refine R5 14 O ?_
 refine Dp (p:=[]) O (bGv (l:=x.entities)) (by rw [aOE,aGC]) (by rw [aGC];omega) fun zr _ hsr=>?_
 refine xT ?_
 refine rI O ?_
 obtain ⟨c,hc,_⟩:=SZ.one hsr
 subst hc
 exact ⟨c,rfl,hsr⟩
theorem aND {k:Nat} (hk:1≤k) {z:fR} {x:mG} {c0 c1:C}:FC (E k) 103 [.agg [Cb x.give,Cs x.id,Cu x.kind,Cs x.payee,Cs x.payer,Cs x.cls,Cb x.amount.n,c0,Cb x.amount.d,c1]] z fun v _=>v=.agg [Cs x.id,Cu x.kind,Cs x.payee,Cs x.payer]:=by
 refine iI (bDq) (by omega) (dN O) fun B j hj=>?_
 refine xR ?_
 refine kN O fun b1=>?_
 refine F3 fun b2=>?_
 refine lN ?_
 refine R4 4 O ?_
 refine dH O Y1 O ?_
 refine lF O ?_
 refine dH O Y1 O ?_
 refine lF O ?_
 refine dH O Y1 O ?_
 refine lF O ?_
 refine dH O Y1 O ?_
 refine pR (cs:=[Cs x.id,Cu x.kind,Cs x.payee,Cs x.payer]) O ?_
 refine uZ O O lR ?_
 refine lN ?_
 refine xT ?_
 refine rQ (.inl O) (rc4 O mem0 rn) ?_
 rfl
abbrev On (x:mG):Rat:=valR ((x.amount.n,x.amount.nm),(x.amount.d,x.amount.dm))
def Bi (nl:List ByteArray) (cl:List rS) (x:mG):Bool:=!decide (x.payee=x.payer) && decide (Ff nl x.payee ≥ 0) && decide (Ff nl x.payer ≥ 0) && decide (N7 cl x.cls ≥ 0) && (cl[(N7 cl x.cls).toNat]?).any (fun c=>decide (c.kind∈uT x.kind x.give)) && decide ((On x).num.sign > 0)
theorem aDJ {k:Nat} (hk:11≤k) {z:fR} {cn ck:C} {nl:List ByteArray} {cl:List rS} (hn:CZ 1 RS z cn nl) (hc0:CZ 6 yM z ck cl) {x:mG} {c0 c1:C} (g0:CZ 1 RW z c0 x.amount.nm) (g1:CZ 1 RW z c1 x.amount.dm) (hS:Sm x.amount):FC (E k) 102 [.agg [cn,ck],.agg [Cb x.give,Cs x.id,Cu x.kind,Cs x.payee,Cs x.payer,Cs x.cls,Cb x.amount.n,c0,Cb x.amount.d,c1]] z fun u _=>u=oO (Bi nl cl x):=by
 refine iI (bBd) (by omega) (dN O) fun B j hj=>?_
 refine xR ?_
 refine kN O fun b2=>?_
 refine kN O fun b3=>?_
 refine R2 8 O ?_
 refine dH O Y1 O ?_
 refine lF O ?_
 refine dH O mem0 O ?_
 refine lE z (Q3 (by omega) hc0) O O fun z10 _=>?_
 refine R0 3 O ?_
 refine jF ?_
 refine G1 2 O ?_
 refine wM O O Ht O ?_
 refine G1 2 O ?_
 refine wM O O Ht O ?_
 refine gP O O F ?_
 refine lB O O (aW8 _ _) (lN ?_)
 refine G1 2 O ?_
 refine aJS 16 O (fun hg16=>?_) (fun hg16=>?_)
 ·refine G1 2 O ?_
  refine wM O O (.inr Y1) O ?_
  refine G1 2 O ?_
  refine wM O O Ht O ?_
  refine gE z10 (Jg (by omega) hn.m) O O O O fun z21 _=>?_
  refine G1 12 O ?_
  refine C9 24 O (fun hg24=>?_) (fun hg24=>?_)
  ·refine G1 2 O ?_
   refine wM O O (.inr Y1) O ?_
   refine G1 2 O ?_
   refine wM O O Ht O ?_
   refine gE z21 (Jg (by omega) hn.m) O O O O fun z29 _=>?_
   refine G1 12 O ?_
   refine C9 32 O (fun hg32=>?_) (fun hg32=>?_)
   ·refine G1 25 O ?_
    refine C9 36 O (fun hg36=>?_) (fun hg36=>?_)
    ·refine G1 2 O ?_
     refine wM O O Ht O ?_
     refine G1 2 O ?_
     refine wM O O Ht O ?_
     refine G1 2 O ?_
     refine wM O O (.inr Y1) O ?_
     refine G1 3 O ?_
     obtain ⟨i44,a44,hi44,ha44,hp44⟩:=aZt hg36
     refine gP O O O ?_
     refine eA O O hc0 i44 hi44 a44 ha44 fun b44 p44 cs at44 hR=>lN ?_
     obtain ⟨c44,d44,hcs,q44,r44⟩:=hR
     subst hcs
     refine G1 2 O ?_
     refine mU (i:=⟨_,_,.load _ _ _⟩) (off:=1) O O O O at44 ti O (by simp) O sR ?_
     refine gE z29 (aUb (by omega)) O O O O fun z47 _=>?_
     refine G1 6 O ?_
     refine C9 49 O (fun hg49=>?_) (fun hg49=>?_)
     ·refine G1 2 O ?_
      refine gl4 O O Ht O ?_
      refine gE z47 (aXM (by omega) g0.m g1.m (by have:=hS.1;omega) (by have:=hS.2;omega)) O O O O fun z52 _=>?_
      refine G0 12 O ?_
      refine xT ?_
      exact rI O (congrArg oO (by simp [*,Bi]))
     refine G0 96 O ?_
     refine xT ?_
     exact rI O (congrArg oO (by simp [*,Bi]))
    refine G0 790528 O ?_
    refine xT ?_
    exact rI O (congrArg oO (by simp [*,Bi]))
   refine G0 12648456 O ?_
   refine xT ?_
   exact rI O (congrArg oO (by simp [*,Bi]))
  refine G0 3238004864 O ?_
  refine xT ?_
  exact rI O (congrArg oO (by simp [*,Bi]))
 refine G0 828929245312 O ?_
 refine xT ?_
 exact rI O (congrArg oO (by simp [*,Bi]))
theorem bPA {α:Type} {size:Nat} {R:RT α} {z:fR} {b ty:Nat} {cs:List C} {a:α} (h:z b (.cells ty cs)) (hR:R z cs a) (hl:cs.length=size):SZ size R z (.c (.sl b 0 1 size)) [a]:=by
 refine .sl b 0 1 _ cs [a] O (by decide) h O (by omega) fun i a' hi=>?_
 cases i with
 | zero=>simp at hi;subst hi;rw [Nat.zero_mul,List.drop_zero,List.take_of_length_le (by omega)];exact hR
 | succ i=>simp at hi
def Z9 (nl:List ByteArray) (cl:List rS) (x y:mG) (c d:C):List C:=[Cs x.id,Cu x.kind,Ci (Ff nl x.payee),Ci (Ff nl x.payer),Ci (N7 cl x.cls),Ci (N7 cl y.cls),Cb (decide ((On x).num<0)),c,Cb (decide (((On x).den:Int)<0)),d]
theorem aDH {k:Nat} (hk:11≤k) {z:fR} {cn ck:C} {nl:List ByteArray} {cl:List rS} (hn:CZ 1 RS z cn nl) (hc0:CZ 6 yM z ck cl) {x:mG} {c0 c1:C} (g0:CZ 1 RW z c0 x.amount.nm) (g1:CZ 1 RW z c1 x.amount.dm) (hS:Sm x.amount) {y:mG} {cy0 cy1:C} (gy0:pG cy0 cy0=true) (gy1:pG cy1 cy1=true):FC (E k) 105 [.agg [cn,ck],.agg [Cb x.give,Cs x.id,Cu x.kind,Cs x.payee,Cs x.payer,Cs x.cls,Cb x.amount.n,c0,Cb x.amount.d,c1],.agg [Cb y.give,Cs y.id,Cu y.kind,Cs y.payee,Cs y.payer,Cs y.cls,Cb y.amount.n,cy0,Cb y.amount.d,cy1]] z fun v z'=>∃ c d,v=.agg (Z9 nl cl x y c d)∧CZ 1 RW (zd z z') c (toL (On x).num.natAbs)∧CZ 1 RW (zd z z') d (toL ((On x).den:Int).natAbs):=by
 refine iI (bBt) (by omega) (dN O) fun B j hj=>?_
 refine xR ?_
 refine kN O fun b3=>?_
 refine kN O fun b4=>?_
 refine kN O fun b5=>?_
 refine uF fun b6=>?_
 refine lN ?_
 refine jF ?_
 refine G1 2 O ?_
 refine wM O O (.inr Y2) O ?_
 refine G1 2 O ?_
 refine wM O O (.inr Y2) O ?_
 refine G1 2 O ?_
 refine wM O O (.inr Y3) O ?_
 refine G1 2 O ?_
 refine wM O O (.inr Y2) O ?_
 refine gE z (Jg (by omega) hn) O O O O fun z15 hz15=>?_
 refine G1 2 O ?_
 refine wM O O (.inr Y3) O ?_
 refine G1 2 O ?_
 refine wM O O (.inr Y2) O ?_
 refine gE z15 (Jg (by omega) hn.m) O O O O fun z20 hz20=>?_
 refine G1 2 O ?_
 refine wM O O (.inr Y3) O ?_
 refine G1 2 O ?_
 refine wM O O (.inr Y2) O ?_
 refine gE z20 (Q3 (by omega) hc0.m) O O O O fun z25 hz25=>?_
 refine G1 2 O ?_
 refine wM O O (.inr Y3) O ?_
 refine G1 2 O ?_
 refine wM O O (.inr Y1) O ?_
 refine gE z25 (Q3 (by omega) hc0.m) O O O O fun z30 hz30=>?_
 refine G1 2 O ?_
 refine gl4 O O (.inr Y2) O ?_
 refine xM (k:=.cells 35 [Cb x.amount.n,c0,Cb x.amount.d,c1]) (w:=fun b=>.c (.sl b 0 1 4)) rfl F rfl (fun _=>rfl) (fun st hst=>?_) (fun b33 hT33=>?_)
 ·simp only [eP,yB,AS.ev,hst 32 (by simp [mK.sl,Od.sls,Od.sl])];rfl
 refine aM6 z30 (p:=[]) O O O (fun _ h=>h) fun zff33 hzff33 f33=>?_
 refine gC zff33 (bBw (by omega) (bPA f33 (Ed g0.m g1.m) O) (by have:=hS.1;omega) (by have:=hS.2;omega)) O O O O fun v34 z34 _ hv34=>?_
 obtain ⟨c34,d34,hv,hm34,hn34⟩:=hv34
 subst hv
 have hm34:=hm34.mono (vS (hz15.trans (hz20.trans (hz25.trans (hz30.trans hzff33)))))
 have hn34:=hn34.mono (vS (hz15.trans (hz20.trans (hz25.trans (hz30.trans hzff33)))))
 refine gP O O F ?_
 refine pR (cs:=Z9 nl cl x y c34 d34) (by kernel_rfl) (lN ?_)
 refine gS O O O ?_
 refine Aa O O O O lR ?_
 refine lN ?_
 refine nQ ?_
 refine xT ?_
 refine rQ (.inl O) (bMc O mem0 O rn) ?_
 exact ⟨_,_,rfl,hm34,hn34⟩
open Go.CE Go.RowKit Go.Num
def B0 (s:ByteArray) (l:List mG):List Nat:=(List.range l.length).filter fun i=>(l[i]?).any fun d=>decide (d.id=s)
theorem aMz {s:ByteArray} {l:List mG} {i:Nat}:i∈B0 s l↔∃ d,l[i]? = some d∧d.id=s:=by
 simp only [B0,List.mem_filter,List.mem_range,Option.any_eq_true,decide_eq_true_eq]
 constructor
 ·rintro ⟨_,h⟩;exact h
 rintro ⟨d,h,e⟩
 exact ⟨(List.getElem?_eq_some_iff.1 h).1,d,h,e⟩
theorem aV8 {s:ByteArray} {l:List mG} {i:Nat} {a:mG} (h:l[i]? = some a):B0 s (l.take (i+1))=if s=a.id then B0 s (l.take i)++[i] else B0 s (l.take i):=by
 obtain ⟨hl,he⟩:=List.getElem?_eq_some_iff.1 h
 have e1:(l.take (i+1)).length=i+1:=by rw [List.length_take];omega
 have e2:(l.take i).length=i:=by rw [List.length_take];omega
 unfold B0
 rw [e1,e2,List.range_succ,List.filter_append]
 have h1:(List.range i).filter (fun j=>((l.take (i+1))[j]?).any fun d=>decide (d.id=s))=(List.range i).filter fun j=>((l.take i)[j]?).any fun d=>decide (d.id=s):=by
  refine List.filter_congr fun j hj=>?_
  have hj:=List.mem_range.1 hj
  rw [List.getElem?_take,List.getElem?_take,if_pos (by omega),if_pos hj]
 rw [h1]
 have h2:(l.take (i+1))[i]? = some a:=by rw [List.getElem?_take,if_pos (by omega),h]
 simp only [List.filter_cons,List.filter_nil,h2,Option.any_some,decide_eq_true_eq]
 by_cases hs:a.id=s
 ·rw [if_pos hs,if_pos hs.symm]
 rw [if_neg hs,if_neg fun e=>hs e.symm,List.append_nil]
theorem bLN (s:ByteArray) (l:List mG):(B0 s l).length≤l.length:=by
 have:=List.length_filter_le (fun i=>(l[i]?).any fun d=>decide (d.id=s)) (List.range l.length)
 rwa [List.length_range] at this
theorem bDP {s:ByteArray} {l:List mG}:(B0 s l).Pairwise (· < ·):=List.pairwise_lt_range.filter _
def Hj (a b:mG):Bool:=!decide (a.id=b.id∧a.kind=b.kind∧a.payee=b.payee∧a.payer=b.payer) || (a.give == b.give) || !decide (On a=On b)
def aAu (nl:List ByteArray) (cl:List rS) (dl:List mG) (i:Nat):Bool:=match dl[i]? with
  | none=>false
  | some d => !Bi nl cl d || (match B0 d.id dl with
    | [p, q] => (match dl[p]?, dl[q]? with
      | some a,some b=>Hj a b
      | _,_=>true)
    | _=>true)
def aBK (dl:List mG) (i:Nat):Option (mG×mG):=match dl[i]? with
 | some d=>match d.give with
  | true=>match B0 d.id dl with
   | [p,q]=>(dl[p+q - i]?).map fun e=>(d,e)
   | _=>none
  | false=>none
 | none=>none
def Ls (dl:List mG) (m:Nat):List (mG×mG):=(List.range m).filterMap (aBK dl)
theorem aGx (dl:List mG) (i:Nat):Ls dl (i+1)=Ls dl i++(aBK dl i).toList:=by
 unfold Ls
 rw [List.range_succ,List.filterMap_append]
 congr 1
section
variable {nl:List ByteArray} {cl:List rS} {dl:List mG} {i p q:Nat} {d a b:mG}
theorem bMq (h:dl[i]? = some d) (g:Bi nl cl d=false):aAu nl cl dl i=true:=by simp [aAu,h,g]
theorem bD2 (h:dl[i]? = some d) (g:(B0 d.id dl).length≠2):aAu nl cl dl i=true:=by
 simp only [aAu,h]
 rcases hp:B0 d.id dl with _ | ⟨p,_ | ⟨q,_ | ⟨r,t⟩⟩⟩<;>simp_all
theorem aSE (h:dl[i]? = some d) (hp:B0 d.id dl=[p,q]) (ha:dl[p]? = some a) (hb:dl[q]? = some b):aAu nl cl dl i=(!Bi nl cl d || Hj a b):=by
 simp only [aAu,h,hp,ha,hb]
theorem aT9 {l:List Nat} (h:l.length=2):∃ p q,l=[p,q]:=by
 match l,h with
 | [p,q],_=>exact ⟨p,q,rfl⟩
theorem aDE (hp:B0 d.id dl=[p,q]):p<q∧(∃ a,dl[p]? = some a∧a.id=d.id)∧∃ b,dl[q]? = some b∧b.id=d.id:=by
 have h1:p∈B0 d.id dl:=by rw [hp];simp
 have h2:q∈B0 d.id dl:=by rw [hp];simp
 have h3:=bDP (s:=d.id) (l:=dl)
 rw [hp] at h3
 exact ⟨(List.pairwise_cons.1 h3).1 q (by simp),aMz.1 h1,aMz.1 h2⟩
theorem Tv (h:dl[i]? = some d) (hp:B0 d.id dl=[p,q]):i=p∨i=q:=by
 have:i∈B0 d.id dl:=aMz.2 ⟨d,h,rfl⟩
 rw [hp] at this
 simpa using this
theorem bJB (h:dl[i]? = some d) (g:aAu nl cl dl i=false):∃ p q a b,B0 d.id dl=[p,q]∧dl[p]? = some a∧dl[q]? = some b∧p<q∧Bi nl cl d=true∧Hj a b=false:=by
 by_cases h2:(B0 d.id dl).length=2
 ·obtain ⟨p,q,hp⟩:=aT9 h2
  obtain ⟨h3,⟨a,ha,_⟩,b,hb,_⟩:=aDE hp
  rw [aSE h hp ha hb] at g
  simp only [Bool.or_eq_false_iff,Bool.not_eq_false'] at g
  exact ⟨p,q,a,b,hp,ha,hb,h3,g.1,g.2⟩
 rw [bD2 h h2] at g;cases g
theorem aTV (h:dl[i]? = some d) (hg:d.give=true) (hp:B0 d.id dl=[p,q]) (hb:dl[p+q - i]? = some b):aBK dl i=some (d,b):=by
 simp only [aBK,h,hg,hp,hb,Option.map_some]
theorem aYA (h:dl[i]? = some d) (hg:d.give=false):aBK dl i=none:=by simp only [aBK,h,hg]
theorem aSI {x:mG×mG} (h:aBK dl i=some x):dl[i]? = some x.1∧x.1.give=true∧∃ p q,B0 x.1.id dl=[p,q]∧dl[p+q - i]? = some x.2:=by
 unfold aBK at h
 split at h
 ·rename_i d hd
  split at h
  ·rename_i hg
   split at h
   ·rename_i p q hp
    cases hb:dl[p+q - i]? with
    | none=>rw [hb] at h;cases h
    | some b =>
     rw [hb] at h
     injection h with h
     subst h
     exact ⟨hd,hg,p,q,hp,hb⟩
   cases h
  cases h
 cases h
theorem bDg (h:Hj a b=false):a.give≠b.give:=by
 simp only [Hj,Bool.or_eq_false_iff] at h
 simpa using h.1.2
theorem aVp (h:∀ i,i<dl.length→aAu nl cl dl i=false) (m:Nat):((Ls dl m).map fun a=>tx a.1.id).Nodup:=by
 unfold List.Nodup Ls
 rw [List.pairwise_map,List.pairwise_filterMap]
 refine List.pairwise_lt_range.imp fun {i j} hij x hx y hy he=>?_
 obtain ⟨h1,h2,p,q,h3,_⟩:=aSI hx
 obtain ⟨g1,g2,_⟩:=aSI hy
 have he:=aW3.1 he
 have hi:i=p∨i=q:=Tv h1 h3
 have hj:j=p∨j=q:=Tv g1 (by rw [← he];exact h3)
 obtain ⟨p',q',a,b,k1,k2,k3,_,_,k4⟩:=bJB h1 (h i (List.getElem?_eq_some_iff.1 h1).1)
 rw [h3] at k1
 simp only [List.cons.injEq,and_true] at k1
 obtain ⟨rfl,rfl⟩:=k1
 have hg:=bDg k4
 have:i=p∧j=q:=by
  obtain ⟨hlt,_⟩:=aDE h3
  omega
 obtain ⟨rfl,rfl⟩:=this
 rw [h1] at k2
 rw [g1] at k3
 injection k2 with k2
 injection k3 with k3
 subst k2 k3
 exact hg (h2.trans g2.symm)
end
def aSw (nl:List ByteArray) (cl:List rS):RT (mG×mG):=fun z cs a=>∃ c d,cs=Z9 nl cl a.1 a.2 c d∧CZ 1 RW z c (toL (On a.1).num.natAbs)∧CZ 1 RW z d (toL ((On a.1).den:Int).natAbs)
instance {nl:List ByteArray} {cl:List rS}:RMono (aSw nl cl):=⟨fun hz ⟨c,d,h,g1,g2⟩=>⟨c,d,h,g1.mono hz,g2.mono hz⟩⟩
abbrev PQ:=(mG×mG)×C×C
def J6 (nl:List ByteArray) (cl:List rS) (t:PQ):List C:=Z9 nl cl t.1.1 t.1.2 t.2.1 t.2.2
def aE6 (nl:List ByteArray) (cl:List rS) (L:List PQ):List C:=L.flatMap (J6 nl cl)
def QOk (z:fR) (t:PQ):Prop:=CZ 1 RW z t.2.1 (toL (On t.1.1).num.natAbs)∧CZ 1 RW z t.2.2 (toL ((On t.1.1).den:Int).natAbs)
theorem QOk.mono {z z':fR} {t:PQ} (h:QOk z t) (hz:zle z z'):QOk z' t:=⟨h.1.mono hz,h.2.mono hz⟩
def leQ (a b:PQ):Bool:=decide (tx a.1.1.id≤tx b.1.1.id)
def leP (a b:mG×mG):Bool:=decide (tx a.1.id≤tx b.1.id)
def aVv (L:List PQ):List PQ:=L.mergeSort leQ
def aD8 (P:List (mG×mG)):List (mG×mG):=P.mergeSort leP
theorem bDJ (L:List PQ):(aVv L).map (·.1)=aD8 (L.map (·.1)):=List.map_mergeSort (r:=leQ) (s:=leP) (f:=fun t:PQ=>t.1) fun a _ b _=>rfl
theorem bB1 (L:List PQ):(aVv L).length=L.length:=List.length_mergeSort L
theorem bBT {L:List PQ} {t:PQ}:t∈aVv L↔t∈L:=(List.mergeSort_perm L leQ).mem_iff
def chQ (nl:List ByteArray) (cl:List rS) (t:PQ):Ch:=(tx t.1.1.id,J6 nl cl t)
theorem aYU (nl:List ByteArray) (cl:List rS) (L:List PQ):(L.map (chQ nl cl)).flatMap (·.2)=aE6 nl cl L:=by rw [List.flatMap_map];rfl
theorem bLe (nl:List ByteArray) (cl:List rS) (L:List PQ):Kr (L.map (chQ nl cl))=(aVv L).map (chQ nl cl):=(List.map_mergeSort (r:=leQ) (s:=leC) (f:=chQ nl cl) fun a _ b _=>rfl).symm
theorem bS2 {nl:List ByteArray} {cl:List rS} (t:PQ):aVf (chQ nl cl t):=⟨_,rfl,rfl⟩
theorem bLM {k:Nat} (hk:1≤k) {z:fR} {u:AV} {nl:List ByteArray} {cl:List rS} {L:List PQ} (hl:L.length≤1000) (hd:(L.map fun t=>tx t.1.1.id).Nodup):FCt (E k) 106 [u,.c (.fn 107 [] [])] z [.row u 116 10 L.length (aE6 nl cl L)] fun v z' H'=>v=.tup []∧z'=z∧H'=[.row u 116 10 L.length (aE6 nl cl (aVv L))]:=by
 have h:=bGN (call:=aBD 321 117 (aAd 184 (Uw 106 107 h1))) (h0:=h1) (g:=107) (ty:=116) (u:=u) (z:=z) (k0:=K0) (l:=L.map (chQ nl cl)) bFO (fun _ _ _ _ h=>h) (fun mem nx=>bPV mem nx) hk (by rw [List.length_map];omega) (fun x hx=>by obtain ⟨t,_,rfl⟩:=List.mem_map.1 hx;exact bS2 t) (by rw [List.map_map];exact hd)
 rw [bLe,aYU,aYU,List.length_map] at h
 exact h
theorem aYm {nl:List ByteArray} {cl:List rS} {z:fR} {L:List PQ} (h:∀ t,t∈L→QOk z t):CL 10 (aSw nl cl) z (aE6 nl cl L) (L.map (·.1)):=by
 induction L with
 | nil=>exact CL.nil
 | cons t L ih =>
  have h1:=h t (List.mem_cons_self ..)
  have h2:=ih fun x hx=>h x (List.mem_cons_of_mem _ hx)
  have h3:CL 10 (aSw nl cl) z (J6 nl cl t) [t.1]:=by
   refine ⟨O,fun i a hi=>?_⟩
   cases i with
   | zero=>simp at hi;subst hi;exact ⟨rfl,_,_,rfl,h1.1,h1.2⟩
   | succ i=>simp at hi
  exact h3.append h2
end Go.Proofs.YtlceligcgelbdaaGreat
