/- Naturals in limbs of 32 bits, and rationals on them, walked. -/
import Derived.WalkKit
import Derived.Orders
import Derived.Test.YtlceligcgelbdaaGreatKB2
import Derived.Test.YtlceligcgelbdaaGreatKC2
set_option linter.unusedVariables false
set_option linter.unusedSimpArgs false
set_option maxRecDepth 100000
set_option maxHeartbeats 1000000
namespace Go.Proofs.YtlceligcgelbdaaGreat
open Go.CE Go.RowKit Go.Num
open Go.Eng (kN)
theorem pM {k:Nat} (hk:1≤k) {z:dA} {v:AV} {l:List UInt32} (hx:SZ 1 RW z v l):FC (E k) 240 [v] z fun v' _=>∀ zz,SZ 1 RW zz v l→SZ 1 RW zz v' (toL (val l)):=by
 have hxl:=hx.le
 refine eA (bBo) (by omega) (aU O) fun B j hj=>?_
 refine R5 4 O ?_
 refine aT (aQ ?_)
 refine dX (fun n fs=>∃ (v':AV) (m:Nat),LI z [] [(0,v')] fs∧n=m∧(m≤l.length)∧(val (l.take m)=val l)∧(∀ zz,SZ 1 RW zz v l→SZ 1 RW zz v' (l.take m))) ?_ _ ⟨v,l.length,LI.m [] O,rfl,Nat.le_refl _,by rw [List.take_length],fun zz h=>by rw [List.take_length];exact h⟩ (kK (by omega))
 intro n fs ⟨v',m,hL0,hmz0,hm,hv,ht⟩
 refine hL0.open fun e zl0 hzl0=>?_
 refine R4 12 O (Lu O (ht _ (hx.mono (hzl0))) (nP hm) (R1 4 O ?_))
 refine fR 6 O (fun hg6=>?_) (fun hg6=>?_)
 ·refine R1 7 O (lD O (Lu O (ht _ (hx.mono (hzl0))) (nP hm) (lD O (lB O O (vO (n:=m - 1) (by omega) (by omega)) (lD O ?_)))))
  refine sJ O O (ht _ (hx.mono (hzl0))) (m - 1) (O) (by rw [nP hm];omega) fun p11 hp11=>?_
  refine lD O (uO O hp11 (R3 8 O ?_))
  refine xD O (fun hc14=>?_) (fun hc14=>?_)
  ·refine cP (aQ (xG (R1 7 O (Lu O (ht _ (hx.mono (hzl0))) (nP hm) (lB O O (vO (n:=m - 1) (by omega) (by omega)) ?_)))))
   refine aOt (i:=0) (j:=m - 1) O (ht _ (hx.mono (hzl0))) O ⟨_,O⟩ (by omega) (by rw [nP hm];omega) ?_
   refine R0 3 O ?_
   exact mK (by omega) ⟨aXf v' 0 (m - 1),m - 1,LI.m [] O,rfl,by omega,(bDH (by omega) hm (by omega)).trans hv,fun zz h=>by have:=(ht zz h).sub (i:=0) (j:=m - 1) (by omega) (by rw [nP hm];omega);rwa [List.drop_zero,List.take_take,Nat.min_eq_left (by omega)] at this⟩
  refine dH (nF (eT (R5 14 O (xT (rI O ?_)))))
  intro zz h
  rw [← aVZ hm hv (.inr (by omega))]
  exact ht zz h
 refine R3 1024 O (dH (nF (eT (R5 14 O (xT (rI O ?_))))))
 intro zz h
 rw [← aVZ hm hv (.inl (by omega))]
 exact ht zz h
theorem V7 {k:Nat} (hk:1≤k) {z:dA} {v:AV} {l:List UInt32} (hx:SZ 1 RW z v l) (hl:l.length≤10000000000):FC (E k) 192 [v] z fun v' z'=>SZ 1 RW (zd z z') v' l:=Lp.clone (aTa aUQ hk hx (by omega)) (fun h=>h) (by omega)
theorem C9 {k:Nat} (hk:2≤k) {z:dA} {v:AV} {l:List UInt32} (hx:SZ 1 RW z v l) (hl:l.length≤10000000000):FC (E k) 164 [v] z fun v' z'=>SZ 1 RW (zd z z') v' (toL (val l)):=by
 refine eA (bB4) (by omega) (aU O) fun B j hj=>?_
 refine R4 24 O ?_
 refine lZ z (pM (by omega) hx) O O fun v4 z4 hz4 ht4=>?_
 have hs4:=ht4 _ (hx.mono (hz4))
 have hq4:=yN (l:=l)
 refine lZ z4 (V7 (by omega) hs4 (by omega)) O O fun v5 z5 _ hr5=>?_
 have hr5:=hr5.mono (qY (hz4))
 refine R0 3 O (xT ?_)
 exact rI O hr5
theorem aYj {k:Nat} (hk:1≤k) {z:dA} {a:Int}:FC (E k) 318 [Ai a] z fun v _=>v=Ab false:=by
 refine eA (bEs) (by omega) (aU O) fun B j hj=>?_
 refine R5 128 O (xT (rI O ?_))
 show AV.c (C.v (Value.bool (!decide (a=a))))=_
 simp
theorem aTN {k:Nat} (hk:1≤k) {z:dA} {a:Int}:FC (E k) 319 [Ad a] z fun v _=>v=Ab false:=by
 refine eA (bCD) (by omega) (aU O) fun B j hj=>?_
 refine R5 128 O (xT (rI O ?_))
 show AV.c (C.v (Value.bool (!decide (a=a))))=_
 simp
theorem aZZ {k:Nat} (hk:2≤k) {z:dA} {a b:Nat}:FC (E k) 307 [Ai (a:Nat),Ai (b:Nat)] z fun v _=>v=Ai (Jg a b):=by
 refine eA (bEI) (by omega) (aU O) fun B j hj=>?_
 refine R4 16 O ?_
 refine lE z (aYj (by omega)) O O fun z8 _=>?_
 refine R2 9 O ?_
 refine lE z8 (aYj (by omega)) O O fun z10 _=>?_
 refine R3 524809 O ?_
 refine xD O (fun hc16=>?_) (fun hc16=>?_)
 ·refine R5 8 O (jX (rI O ?_))
  rw [Jg,if_pos (by omega)]
  rfl
 refine R5 128 O ?_
 refine xD O (fun hc19=>?_) (fun hc19=>?_)
 ·refine R5 8 O (jX (rI O ?_))
  rw [Jg,if_neg (by omega),if_pos (by omega)]
  rfl
 refine R5 8 O (xT (rI O ?_))
 rw [Jg,if_neg (by omega),if_neg (by omega)]
 rfl
theorem aYK {k:Nat} (hk:2≤k) {z:dA} {a b:Nat}:FC (E k) 308 [Ad (a:Nat),Ad (b:Nat)] z fun v _=>v=Ai (Jg a b):=by
 refine eA (bBt) (by omega) (aU O) fun B j hj=>?_
 refine R4 16 O ?_
 refine lE z (aTN (by omega)) O O fun z8 _=>?_
 refine R2 9 O ?_
 refine lE z8 (aTN (by omega)) O O fun z10 _=>?_
 refine R3 524809 O ?_
 refine xD O (fun hc16=>?_) (fun hc16=>?_)
 ·refine R5 8 O (jX (rI O ?_))
  rw [Jg,if_pos (by omega)]
  rfl
 refine R5 128 O ?_
 refine xD O (fun hc19=>?_) (fun hc19=>?_)
 ·refine R5 8 O (jX (rI O ?_))
  rw [Jg,if_neg (by omega),if_pos (by omega)]
  rfl
 refine R5 8 O (xT (rI O ?_))
 rw [Jg,if_neg (by omega),if_neg (by omega)]
 rfl
theorem aEX {k:Nat} (hk:3≤k) {z:dA} {u v:AV} {a b:List UInt32} (hx:SZ 1 RW z u a) (hy:SZ 1 RW z v b):FC (E k) 281 [u,v] z fun v _=>v=Ai (Jg (val a) (val b)):=by
 refine eA (bBV) (by omega) (aU O) fun B j hj=>?_
 refine R4 24 O ?_
 refine lZ z (pM (by omega) hx) O O fun v7 z7 hz7 ht7=>?_
 have hs7:=ht7 _ (hx.mono (hz7))
 have hl7:=hs7.le
 refine lM O ?_
 refine lZ z7 (pM (by omega) hy.m) O O fun v9 z9 hz9 ht9=>?_
 have hs9:=ht9 _ (hy.mono (hz7.trans hz9))
 refine R2 51 O (aS O hs7 (lM O (aS O hs9 (R3 4 O ?_))))
 refine wO O (fun hc14=>?_) (fun hc14=>?_)
 ·refine R4 12 O (aS O hs7 (lM O (aS O hs9 ?_)))
  refine lZ z9 (aZZ (by omega)) O O fun v19 z19 _ hv19=>?_
  refine R0 3 O (jX ?_)
  exact rI O (hv19.trans (by rw [bJn (by omega)]))
 refine R4 24 O (aS O hs7 (lB O O (wF (r:=(((toL (val a)).length:Nat):Int) - 1) (vF (by omega))) (R0 2 O ?_)))
 refine aT (aQ ?_)
 refine dX (fun n fs=>∃ (i:Nat),LI z9 [] [(0,v7),(1,v9),(5,Ai ((i:Int) - 1))] fs∧n=i∧(i≤(toL (val a)).length)∧(∀ j,i≤j→nJ (toL (val a)) j=nJ (toL (val b)) j)) ?_ _ ⟨(toL (val a)).length,LI.m [] O,rfl,Nat.le_refl _,fun j hj=>by rw [aET hj,aET (by omega)]⟩ (kK (by omega))
 intro n fs ⟨i,hL0,hmz0,hi,he⟩
 refine hL0.open fun e zl0 _=>?_
 refine R5 32 O ?_
 refine xD O (fun hc24=>?_) (fun hc24=>?_)
 ·refine cP ?_
  refine aT (aQ ?_)
  refine iN (G1 5 O (gP O O F ?_))
  refine sJ (zz:=zl0) O O hs7.m (i - 1) (by omega) (by omega) fun p29 hp29=>lN ?_
  refine glP O O hp29 ti (G1 5 O (gP O O F ?_))
  refine sJ (zz:=zl0) O O hs9.m (i - 1) (by omega) (by omega) fun p33 hp33=>lN ?_
  refine glP O O hp33 ti (G0 2 O ?_)
  refine wO O (fun hc35=>?_) (fun hc35=>?_)
  ·refine iN (G1 5 O (gP O O F ?_))
   refine sJ (zz:=zl0) O O hs7.m (i - 1) (by omega) (by omega) fun p38 hp38=>lN ?_
   refine glP O O hp38 ti (G1 5 O (gP O O F ?_))
   refine sJ (zz:=zl0) O O hs9.m (i - 1) (by omega) (by omega) fun p42 hp42=>lN ?_
   refine glP O O hp42 ti ?_
   refine gC zl0 (aYK (by omega)) O O O O fun v44 z44 _ hv44=>?_
   refine G0 3 O (xT (nS (L9 (nS (rI O (hv44.trans ?_))))))
   rw [bJm (by omega) (by omega) (fun j hj=>he j (by omega)) (by omega),gX,gX]
  refine oC (eT (xG (lC O ?_)))
  refine lB O O (wF (r:=((i - 1:Nat):Int) - 1) (by rw [vF ⟨by omega,by omega⟩];omega)) ?_
  refine R0 2 O ?_
  exact mK (by omega) ⟨i - 1,LI.m [] O,rfl,by omega,bFy (by omega) he (by omega)⟩
 refine dH (nF (eT (R5 4 O (xT (rI O ?_)))))
 have e:toL (val a)=toL (val b):=bAf (by omega) fun j=>he j (by omega)
 have e2:val a=val b:=by rw [← gX (val a),e,gX]
 rw [e2,Jg,if_neg (by omega),if_neg (by omega)]
 rfl
theorem aAb {k:Nat} (hk:1≤k) {z:dA} {a b c:Nat} (ha:a<4294967296) (hb:b<4294967296) (hc:c≤1):FC (E k) 305 [Ad ((a:Nat):Int),Ad ((b:Nat):Int),Ad ((c:Nat):Int)] z fun v _=>∃ lo co:Nat,v=.tup [Ad (lo:Nat),Ad (co:Nat)]∧lo+4294967296 * co=a+b+c∧lo<4294967296∧co≤1:=by
 refine eA (bDY) (by omega) (aU O) fun B j hj=>?_
 refine R4 32 O (mX O (wQ (O) (by omega)) (lC O (mX O (wQ (O) (by omega)) (lB O O (aFP (n:=a+b) (by omega) (by omega)) (lC O (mX O (wQ (O) (by omega)) (lB O O (aFP (n:=a+b+c) (by omega) (by omega)) (R2 8 O (mX O (wDm _) (R2 8 O (lB O O (aHm (n:=(a+b+c) / 4294967296) (by decide) (O)) (mX O (wD (O) (by omega)) (R0 2 O (xT (rQ (.inl O) (rt O (rt O rn)) ?_)))))))))))))))
 exact ⟨_,_,rfl,by omega,by omega,by omega⟩
theorem aWP {k:Nat} (hk:1≤k) {z:dA} {a b:Nat} (ha:a<4294967296) (hb:b<4294967296):FC (E k) 323 [Ad ((a:Nat):Int),Ad ((b:Nat):Int)] z fun v _=>∃ hi lo:Nat,v=.tup [Ad (hi:Nat),Ad (lo:Nat)]∧lo+4294967296 * hi=a * b∧lo<4294967296∧hi<4294967296:=by
 have hab:a * b≤4294967295 * 4294967295:=Nat.mul_le_mul (by omega) (by omega)
 refine eA (bBw) (by omega) (aU O) fun B j hj=>?_
 refine R4 32 O (mX O (wQ (O) (by omega)) (lC O (mX O (wQ (O) (by omega)) (lB O O (aXl (n:=a * b) ((Int.natCast_mul a b).symm) (by omega)) (R2 8 O (lB O O (aHm (n:=(a * b) / 4294967296) (by decide) (O)) (mX O (wD (O) (by omega)) (lC O (mX O (wDm _) (R0 4 O (xT (rQ (.inl O) (rt O (rt O rn)) ?_))))))))))))
 exact ⟨_,_,rfl,by omega,by omega,by omega⟩
theorem aWJ {k:Nat} (hk:1≤k) {z:dA} {hi lo y:Nat} (hh:hi<y) (hl:lo<4294967296) (hy:y<4294967296):FC (E k) 314 [Ad ((hi:Nat):Int),Ad ((lo:Nat):Int),Ad ((y:Nat):Int)] z fun v _=>∃ q r:Nat,v=.tup [Ad (q:Nat),Ad (r:Nat)]∧q * y+r=4294967296 * hi+lo∧r<y∧q<4294967296:=by
 have h1:=bIi hh hl
 have h2:=Nat.mod_lt (4294967296 * hi+lo) (show 0<y by omega)
 have h3:=Nat.div_add_mod' (4294967296 * hi+lo) y
 refine eA (bCe) (by omega) (aU O) fun B j hj=>?_
 refine R4 256 O ?_
 refine aJo 11 O (fun hg11=>?_) (fun hg11=>?_)
 ·refine R3 32 O ?_
  refine xD O (fun hc15=>?_) (fun hc15=>?_)
  ·omega
  refine R4 8 O (mX O (wQ (O) (by omega)) (lB O O (aS1 (n:=4294967296 * hi) (by omega) (by omega)) (lC O (mX O (wQ (O) (by omega)) (lB O O (bHk (n:=4294967296 * hi+lo) (by omega) (by omega) (aTb hl)) (R0 2 O (iN (G1 4 O (gP O O F ?_)))))))))
  refine mX O (wQ (O) (by omega)) (lN ?_)
  refine gP O O F ?_
  refine lB O O (bHL (by omega) (O) (by omega)) (lN ?_)
  refine gP O O F ?_
  refine mX O (wD (O) (by omega)) (lN ?_)
  refine G1 4 O (gP O O F ?_)
  refine mX O (wQ (O) (by omega)) (lN ?_)
  refine gP O O F ?_
  refine lB O O (bFK (by omega) (O)) (lN ?_)
  refine gP O O F ?_
  refine mX O (wD (O) (by omega)) (lN ?_)
  refine G0 4 O (xT (rQ (.inl O) (rt O (rt O rn)) ?_))
  exact ⟨_,_,rfl,h3,h2,h1⟩
 omega
theorem aWA {k:Nat} (hk:1≤k) {z:dA} {a b c:Nat} (ha:a<4294967296) (hb:b<4294967296) (hc:c≤1):FC (E k) 306 [Ad ((a:Nat):Int),Ad ((b:Nat):Int),Ad ((c:Nat):Int)] z fun v _=>∃ lo co:Nat,v=.tup [Ad (lo:Nat),Ad (co:Nat)]∧lo+b+c=a+4294967296 * co∧lo<4294967296∧co≤1:=by
 refine eA (bBP) (by omega) (aU O) fun B j hj=>?_
 refine R4 64 O ?_
 refine lB O O (wF (r:=((a+4294967296 - b) % 4294967296:Nat)) (by rw [bGr];omega)) ?_
 refine lC O ?_
 refine lB O O (wF (r:=((a+8589934592 - b - c) % 4294967296:Nat)) (by rw [bGr];omega)) ?_
 refine R2 8 O (aRS O (bFo (by omega) O) (lC O (lB O O (bGY (by omega) (by omega) (O)) (R1 4 O (lB O O (bQp (by omega) (by omega) (O)) (aRS O (bFo (Nat.xor_lt_two_pow (n:=32) ha hb) O) (lC O (lB O O (bGY (by omega) (by omega) (O)) (lB O O (bUG (Nat.and_lt_two_pow (n:=32) _ hb) (Nat.and_lt_two_pow (n:=32) _ (by omega)) (O)) (lB O O (aHm (by decide) (O)) (R0 2 O (xT (rQ (.inl O) (rt O (rt O rn)) ?_)))))))))))))
 have h:=aZB ha hb hc
 refine ⟨_,_,O,?_,by omega,?_⟩
 ·rw [h];split<;>omega
 rw [h];split<;>omega
theorem aW9 {k:Nat} (hk:1≤k) {z:dA} {x:Nat} (hx:x<4294967296):FC (E k) 258 [Ad ((x:Nat):Int)] z fun v _=>∃ n:Nat,v=Ai (n:Nat)∧n≤32∧x<2 ^ n∧(0<x→2 ^ (n - 1)≤x∧0<n):=by
 refine eA (bDS) (by omega) (aU O) fun B j hj=>?_
 refine R5 64 O ?_
 refine Ik (fun fs=>∃ (y:Nat) (n:Nat),LI z [] [(0,Ad ((y:Nat):Int)),(2,Az n)] fs∧(Bl x y n 16)) ?_ fun fs hJ=>?_
 ·refine xD O (fun hc4=>?_) (fun hc4=>?_)
  ·refine R4 4 O (lB O O (aHm (by decide) (O)) (R0 2 O (xG (R0 2 O ?_))))
   exact eT ⟨x / 65536,16,LI.m [] O,bU8 hx (by omega)⟩
  refine oC ?_
  exact eT ⟨x,0,LI.m [] O,bVE (by omega)⟩
 obtain ⟨y,n,hJ4,hb4⟩:=hJ
 refine hJ4.open fun e zj4 _=>?_
 refine R5 16 O ?_
 refine Ik (fun fs=>∃ (y':Nat) (n':Nat),LI zj4 [] [(0,Ad ((y':Nat):Int)),(2,Az n')] fs∧(Bl x y' n' 8)) ?_ fun fs hJ=>?_
 ·refine xD O (fun hc8=>?_) (fun hc8=>?_)
  ·refine R4 4 O (lB O O (aHm (by decide) (O)) (R0 2 O (xG (lC O ?_))))
   refine lB O O (gI (n:=n+8) (by omega) (by have:=hb4.1;omega)) ?_
   refine R0 2 O ?_
   exact eT ⟨y / 256,n+8,LI.m [] O,bVJ hb4 (by omega)⟩
  refine oC ?_
  exact eT ⟨y,n,LI.m [] O,bV1 hb4 (by omega)⟩
 obtain ⟨y',n',hJ8,hb8⟩:=hJ
 refine hJ8.open fun e zj8 _=>?_
 refine R4 8 O ?_
 refine mX O ((wu8 ⟨by omega,by have:=hb8.2.1;omega⟩)) ?_
 refine bMy O O (y') (O) (by have:=hb8.2.1;show _<256;omega) ?_
 refine mX O (wI (O) (Nat.lt_trans (UInt8.toNat_lt _) (by decide))) ?_
 refine lB O O (gI (n:=n'+(Go.Eng.bget aI8 y').toNat) ((Int.natCast_add _ _).symm) (by have:=UInt8.toNat_lt (Go.Eng.bget aI8 y');have:=hb8.1;omega)) ?_
 refine R0 2 O (xT ?_)
 exact rI O (bU5 hb8)
theorem aRH {k:Nat} (hk:2≤k) {z:dA} {u v:AV} {a0 b0:List UInt32} (hx:SZ 1 RW z u a0) (hy:SZ 1 RW z v b0) (hla:a0.length≤1000000000) (hlb:b0.length≤1000000000):FC (E k) 279 [u,v] z fun v z'=>SZ 1 RW (zd z z') v (toL (val a0+val b0)):=by
 refine eA (bCh) (by omega) (aU O) fun B j hj=>?_
 refine R4 48 O (aS O hx (lM O (aS O hy (R0 2 O ?_))))
 refine Ik (fun fs=>∃ (p:AV) (q:AV) (a:List UInt32) (b:List UInt32),LI z [] [(0,p),(1,q)] fs∧(SZ 1 RW z p a)∧(SZ 1 RW z q b)∧(b.length≤a.length)∧(a.length≤1000000000)∧(val a+val b=val a0+val b0)) ?_ fun fs hJ=>?_
 ·refine xD O (fun hc13=>?_) (fun hc13=>?_)
  ·refine xG (R0 31 O ?_)
   exact eT ⟨v,u,b0,a0,LI.m [] O,hy,hx,by omega,hlb,Nat.add_comm _ _⟩
  refine oC ?_
  exact eT ⟨u,v,a0,b0,LI.m [] O,hx,hy,by omega,hla,rfl⟩
 obtain ⟨p,q,a,b,hJ13,hp,hq,hba,hal,hs⟩:=hJ
 refine hJ13.open fun e zj13 _=>?_
 refine R4 6 O (aS O hp (lB O O (gI (n:=a.length+1) (by omega) (by omega)) ?_))
 refine aSU (n:=a.length+1) O O (O) (by omega) (by omega) fun b19=>?_
 refine R2 96 O (aS O hp (R0 2 O ?_))
 refine aT (aQ ?_)
 refine dX (fun n fs=>∃ (i:Nat) (o:List UInt32) (cy:Nat),LI zj13 [Fq eW b19 117 o] [(0,p),(1,q),(5,Aw b19 (a.length+1)),(6,Ad ((cy:Nat):Int)),(21,Az a.length),(22,Az i)] fs∧n=a.length - i∧(i≤a.length)∧(o.length=a.length+1)∧(cy≤1)∧(val (o.take i)+Num.W ^ i * cy=val (a.take i)+val (b.take i))) ?_ _ ⟨0,_,0,LI.m [] O,rfl,Nat.zero_le _,by simp,by omega,by simp [val]⟩ (kK (by omega))
 intro n fs ⟨i,o,cy,hL0,hmz0,hi,hol,hcy,hv⟩
 refine hL0.open fun e zl0 _=>?_
 refine R5 8 O ?_
 refine xD O (fun hc23=>?_) (fun hc23=>?_)
 ·refine cP ?_
  refine aT (aQ ?_)
  refine R4 768 O (aS O hq (R0 2 O ?_))
  refine Ik (fun fs=>LI zl0 [Fq eW b19 117 o] [(0,p),(1,q),(5,Aw b19 (a.length+1)),(6,Ad ((cy:Nat):Int)),(7,Az i),(8,Ad ((nJ b i:Nat):Int)),(21,Az a.length),(22,Az i)] fs) ?_ fun fs hJ=>?_
  ·refine xD O (fun hc28=>?_) (fun hc28=>?_)
   ·refine xG (R1 5 O ?_)
    refine sJ (zz:=zl0) O O hq.m (i) (O) (by omega) fun p31 hp31=>?_
    refine uO O hp31 (R0 2 O ?_)
    exact eT (LI.m [] O)
   refine oC ?_
   rw [show nJ b i=0 from aET (by omega)]
   exact eT (LI.m [] O)
  have hJ28:=hJ
  refine hJ28.open fun e zj28 _=>?_
  refine xG (R1 20 O ?_)
  refine sJ (zz:=zj28) O O hp.m (i) (O) (by omega) fun p38 hp38=>?_
  refine uO O hp38 (R1 4 O ?_)
  refine lZ zj28 (aAb (by omega) (qO a i) (qO b i) hcy) O O fun v42 z42 _ ⟨lo,co,hv42,hk1,hk2,hk3⟩=>?_
  subst hv42
  refine R1 9 O (oO O O (i) (O) (by omega) (Ek (i) (lo) O O iW (O) (by omega) (by omega) (by omega) (R0 3 O (eT (xG (lB O O (gI (n:=i+1) (by omega) (by omega)) (R0 2 O ?_)))))))
  exact mK (by omega) ⟨i+1,_,co,LI.m [] O,rfl,by omega,by simp [hol],hk3,bLb (by omega) hk2 hv hk1⟩
 refine dH (nF (eT (R4 12 O (aS O hp (lC O (oO O O (a.length) (O) (by omega) (Ek (a.length) (cy) O O iW (O) (by omega) (by omega) (by omega) (lN (R4 4 O ?_)))))))))
 refine A7 (n:=a.length+1) z zl0 (p:=[]) O O zI (by rw [List.length_set];omega) (by omega) fun zf52 _ hf52=>?_
 refine lZ zf52 (pM (by omega) (hf52.mono jF)) O O fun v53 z53 hz53 ht53=>?_
 refine R0 3 O (xT (rI O ?_))
 have hr:=ht53 _ (hf52.mono (jO (hz53)))
 rwa [aXw hol (by show _<4294967296;omega),show val (o.take a.length)+Num.W ^ a.length * cy=val a0+val b0 by rw [show i=a.length by omega] at hv;rw [hv,oP (Nat.le_refl _),oP hba];exact hs] at hr
theorem aSD {k:Nat} (hk:1≤k) {z:dA} {v:AV} {l:List UInt32} (hx:SZ 1 RW z v l) (hl:l.length≤10000000000):Lp (E k) 192 [v] z [] fun v' _ H'=>H'=[Ed eW v' 117 l]:=(aTa aUQ hk hx (by omega)).mono fun v' z' H' _ ⟨cs,h1,h2,_⟩=>by rw [h1,bHh h2]
theorem aFs {k:Nat} (hk:4≤k) {z:dA} {u v:AV} {a b:List UInt32} (hx:SZ 1 RW z u a) (hy:SZ 1 RW z v b) (hla:a.length≤1000000000) (hlb:b.length≤1000000000):FC (E k) 280 [u,v] z fun v z'=>(val a<val b→v=.tup [rC,Ai 2])∧(val b≤val a→∃ v',v=.tup [v',Ai 0]∧SZ 1 RW (zd z z') v' (toL (val a - val b))):=by
 have hqa:=yN (l:=a)
 have hqb:=yN (l:=b)
 refine eA (bC5) (by omega) (aU O) fun B j hj=>?_
 refine R4 48 O ?_
 refine lZ z (pM (by omega) hx) O O fun v11 z11 hz11 ht11=>?_
 have hs11:=ht11 _ (hx.mono (hz11))
 refine lM O ?_
 refine lZ z11 (pM (by omega) hy.m) O O fun v13 z13 hz13 ht13=>?_
 have hs13:=ht13 _ (hy.mono (hz11.trans hz13))
 refine R2 115 O ?_
 refine lZ z13 (aEX (by omega) hs11.m hs13) O O fun v16 z16 _ hv16=>?_
 rw [gX,gX] at hv16
 subst hv16
 refine R3 4 O ?_
 refine xD O (fun hc17=>?_) (fun hc17=>?_)
 ·refine R5 16 O (jX (rQ (.inl O) (rt O (rt O rn)) ?_))
  rw [Pv] at hc17
  exact ⟨fun _=>rfl,fun h=>absurd h (by omega)⟩
 refine R4 12 O ?_
 refine uW z16 [] (aSD (by omega) hs11.m (by omega)) O O O fun v19 z19 H19 _ hH19=>?_
 subst hH19
 refine R2 97 O (aW2 O mem0 (R0 2 O ?_))
 refine aT (aQ ?_)
 refine dX (fun n fs=>∃ (i:Nat) (o:List UInt32) (cy:Nat),LI z19 [Ed eW v19 117 o] [(1,v13),(6,v19),(7,Ad ((cy:Nat):Int)),(21,Az ((toL (val a)).length)),(22,Az i)] fs∧n=(toL (val a)).length - i∧(i≤(toL (val a)).length)∧(o.length=(toL (val a)).length)∧(cy≤1)∧(o.drop i=(toL (val a)).drop i)∧(val (o.take i)+val ((toL (val b)).take i)=val ((toL (val a)).take i)+Num.W ^ i * cy)) ?_ _ ⟨0,_,0,LI.m [] O,rfl,Nat.zero_le _,rfl,by omega,rfl,by simp [val]⟩ (kK (by omega))
 intro n fs ⟨i,o,cy,hL0,hmz0,hi,hol,hcy,hdr,hv⟩
 refine hL0.open fun e zl0 _=>?_
 refine R5 8 O ?_
 refine xD O (fun hc23=>?_) (fun hc23=>?_)
 ·refine cP ?_
  refine aT (aQ ?_)
  refine R4 768 O (aS O hs13 (R0 2 O ?_))
  refine Ik (fun fs=>LI zl0 [Ed eW v19 117 o] [(1,v13),(6,v19),(7,Ad ((cy:Nat):Int)),(8,Az i),(9,Ad ((nJ (toL (val b)) i:Nat):Int)),(21,Az ((toL (val a)).length)),(22,Az i)] fs) ?_ fun fs hJ=>?_
  ·refine xD O (fun hc28=>?_) (fun hc28=>?_)
   ·refine xG (R1 5 O ?_)
    refine sJ (zz:=zl0) O O hs13.m (i) (O) (by omega) fun p31 hp31=>?_
    refine uO O hp31 (R0 2 O ?_)
    exact eT (LI.m [] O)
   refine oC ?_
   rw [show nJ (toL (val b)) i=0 from aET (by omega)]
   exact eT (LI.m [] O)
  have hJ28:=hJ
  refine hJ28.open fun e zj28 _=>?_
  refine xG ?_
  refine aWr (p:=[]) O (by omega) fun bbr hbr=>?_
  cases hbr
  refine R1 21 O (oO O O (i) (O) (by omega) (aGM (i) O mem0 (by omega) (by omega) (R1 4 O ?_)))
  refine lZ zj28 (aWA (by omega) (qO o i) (qO _ i) hcy) O O fun v42 z42 _ ⟨lo,co,hv42,hk1,hk2,hk3⟩=>?_
  subst hv42
  refine R1 9 O (oO O O (i) (O) (by omega) (Ek (i) (lo) O O iW (O) (by omega) (by omega) (by omega) ?_))
  refine aJS (p:=[]) O (by rw [List.length_set]) ?_
  refine R0 3 O (eT (xG (lB O O (gI (n:=i+1) (by omega) (by omega)) (R0 2 O ?_))))
  have hd:=aGJ hdr (Nat.le_refl i)
  exact mK (by omega) ⟨i+1,_,co,LI.m [] O,rfl,by omega,by rw [List.length_set];exact hol,hk3,by rw [aFU (by omega),aUI hdr],bKl (by omega) hk2 hv (by rw [← hd];exact hk1)⟩
 refine dH (nF (eT (R4 6 O ?_)))
 refine Dx z zl0 (p:=[]) O O zI (by omega) fun zf47 _ hf47=>?_
 refine lZ zf47 (pM (by omega) (hf47.mono jF)) O O fun v48 z48 hz48 ht48=>?_
 refine R0 5 O (xT (rQ (.inl O) (rt O (rt O rn)) ?_))
 rw [Pv] at hc17
 refine ⟨fun h=>absurd h hc17,fun _=>⟨_,rfl,?_⟩⟩
 have hr:=ht48 _ (hf47.mono (jO (hz48)))
 have hw:=aE1 o
 rw [show i=(toL (val a)).length by omega,oP (by omega),oP (Nat.le_refl _),oP (by have:=zH (show val b≤val a by omega);omega),gX,gX] at hv
 have e:val o=val a - val b:=bFb (by omega) hcy (by rw [← hol];exact hw) hv
 rwa [e] at hr
theorem aNq {k:Nat} (hk:2≤k) {z:dA} {v:AV} {a:List UInt32} {m:Nat} (hx:SZ 1 RW z v a) (hm:m<4294967296) (hla:a.length≤1000000000):FC (E k) 322 [v,Ad ((m:Nat):Int)] z fun v z'=>SZ 1 RW (zd z z') v (toL (val a * m)):=by
 refine eA (bD2) (by omega) (aU O) fun B j hj=>?_
 refine R4 24 O (aS O hx (lB O O (gI (n:=a.length+1) (by omega) (by omega)) ?_))
 refine aSU (n:=a.length+1) O O (O) (by omega) (by omega) fun b16=>?_
 refine R2 96 O (aS O hx (R0 2 O ?_))
 refine aT (aQ ?_)
 refine dX (fun n fs=>∃ (i:Nat) (o:List UInt32) (cy:Nat),LI z [Fq eW b16 117 o] [(0,v),(1,Ad ((m:Nat):Int)),(5,Aw b16 (a.length+1)),(6,Ad ((cy:Nat):Int)),(17,v),(18,Az a.length),(19,Az i)] fs∧n=a.length - i∧(i≤a.length)∧(o.length=a.length+1)∧(cy<4294967296)∧(val (o.take i)+Num.W ^ i * cy=val (a.take i) * m)) ?_ _ ⟨0,_,0,LI.m [] O,rfl,Nat.zero_le _,by simp,by omega,by simp [val]⟩ (kK (by omega))
 intro n fs ⟨i,o,cy,hL0,hmz0,hi,hol,hcy,hv⟩
 refine hL0.open fun e zl0 _=>?_
 refine R5 8 O ?_
 refine xD O (fun hc20=>?_) (fun hc20=>?_)
 ·refine cP ?_
  refine aT (aQ ?_)
  refine R4 4 O ?_
  refine sJ (zz:=zl0) O O hx.m (i) (O) (by omega) fun p22 hp22=>?_
  refine uO O hp22 (R2 32 O ?_)
  refine lZ zl0 (aWP (by omega) (qO a i) hm) O O fun v27 z27 _ ⟨hi1,lo,hv27,hk1,hk2,hk3⟩=>?_
  subst hv27
  refine R2 345 O ?_
  refine lZ z27 (aAb (c:=0) (by omega) hk2 hcy (by omega)) O O fun v33 z33 _ ⟨s,mo,hv33,hk4,hk5,hk6⟩=>?_
  subst hv33
  obtain ⟨hh1,hh2⟩:=bP6 (qO a i) hm hcy hk1 (by rw [hk4];rfl)
  refine R0 57 O (xG (R1 60 O (lB O O (bGe (n:=hi1+mo) (by omega) (by omega)) (oO O O (i) (O) (by omega) (Ek (i) (s) O O iW (O) (by omega) (by omega) (by omega) (R0 2 O (eT (xG (lB O O (gI (n:=i+1) (by omega) (by omega)) (R0 2 O ?_))))))))))
  exact mK (by omega) ⟨i+1,_,hi1+mo,LI.m [] O,rfl,by omega,by simp [hol],hh2,bJQ (by omega) hk5 hv hh1⟩
 refine dH (nF (eT (R4 12 O (aS O hx (lC O (oO O O (a.length) (O) (by omega) (Ek (a.length) (cy) O O iW (O) (by omega) (by omega) (by omega) (lN (R4 4 O ?_)))))))))
 refine A7 (n:=a.length+1) z zl0 (p:=[]) O O zI (by rw [List.length_set];omega) (by omega) fun zf49 _ hf49=>?_
 refine lZ zf49 (pM (by omega) (hf49.mono jF)) O O fun v50 z50 hz50 ht50=>?_
 refine R0 3 O (xT (rI O ?_))
 have hr:=ht50 _ (hf49.mono (jO (hz50)))
 rw [show i=a.length by omega,oP (Nat.le_refl _)] at hv
 rwa [aXw hol hcy,hv] at hr
theorem aA9 {k:Nat} (hk:2≤k) {z:dA} {v:AV} {a:List UInt32} {d:Nat} (hx:SZ 1 RW z v a) (hd:d<4294967296) (hla:a.length≤1000000000):FC (E k) 300 [v,Ad ((d:Nat):Int)] z fun v z'=>(d=0→v=.tup [rC,Ad 0,Ai 20])∧(0<d→∃ v',v=.tup [v',Ad ((val a % d:Nat):Int),Ai 0]∧SZ 1 RW (zd z z') v' (toL (val a / d))):=by
 refine eA (bCT) (by omega) (aU O) fun B j hj=>?_
 refine R5 512 O ?_
 refine xD O (fun hc9=>?_) (fun hc9=>?_)
 ·refine R5 32 O (jX (rQ (.inl O) (rt O (rt O (rt O rn))) ?_))
  exact ⟨fun _=>rfl,fun h=>absurd h (by omega)⟩
 refine R4 12 O ?_
 refine uW z [] (aSD (by omega) hx (by omega)) O O O fun v11 z11 H11 _ hH11=>?_
 subst hH11
 refine R2 25 O (aW2 O mem0 (lB O O (wF (r:=((a.length:Nat):Int) - 1) (vF (by omega))) (R0 2 O ?_)))
 refine aT (aQ ?_)
 refine dX (fun n fs=>∃ (i:Nat) (o:List UInt32) (r:Nat),LI z11 [Ed eW v11 117 o] [(1,Ad ((d:Nat):Int)),(4,v11),(5,Ad ((r:Nat):Int)),(7,Ai ((i:Int) - 1))] fs∧n=i∧(i≤a.length)∧(o.length=a.length)∧(r<d)∧(o.take i=a.take i)∧(val (a.drop i)=val (o.drop i) * d+r)) ?_ _ ⟨a.length,_,0,LI.m [] O,rfl,Nat.le_refl _,rfl,by omega,rfl,by simp [val]⟩ (kK (by omega))
 intro n fs ⟨i,o,r,hL0,hmz0,hi,hol,hr,htk,hv⟩
 refine hL0.open fun e zl0 _=>?_
 refine R5 32 O ?_
 refine xD O (fun hc16=>?_) (fun hc16=>?_)
 ·refine cP ?_
  refine aT (aQ ?_)
  refine xG ?_
  refine aWr (p:=[]) O (by omega) fun bbr hbr=>?_
  cases hbr
  refine R1 41 O (oO O O (i - 1) (by omega) (by omega) (aGM (i - 1) O mem0 (by omega) (by omega) (lC O ?_)))
  refine lZ zl0 (aWJ (by omega) hr (qO o (i - 1)) hd) O O fun v28 z28 _ ⟨q1,r1,hv28,hk1,hk2,hk3⟩=>?_
  subst hv28
  refine R1 9 O (oO O O (i - 1) (by omega) (by omega) (Ek (i - 1) (q1) O O iW (O) (by omega) (by omega) (by omega) ?_))
  refine aJS (p:=[]) O (by rw [List.length_set]) ?_
  refine R0 3 O (eT (xG (lC O ?_)))
  refine lB O O (wF (r:=((i - 1:Nat):Int) - 1) (by rw [vF ⟨by omega,by omega⟩];omega)) ?_
  refine R0 2 O ?_
  have hdg:nJ o (i - 1)=nJ a (i - 1):=by rw [← aSP (l:=o) (m:=i) (by omega),htk,aSP (by omega)]
  rw [hdg] at hk1
  exact mK (by omega) ⟨i - 1,_,r1,LI.m [] O,rfl,by omega,by rw [List.length_set];exact hol,hk2,by rw [List.take_set_of_le (Nat.le_refl _)];exact bDZ htk,bIR (by omega) (by omega) hk3 hv (by omega) hk1⟩
 refine dH (nF (eT (R4 6 O ?_)))
 refine Dx z zl0 (p:=[]) O O zI (by omega) fun zf32 _ hf32=>?_
 refine lZ zf32 (pM (by omega) (hf32.mono jF)) O O fun v33 z33 hz33 ht33=>?_
 refine R0 18 O (xT (rQ (.inl O) (rt O (rt O (rt O rn))) ?_))
 refine ⟨fun h=>absurd h (by omega),fun _=>?_⟩
 rw [show i=0 by omega,List.drop_zero,List.drop_zero] at hv
 obtain ⟨e1,e2⟩:=aY4 hr hv
 refine ⟨_,by rw [e2];rfl,?_⟩
 have h:=ht33 _ (hf32.mono (jO (hz33)))
 rwa [← e1] at h
open Go.CE Go.RowKit Go.Num
open Go.Eng (kN)
theorem aBx {k:Nat} (hk:2≤k) {z:dA} {x:Nat} (hx:x<4294967296):FC (E k) 301 [Ad ((x:Nat):Int)] z fun v _=>∃ n:Nat,v=Ai (n:Nat)∧n≤32∧x * 2 ^ n<4294967296∧(0<x→2147483648≤x * 2 ^ n∧n≤31):=by
 refine eA (bD4) (by omega) (aU O) fun B j hj=>?_
 refine R4 16 O ?_
 refine lZ z (aW9 (by omega) hx) O O fun v4 z4 _ ⟨m,hv4,hm1,hm2,hm3⟩=>?_
 subst hv4
 refine lB O O (vO (n:=32 - m) (by omega) (by omega)) (R0 2 O (xT ?_))
 exact rI O ⟨_,rfl,bTP hm1 hm2 hm3⟩
theorem aXT {k:Nat} (hk:3≤k) {z:dA} {v:AV} {m n:Nat} (hx:SZ 1 RW z v (toL m)) (hn:n≤31) (hl:(toL m).length≤1000000000):FC (E k) 316 [v,Az n] z fun v' z'=>SZ 1 RW z' v' (toL (m * 2 ^ n)):=by
 have hp:2 ^ n<4294967296:=Nat.lt_of_le_of_lt (Nat.pow_le_pow_right (by decide) hn) (by decide)
 refine eA (bBA) (by omega) (aU O) fun B j hj=>?_
 refine R5 128 O ?_
 refine xD O (fun hc6=>?_) (fun hc6=>?_)
 ·refine R5 28 O (jX (rI O ?_))
  rw [show n=0 by omega,Nat.pow_zero,Nat.mul_one]
  exact hx
 refine R4 20 O (lB O O (bAC (n:=2 ^ n) hn O) ?_)
 refine lZ z (aNq (by omega) hx hp hl) O O fun v11 z11 _ hr11=>?_
 refine R0 3 O (xT (rI O ?_))
 rw [gX] at hr11
 exact (hr11.mono jF)
theorem aWI {k:Nat} (hk:3≤k) {z:dA} {v:AV} {m n:Nat} (hx:SZ 1 RW z v (toL m)) (hn:n≤31) (hl:(toL m).length≤1000000000):FC (E k) 317 [v,Az n] z fun v' z'=>SZ 1 RW z' v' (toL (m / 2 ^ n)):=by
 have hp:2 ^ n<4294967296:=Nat.lt_of_le_of_lt (Nat.pow_le_pow_right (by decide) hn) (by decide)
 have hp0:0<2 ^ n:=Nat.pow_pos (by decide)
 refine eA (bBJ) (by omega) (aU O) fun B j hj=>?_
 refine R5 128 O ?_
 refine xD O (fun hc9=>?_) (fun hc9=>?_)
 ·refine R5 28 O (jX (rI O ?_))
  rw [show n=0 by omega,Nat.pow_zero,Nat.div_one]
  exact hx
 refine R4 20 O (lB O O (bAC (n:=2 ^ n) hn O) ?_)
 refine lZ z (aA9 (by omega) hx hp hl) O O fun v15 z15 _ ⟨_,hv15⟩=>?_
 obtain ⟨w,rfl,hr15⟩:=hv15 hp0
 refine R3 1905 O (xT (rI O ?_))
 rw [gX] at hr15
 exact (hr15.mono jF)
theorem aZI {k:Nat} (hk:2≤k) {z:dA} {v:AV} {ls:List (List UInt32)} (hx:SZ 1 RLs z v ls) (ht:aEr ls≤10000000000) (hp:0<aEr ls):Lp (E k) 315 [v] z [] fun v' _ H'=>H'=[Ed eW v' 117 ls.flatten]:=by
 have hxl:=hx.le
 refine aDK (bC9) (by omega) (aU O) fun B j hj=>?_
 refine R4 192 O (aS O hx (R0 2 O ?_))
 refine aT (aQ ?_)
 refine dX (fun n fs=>∃ (i:Nat),LI z [] [(0,v),(3,Az (aEr (ls.take i))),(9,v),(10,Az ls.length),(11,Az i)] fs∧n=ls.length - i∧(i≤ls.length)) ?_ _ ⟨0,LI.m [] O,rfl,Nat.zero_le _⟩ (kK (by omega))
 intro n fs ⟨i,hL0,hmz0,hi⟩
 refine hL0.open fun e zl0 _=>?_
 refine R5 8 O ?_
 refine xD O (fun hc12=>?_) (fun hc12=>?_)
 ·refine cP ?_
  refine aT (aQ ?_)
  refine xR ?_
  refine dE (zz:=zl0) O O hx.m i O _ (List.getElem?_eq_getElem (by omega)) fun b13 p13 cs13 at13 hR13=>?_
  obtain ⟨e13,rfl,hc13⟩:=hR13
  refine Zm O at13 (R2 16 O (aS O hc13 ?_))
  refine lB O O (gI (n:=aEr (ls.take (i+1))) (by rw [aLM (by omega)];omega) (by have:=aWv (ls:=ls) (i+1);omega)) ?_
  refine R3 16 O ?_
  refine xD O (fun hc20=>?_) (fun hc20=>?_)
  ·omega
  refine oC (eT (xG (lB O O (gI (n:=i+1) (by omega) (by omega)) (R0 2 O ?_))))
  exact mK (by omega) ⟨i+1,LI.m [] O,rfl,by omega⟩
 refine dH (nF (eT (R4 4 O ?_)))
 have hil:aEr (ls.take i)=aEr ls:=by rw [show i=ls.length by omega,List.take_length]
 refine uW zl0 [] (bLd bJZ (by omega) (n:=aEr (ls.take i)) (by omega) (by omega)) O O O fun v24 z24 H24 _ hH24=>?_
 subst hH24
 refine R2 25 O (aS O hx (R0 2 O ?_))
 refine aT (aQ ?_)
 refine dX (fun n fs=>∃ (i:Nat) (u:AV),LI z24 [Ed eW u 117 (ls.take i).flatten] [(6,u),(25,v),(26,Az ls.length),(27,Az i)] fs∧n=ls.length - i∧(i≤ls.length)) ?_ _ ⟨0,_,LI.m [] O,rfl,Nat.zero_le _⟩ (kK (by omega))
 intro n fs ⟨i,u,hL1,hmz1,hi2⟩
 refine hL1.open fun e zl1 _=>?_
 refine R5 8 O ?_
 refine xD O (fun hc28=>?_) (fun hc28=>?_)
 ·refine cP ?_
  refine aT (aQ ?_)
  refine xR ?_
  refine dE (zz:=zl1) O O hx.m i O _ (List.getElem?_eq_getElem (by omega)) fun b29 p29 cs29 at29 hR29=>?_
  obtain ⟨e29,rfl,hc29⟩:=hR29
  refine Zm O at29 (R0 2 O (xG (R1 5 O ?_)))
  refine aWG  O O hc29 (fun _=>iW) (by rw [aY5,← aLM (by omega)];have:=aWv (ls:=ls) (i+1);omega) (by rw [aY5,← aLM (by omega)];have:=aWv (ls:=ls) (i+1);omega) fun c33 hc33=>?_
  refine R0 2 O (eT (xG (lB O O (gI (n:=i+1) (by omega) (by omega)) (R0 2 O ?_))))
  exact mK (by omega) ⟨i+1,_,(by rw [bEp (by omega)];exact LI.m [] O),rfl,by omega⟩
 refine dH (nF (eT (R5 14 O (xT (aEJ (.inl O) (rt O rn) (List.Sublist.refl _) ?_)))))
 rw [show i=ls.length by omega,List.take_length]
 rfl
theorem aAC {k:Nat} (hk:4≤k) {z:dA} {v:AV} {a:List UInt32} {n:Nat} (hx:SZ 1 RW z v a) (hn:n≤31) (hla:a.length≤100000000):Lp (E k) 302 [v,Az n] z [] fun v' _ H'=>∃ u,v'=.tup [u,Ai 0]∧H'=[Ed eW u 117 (toL (val a * 2 ^ n))]:=by
 have hxl:=hx.le
 refine aDK (aVM) (by omega) (aU O) fun B j hj=>?_
 refine R4 48 O ?_
 refine lZ z (pM (by omega) hx) O O fun v7 z7 hz7 ht7=>?_
 have hs7:=ht7 _ (hx.mono (hz7))
 have hq7:=yN (l:=a)
 refine R0 3 O ?_
 refine aT (aQ ?_)
 refine R4 6 O (aS O hs7 (R0 4 O ?_))
 refine xD O (fun hc8=>?_) (fun hc8=>?_)
 ·refine R5 8 O (bKO 117 1 (xT (nS (aEJ (.inl O) (rt O (rt O rn)) (List.Sublist.refl _) ?_))))
  rw [show val a=0 from aCM (by omega),Nat.zero_mul,sY]
  exact ⟨_,rfl,rfl⟩
 refine R5 16 O ?_
 refine xD O (fun hc12=>?_) (fun hc12=>?_)
 ·omega
 refine R4 8 O ?_
 have hva:0<val a:=aE2 (by omega)
 refine R0 2 O ?_
 refine xD O (fun hc15=>?_) (fun hc15=>?_)
 ·refine iN (G1 2 O (gP O O F ?_))
  refine lB O O (bGp (b:=32) (n:=0) (by omega) (by omega) (by omega)) (lN ?_)
  refine wE (k:=.cells 117 []) (w:=fun b=>Aw b 0) rfl F rfl (fun _=>rfl) (fun st hst=>by simp only [eP,AS.ev,hst 19 (by simp [lS.sl,Od.sls,Od.sl])];rfl) (fun b20 hT20=>?_)
  refine G1 5 O (gP O O F ?_)
  refine lB O O (bGD (b:=32) (n:=n) (by omega) (by omega)) (lN ?_)
  refine bDK z7 (i:=⟨_,_,.call _ _⟩) (aXT (by omega) hs7 hn (by omega)) O O F O O O O ti fun v24 z24 _ hr24=>?_
  obtain ⟨c24,hc24,hcc24⟩:=hr24.one
  subst hc24
  refine wE (k:=.cells 31 [.sl b20 0 0 1,c24]) (w:=fun b=>Aw b 2) rfl F rfl (fun _=>rfl) (fun st hst=>?_) (fun b25 hT25=>?_)
  ·simp only [eP,zB,AS.ev,hst 20 (by simp [lS.sl,Od.sls,Od.sl]),hst 24 (by simp [lS.sl,Od.sls,Od.sl])];rfl
  refine aPp z24 (p:=[]) O O O (fun _ h=>h) fun zfg25 _ g25=>?_
  refine aPp zfg25 (p:=[]) O O O (fun _ h=>h) fun zfg20 _ g20=>?_
  have hrow:SZ 1 RLs zfg20 (Aw b25 2) [[],toL (val a * 2 ^ n)]:=bWf g20 hr24.m (zI _ _ g25)
  refine bEC zfg20 (i:=⟨_,_,.call _ _⟩) (aZI (by omega) hrow (by rw [bLK];have:=bA0 (m:=val a) hn;omega) (by rw [bLK];exact aPd (Nat.mul_pos (by omega) (Nat.pow_pos (by decide))))) O O F O O O O fun v26 z26 H26 _ hH26=>?_
  subst hH26
  refine G0 5 O (xT (nS (aEJ (.inl O) (rt O (rt O rn)) (List.Sublist.refl _) ?_)))
  refine ⟨_,O,?_⟩
  rw [show ([[],toL (val a * 2 ^ n)]:List (List UInt32)).flatten=toL (val a * 2 ^ n) by simp]
  rfl
 omega
theorem aTk {k:Nat} (hk:4≤k) {z:dA} {v:AV} {a:List UInt32} {n:Nat} (hx:SZ 1 RW z v a) (hn:n≤31) (hn0:0<n) (hla:a.length≤100000000):FC (E k) 302 [v,Ai (-(n:Nat):Int)] z fun v' z'=>∃ u,v'=.tup [u,Ai 0]∧SZ 1 RW (zd z z') u (toL (val a / 2 ^ n)):=by
 have hxl:=hx.le
 refine eA (aVM) (by omega) (aU O) fun B j hj=>?_
 refine R4 48 O ?_
 refine lZ z (pM (by omega) hx) O O fun v7 z7 hz7 ht7=>?_
 have hs7:=ht7 _ (hx.mono (hz7))
 have hq7:=yN (l:=a)
 refine R0 3 O ?_
 refine aT (aQ ?_)
 refine R4 6 O (aS O hs7 (R0 4 O ?_))
 refine xD O (fun hc8=>?_) (fun hc8=>?_)
 ·refine R5 8 O (xT (nS (rQ (.inl O) (rt O (rt O rn)) ?_)))
  refine ⟨_,O,?_⟩
  rw [show val a=0 from aCM (by omega),Nat.zero_div,sY]
  exact .nil
 refine R5 16 O ?_
 refine xD O (fun hc12=>?_) (fun hc12=>?_)
 ·omega
 refine R5 16 O ?_
 refine xD O (fun hc15=>?_) (fun hc15=>?_)
 ·omega
 refine R4 12 O (aS O hs7 (lB O O (aZl (r := -32 * (((toL (val a)).length:Nat):Int)) (vF (by omega))) (R0 4 O ?_)))
 refine xD O (fun hc27=>?_) (fun hc27=>?_)
 ·omega
 refine oC (eT (R4 4 O ?_))
 refine aRS O (aYZ (r:=((n:Nat):Int)) (by rw [vF ⟨by omega,by omega⟩];omega)) ?_
 refine R2 20 O (lB O O (bGp (b:=32) (n:=0) (by omega) (by omega) (by omega)) ?_)
 refine aOt (i:=0) (j:=(toL (val a)).length) O hs7 ⟨_,O⟩ O (by omega) (by omega) ?_
 refine lC O (lB O O (bGD (b:=32) (n:=n) (by omega) (by omega)) ?_)
 have hsub:=(hs7).sub (i:=0) (j:=(toL (val a)).length) (by omega) (by omega)
 rw [List.take_length,List.drop_zero] at hsub
 refine lZ z7 (aWI (by omega) hsub (by omega) (by omega)) O O fun v41 z41 hz41 hr41=>?_
 refine lZ z41 (pM (by omega) hr41) O O fun v42 z42 hz42 ht42=>?_
 have hs42:=ht42 _ (hr41.mono (hz42))
 refine lZ z42 (V7 (by omega) hs42 (by have:=yN (l:=toL (val a / 2 ^ n));have:=zH (Nat.div_le_self (val a) (2 ^ n));omega)) O O fun v43 z43 _ hk43=>?_
 have hk43:=hk43.mono (qY (hz7.trans (hz41.trans hz42)))
 refine R0 5 O (xT (rQ (.inl O) (rt O (rt O rn)) ?_))
 refine ⟨_,O,?_⟩
 rw [gX] at hk43
 exact hk43
open Go.CE Go.RowKit Go.Num
open Go.Eng (kN)
theorem bCt {k:Nat} (hk:3≤k) {z:dA} {u v:AV} {a b:List UInt32} (hx:SZ 1 RW z u a) (hy:SZ 1 RW z v b) (hla:a.length≤1000000000) (hlb:b.length≤1000000000):FC (E k) 171 [u,v] z fun v z'=>SZ 1 RW (zd z z') v (toL (val a * val b)):=by
 refine eA (bCq) (by omega) (aU O) fun B j hj=>?_
 refine R4 24 O (aS O hx (lM O (aS O hy (lB O O (gI (n:=a.length+b.length) (by omega) (by omega)) ?_))))
 refine aSU (n:=a.length+b.length) O O (O) (by omega) (by omega) fun b17=>?_
 refine R2 24 O (aS O hx (R0 2 O ?_))
 refine aT (aQ ?_)
 refine dX (fun n fs=>∃ (i:Nat) (o:List UInt32),LI z [Fq eW b17 117 o] [(0,u),(1,v),(5,Aw b17 (a.length+b.length)),(18,u),(19,Az a.length),(20,Az i)] fs∧n=a.length - i∧(i≤a.length)∧(o.length=a.length+b.length)∧(val (o.take (i+b.length))=val (a.take i) * val b)) ?_ _ ⟨0,_,LI.m [] O,rfl,Nat.zero_le _,by simp,by simp [val,bLn]⟩ (kK (by omega))
 intro n fs ⟨i,o,hL0,hmz0,hi,hol,hv⟩
 refine hL0.open fun e zl0 hzl0=>?_
 refine R5 8 O ?_
 refine xD O (fun hc21=>?_) (fun hc21=>?_)
 ·refine cP ?_
  refine aT (aQ ?_)
  refine R4 4 O ?_
  refine sJ (zz:=zl0) O O hx.m (i) (O) (by omega) fun p23 hp23=>?_
  refine uO O hp23 (R2 192 O (aS O hy (R0 2 O ?_)))
  refine aT (aQ ?_)
  refine dX (fun n fs=>∃ (k:Nat) (o2:List UInt32) (cy:Nat),LI zl0 [Fq eW b17 117 o2] [(0,u),(1,v),(5,Aw b17 (a.length+b.length)),(6,Az i),(7,Ad ((nJ a i:Nat):Int)),(8,.c (.v (.int .u64 ((cy:Nat):Int)))),(18,u),(19,Az a.length),(20,Az i),(25,v),(26,Az b.length),(27,Az k)] fs∧n=b.length - k∧(k≤b.length)∧(o2.length=a.length+b.length)∧(cy<4294967296)∧(o2.drop (i+k)=o.drop (i+k))∧(val (o2.take (i+k))+Num.W ^ (i+k) * cy=val (o.take (i+k))+Num.W ^ i * (nJ a i * val (b.take k)))) ?_ _ ⟨0,_,0,LI.m [] O,rfl,Nat.zero_le _,hol,by omega,rfl,by simp [val]⟩ (kK (by omega))
  intro n fs ⟨k,o2,cy,hL1,hmz1,hk2,hol2,hcy,hdr,hv2⟩
  refine hL1.open fun e zl1 _=>?_
  refine R5 8 O ?_
  refine xD O (fun hc28=>?_) (fun hc28=>?_)
  ·refine cP ?_
   refine aT (aQ ?_)
   refine R4 4 O ?_
   refine sJ (zz:=zl1) O O hy.m (k) (O) (by omega) fun p30 hp30=>?_
   refine uO O hp30 (R2 8 O ?_)
   have hdb:nJ b k<4294967296:=qO b k
   obtain ⟨hf1,hf2⟩:=bJw (qO a i) hdb (qO o2 (i+k)) hcy
   refine lC O ?_
   refine mX O (wQ (O) (by have:nJ a i<4294967296:=qO a i;omega)) ?_
   refine lC O (mX O (wQ (O) (by omega)) (lB O O (aXl (n:=nJ a i * nJ b k) ((Int.natCast_mul _ _).symm) (by omega)) (R1 8 O (lB O O (gI (n:=i+k) (by omega) (by omega)) (oO O O (i+k) (O) (by omega) (aGM (i+k) O mem0 (by omega) (by omega) ?_))))))
   refine mX O (wQ (O) (by have:nJ o2 (i+k)<4294967296:=qO o2 (i+k);omega)) ?_
   refine lB O O (aFP (n:=nJ a i * nJ b k+nJ o2 (i+k)) (by omega) (by omega)) (lC O (lB O O (aFP (n:=nJ a i * nJ b k+nJ o2 (i+k)+cy) (by omega) (by omega)) (R0 2 O (xG (R1 8 O (lB O O (gI (n:=i+k) (by omega) (by omega)) (lC O (mX O (wDm _) (lC O (lB O O (aHm (n:=(nJ a i * nJ b k+nJ o2 (i+k)+cy) / 4294967296) (by decide) (O)) (oO O O (i+k) (O) (by omega) (Ek (i+k) ((nJ a i * nJ b k+nJ o2 (i+k)+cy) % 4294967296) O O iW (O) (by omega) (by omega) (by omega) (R0 2 O (eT (xG ?_)))))))))))))))
   refine lB O O (gI (n:=k+1) (by omega) (by omega)) (R0 2 O ?_)
   exact mK (by omega) ⟨k+1,_,_,LI.m [] O,rfl,by omega,by rw [List.length_set];exact hol2,by omega,Vt hdr,bL5 (by omega) hdr hv2 rfl⟩
  refine dH (nF (eT (xG (R1 12 O (aS O hy (lB O O (gI (n:=i+b.length) (by omega) (by omega)) (lC O (mX O (wD (O) (by omega)) (oO O O (i+b.length) (O) (by omega) (Ek (i+b.length) (cy) O O iW (O) (by omega) (by omega) (by omega) (lN (eT (xG (lB O O (gI (n:=i+1) (by omega) (by omega)) (R0 2 O ?_)))))))))))))))
  exact mK (by omega) ⟨i+1,_,LI.m [] O,rfl,by omega,by rw [List.length_set];exact hol2,bRs rfl (by omega) (by omega) hcy hv (by rw [show k=b.length by omega] at hv2;exact hv2)⟩
 refine dH (nF (eT (R4 4 O ?_)))
 refine A7 (n:=a.length+b.length) z zl0 (p:=[]) O O zI (hol) (by omega) fun zf66 hzf66 hf66=>?_
 refine lZ zf66 (C9 (by omega) (hf66.mono jF) (by omega)) O O fun v67 z67 _ hr67=>?_
 have hr67:=hr67.mono (qY (hzl0.trans hzf66))
 refine R0 3 O (xT (rI O ?_))
 rw [show i=a.length by omega,oP (by omega),oP (Nat.le_refl _)] at hv
 rw [hv] at hr67
 exact hr67
theorem aYc {k:Nat} (hk:1≤k) {z:dA} {hi mid low first second:Nat} (hhi:hi≤first) (hmid:mid<4294967296) (hlow:low<4294967296) (hf:2147483648≤first) (hfW:first<4294967296) (hse:second<4294967296):FC (E k) 303 [Ad ((hi:Nat):Int),Ad ((mid:Nat):Int),Ad ((low:Nat):Int),Ad ((first:Nat):Int),Ad ((second:Nat):Int)] z fun v _=>v=.c (.v (.int .u64 ((min 4294967295 (((4294967296 * hi+mid) * 4294967296+low) / (first * 4294967296+second)):Nat):Int))):=by
 refine eA (bEA) (by omega) (aU O) fun B j hj=>?_
 refine R4 16 O (mX O (wQ (O) (by omega)) (lB O O (aS1 (n:=4294967296 * hi) (by omega) (by omega)) (lC O (mX O (wQ (O) (by omega)) (lB O O (bHk (n:=(4294967296 * hi+mid)) (by omega) (by omega) (aTb hmid)) (R0 2 O (iN (G1 4 O (gP O O F ?_)))))))))
 refine mX O (wQ (O) (by omega)) (lN ?_)
 refine gP O O F ?_
 refine lB O O (bHL (n:=(4294967296 * hi+mid) / first) (by omega) (O) (by omega)) (lN ?_)
 refine G1 4 O (gP O O F ?_)
 refine mX O (wQ (O) (by omega)) (lN ?_)
 refine gP O O F ?_
 refine lB O O (bFK (n:=(4294967296 * hi+mid) % first) (by omega) (O)) (lN ?_)
 refine G0 4 O (cP ?_)
 refine aT (aQ ?_)
 refine dX (fun n fs=>∃ (q:Nat) (r:Nat),LI z [] [(2,Ad ((low:Nat):Int)),(3,Ad ((first:Nat):Int)),(4,Ad ((second:Nat):Int)),(12,.c (.v (.int .u64 ((q:Nat):Int)))),(13,.c (.v (.int .u64 ((r:Nat):Int))))] fs∧n=q∧(r<4294967296)∧(q<18446744073709551616)∧(Gs (4294967296 * hi+mid) first second low q r)) ?_ _ ⟨_,_,LI.m [] O,rfl,by have:=Nat.mod_lt (4294967296 * hi+mid) (show 0<first by omega);omega,by have:=Nat.div_le_self (4294967296 * hi+mid) first;omega,bLc (by omega) hlow⟩ (by have:=Nat.div_le_self (4294967296 * hi+mid) first;show _<18446744073709551616;omega)
 intro n fs ⟨q,r,hL0,hmz0,hr,hq,hg⟩
 refine hL0.open fun e zl0 _=>?_
 refine R4 32 O ?_
 refine fR 30 O (fun hg30=>?_) (fun hg30=>?_)
 ·refine R3 16384 O (aQ (R4 4 O ?_))
  have hq0:0<q:=by omega
  have hg2:=bAv hg hq0 (.inl (by omega))
  refine lB O O (aZm (n:=q - 1) (by omega) (by omega)) (R2 16 O (mX O (wQ (O) (by omega)) (lB O O (aFP (n:=r+first) (by omega) (by omega)) (R3 16 O ?_))))
  refine xD O (fun hc49=>?_) (fun hc49=>?_)
  ·refine bAq (nF (eT (R5 8 O (xT (rI O ?_)))))
   rw [← aWa hg2 (by omega) hfW hse (by omega) (.inr (by omega))]
   rfl
  refine oC ?_
  exact mK (by omega) ⟨q - 1,r+first,LI.m [] O,rfl,by omega,by omega,hg2⟩
 refine lD O ?_
 have hqs:q * second≤4294967295 * 4294967295:=Nat.mul_le_mul (by omega) (by omega)
 refine R1 4 O (lD O (mX O (wQ (O) (by omega)) (lD O (lB O O (aXl (n:=q * second) ((Int.natCast_mul _ _).symm) (by omega)) (lD O (lC O (lD O (lB O O (aS1 (n:=4294967296 * r) (by omega) (by omega)) (lD O (lC O (lD O (mX O (wQ (O) (by omega)) (lD O (lB O O (bHk (n:=4294967296 * r+low) (by omega) (by omega) (aTb hlow)) (R3 8 O ?_)))))))))))))))
 refine xD O (fun hc41=>?_) (fun hc41=>?_)
 ·refine cP (aQ (R4 4 O ?_))
  have hq0:0<q:=Nat.pos_of_ne_zero fun h=>by rw [h,Nat.zero_mul] at hc41;omega
  have hg2:=bAv hg hq0 (.inr (by omega))
  refine lB O O (aZm (n:=q - 1) (by omega) (by omega)) (R2 16 O (mX O (wQ (O) (by omega)) (lB O O (aFP (n:=r+first) (by omega) (by omega)) (R3 16 O ?_))))
  refine xD O (fun hc49=>?_) (fun hc49=>?_)
  ·refine bAq (nF (eT (R5 8 O (xT (rI O ?_)))))
   rw [← aWa hg2 (by omega) hfW hse (by omega) (.inr (by omega))]
   rfl
  refine oC ?_
  exact mK (by omega) ⟨q - 1,r+first,LI.m [] O,rfl,by omega,by omega,hg2⟩
 refine dH (nF (eT (R5 8 O (xT (rI O ?_)))))
 rw [← aWa hg (by omega) hfW hse (by omega) (.inl ⟨by omega,by omega⟩)]
 rfl
theorem aZS {k:Nat} (hk:2≤k) {z:dA} {v:AV} {b L:List UInt32} {b0 off N q:Nat} (hy:SZ 1 RW z v b) (hoN:off+N≤L.length) (hbN:b.length<N) (hL:L.length≤10000000000) (hq:q<4294967296) (hB:0<val b) (hq1:val ((L.drop off).take N) / val b≤q) (hq2:q≤val ((L.drop off).take N) / val b+1):Lp (E k) 304 [.c (.sl b0 off N 1),v,.c (.v (.int .u64 ((q:Nat):Int)))] z [Fq eW b0 117 L] fun v' _ H'=>∃ M,v'=Ad ((val ((L.drop off).take N) / val b:Nat):Int)∧H'=[Fq eW b0 117 M]∧M.length=L.length∧M.take off=L.take off∧M.drop (off+N)=L.drop (off+N)∧val ((M.drop off).take N)=val ((L.drop off).take N) - val ((L.drop off).take N) / val b * val b:=by
 refine aDK (bD5) (by omega) (aU O) fun B j hj=>?_
 refine R4 256 O (aCT O O (R0 2 O ?_))
 refine aT (aQ ?_)
 refine dX (fun n fs=>∃ (i:Nat) (M:List UInt32) (cy:Nat) (bw:Nat),LI z [Fq eW b0 117 M] [(0,.c (.sl b0 off N 1)),(1,v),(2,.c (.v (.int .u64 ((q:Nat):Int)))),(7,.c (.v (.int .u64 ((cy:Nat):Int)))),(8,.c (.v (.int .u64 ((bw:Nat):Int)))),(17,Az N),(18,Az i)] fs∧n=N - i∧(i≤N)∧(M.length=L.length)∧(cy<4294967296)∧(bw≤1)∧(M.take off=L.take off)∧(M.drop (off+i)=L.drop (off+i))∧(b.length<i→cy=0)∧(val ((M.drop off).take i)+q * val (b.take i)=val ((L.drop off).take i)+Num.W ^ i * (cy+bw))) ?_ _ ⟨0,_,0,0,LI.m [] O,rfl,Nat.zero_le _,rfl,by omega,by omega,rfl,rfl,fun h=>rfl,by simp [val]⟩ (kK (by omega))
 intro n fs ⟨i,M,cy,bw,hL0,hmz0,hi,hML,hcy,hbw,htk,hdr,hc0,hv⟩
 refine hL0.open fun e zl0 _=>?_
 refine R5 8 O ?_
 refine xD O (fun hc19=>?_) (fun hc19=>?_)
 ·refine cP ?_
  refine aT (aQ ?_)
  refine R4 768 O (aS O hy (R0 2 O ?_))
  refine Ik (fun fs=>LI zl0 [Fq eW b0 117 M] [(0,.c (.sl b0 off N 1)),(1,v),(2,.c (.v (.int .u64 ((q:Nat):Int)))),(7,.c (.v (.int .u64 ((cy:Nat):Int)))),(8,.c (.v (.int .u64 ((bw:Nat):Int)))),(9,Az i),(10,.c (.v (.int .u64 ((nJ b i:Nat):Int)))),(17,Az N),(18,Az i)] fs) ?_ fun fs hJ=>?_
  ·refine xD O (fun hc24=>?_) (fun hc24=>?_)
   ·refine xG (R1 5 O ?_)
    refine sJ (zz:=zl0) O O hy.m (i) (O) (by omega) fun p27 hp27=>?_
    refine uO O hp27 ?_
    refine mX O (wQ (O) (by have:nJ b i<4294967296:=qO b i;omega)) ?_
    refine R0 2 O ?_
    exact eT (LI.m [] O)
   refine oC ?_
   rw [show nJ b i=0 from aET (by omega)]
   exact eT (LI.m [] O)
  have hJ24:=hJ
  refine hJ24.open fun e zj24 _=>?_
  refine xR ?_
  have hqb:q * nJ b i≤4294967295 * 4294967295:=Nat.mul_le_mul (by omega) (by have:nJ b i<4294967296:=qO b i;omega)
  refine R1 4 O (lB O O (aXl (n:=q * nJ b i) ((Int.natCast_mul _ _).symm) (by omega)) (lC O (lB O O (aFP (n:=(q * nJ b i+cy)) (by omega) (by omega)) (R2 8 O (lB O O (aHm (n:=(q * nJ b i+cy) / 4294967296) (by decide) (O)) (R2 16 O (oO O O (i) (O) (by omega) (aGM (off+i) O mem0 (by omega) (by omega) ?_))))))))
  refine mX O (wQ (O) (by have:nJ M (off+i)<4294967296:=qO M (off+i);omega)) ?_
  refine lC O (mX O (wDm _) (mX O (wQ (O) (by omega)) ?_))
  refine lB O O (wF (r:=((nJ M (off+i)+18446744073709551616 - (q * nJ b i+cy) % 4294967296) % 18446744073709551616:Nat)) (by rw [bAs];have:nJ M (off+i)<4294967296:=qO M (off+i);omega)) ?_
  refine lC O ?_
  refine lB O O (wF (r:=(((nJ M (off+i)+36893488147419103232 - (q * nJ b i+cy) % 4294967296 - bw) % 18446744073709551616):Nat)) (by rw [bAs];have:nJ M (off+i)<4294967296:=qO M (off+i);omega)) ?_
  refine R0 2 O (xG (R1 8 O (mX O (wDm _) (lC O (lB O O (aHm (n:=((nJ M (off+i)+36893488147419103232 - (q * nJ b i+cy) % 4294967296 - bw) % 18446744073709551616) / 9223372036854775808) (by decide) (O)) (oO O O (i) (O) (by omega) (Ek (off+i) (((nJ M (off+i)+36893488147419103232 - (q * nJ b i+cy) % 4294967296 - bw) % 18446744073709551616) % 4294967296) O O iW (O) (by omega) (by omega) (by omega) (R0 2 O (eT (xG (lB O O (gI (n:=i+1) (by omega) (by omega)) (R0 2 O ?_))))))))))))
  exact mK (by omega) ⟨i+1,_,_,_,LI.m [] O,rfl,by omega,by rw [List.length_set];exact hML,by omega,(bSg (qO M (off+i)) (Nat.mod_lt _ (by decide)) hbw rfl).2,by rw [aGK];exact htk,Vt hdr,fun h=>by rw [aET (show b.length≤i by omega),Nat.mul_zero,Nat.zero_add];omega,bDs (by omega) hdr hML hv rfl hbw rfl⟩
 refine dH (nF (eT (R5 32 O ?_)))
 have hiN:i=N:=by omega
 have hcy0:cy=0:=hc0 (by omega)
 rw [hiN,hcy0,Nat.zero_add,oP (l:=b) (Nat.le_of_lt hbN)] at hv
 rw [hiN] at hdr
 have hX:=Jm (M.drop off) N
 have hA:=Jm (L.drop off) N
 have hBN:val b≤Num.W ^ N:=Nat.le_of_lt (Nat.lt_of_lt_of_le (aE1 b) (Nat.pow_le_pow_right (by decide) (Nat.le_of_lt hbN)))
 obtain ⟨ho1,ho2⟩:=bKA hB rfl hX hv hA hq1 hq2 hBN
 refine xD O (fun hc57=>?_) (fun hc57=>?_)
 ·refine R4 8 O (mX O (wD (O) (by omega)) (R0 2 O (jX (aEJ (.inl O) (rt O rn) (List.Sublist.refl _) ?_))))
  obtain ⟨hq3,hX3⟩:=ho1 (by omega)
  refine ⟨M,by rw [← hq3];rfl,O,hML,htk,hdr,hX3⟩
 refine R4 64 O (aCT O O (R0 2 O ?_))
 refine aT (aQ ?_)
 refine dX (fun n fs=>∃ (i2:Nat) (M2:List UInt32) (c:Nat),LI zl0 [Fq eW b0 117 M2] [(0,.c (.sl b0 off N 1)),(1,v),(2,.c (.v (.int .u64 ((q:Nat):Int)))),(13,Ad ((c:Nat):Int)),(61,Az N),(62,Az i2)] fs∧n=N - i2∧(i2≤N)∧(M2.length=M.length)∧(c≤1)∧(M2.take off=M.take off)∧(M2.drop (off+i2)=M.drop (off+i2))∧(val ((M2.drop off).take i2)+Num.W ^ i2 * c=val ((M.drop off).take i2)+val (b.take i2))) ?_ _ ⟨0,_,0,LI.m [] O,rfl,Nat.zero_le _,rfl,by omega,rfl,rfl,by simp [val]⟩ (kK (by omega))
 intro n fs ⟨i2,M2,c,hL1,hmz1,hi2,hML2,hc2,htk2,hdr2,hv2⟩
 refine hL1.open fun e zl1 _=>?_
 refine R5 8 O ?_
 refine xD O (fun hc63=>?_) (fun hc63=>?_)
 ·refine cP ?_
  refine aT (aQ ?_)
  refine R4 768 O (aS O hy (R0 2 O ?_))
  refine Ik (fun fs=>LI zl1 [Fq eW b0 117 M2] [(0,.c (.sl b0 off N 1)),(1,v),(2,.c (.v (.int .u64 ((q:Nat):Int)))),(13,Ad ((c:Nat):Int)),(14,Az i2),(15,Ad ((nJ b i2:Nat):Int)),(61,Az N),(62,Az i2)] fs) ?_ fun fs hJ=>?_
  ·refine xD O (fun hc68=>?_) (fun hc68=>?_)
   ·refine xG (R1 5 O ?_)
    refine sJ (zz:=zl1) O O hy.m (i2) (O) (by omega) fun p71 hp71=>?_
    refine uO O hp71 (R0 2 O ?_)
    exact eT (LI.m [] O)
   refine oC ?_
   rw [show nJ b i2=0 from aET (by omega)]
   exact eT (LI.m [] O)
  have hJ68:=hJ
  refine hJ68.open fun e zj68 _=>?_
  refine xG (R1 16 O (oO O O (i2) (O) (by omega) (aGM (off+i2) O mem0 (by omega) (by omega) (R1 4 O ?_))))
  refine lZ zj68 (aAb (by omega) (qO M2 (off+i2)) (qO b i2) hc2) O O fun v82 z82 _ ⟨lo,co,hv82,hk1,hk2,hk3⟩=>?_
  subst hv82
  refine R1 9 O (oO O O (i2) (O) (by omega) (Ek (off+i2) (lo) O O iW (O) (by omega) (by omega) (by omega) (R0 3 O (eT (xG (lB O O (gI (n:=i2+1) (by omega) (by omega)) (R0 2 O ?_)))))))
  exact mK (by omega) ⟨i2+1,_,co,LI.m [] O,rfl,by omega,by rw [List.length_set];exact hML2,hk3,by rw [aGK];exact htk2,Vt hdr2,bCK (by omega) hdr2 hML2 hk2 hv2 hk1⟩
 refine dH (nF (eT (xR ?_)))
 have hiN2:i2=N:=by omega
 obtain ⟨hq3,hX2⟩:=ho2 (by omega)
 have hq0:0<q:=by rw [hq3];exact Nat.succ_pos _
 rw [hiN2,oP (l:=b) (Nat.le_of_lt hbN)] at hv2
 rw [hiN2] at hdr2
 have hres:=bBI hX2 (Nat.lt_of_le_of_lt (Nat.sub_le _ _) hA) (Jm (M2.drop off) N) hc2 hv2
 refine lC O (lB O O (aZm (n:=q - 1) (by omega) (by omega)) (mX O (wD (O) (by omega)) (R0 2 O (xT (aEJ (.inl O) (rt O rn) (List.Sublist.refl _) ?_)))))
 refine ⟨M2,by rw [show q - 1=_ from by rw [hq3,Nat.add_sub_cancel]];rfl,O,hML2.trans hML,htk2.trans htk,hdr2.trans hdr,hres⟩
open Go.CE Go.RowKit Go.Num
open Go.Eng (kN)
theorem bFt {k:Nat} (hk:4≤k) {z:dA} {v:AV} {a:List UInt32} {n:Nat} (hx:SZ 1 RW z v a) (hn:n≤31) (hla:a.length≤100000000):FC (E k) 302 [v,Ai (-(n:Nat):Int)] z fun v' z'=>∃ u,v'=.tup [u,Ai 0]∧SZ 1 RW (zd z z') u (toL (val a / 2 ^ n)):=by
 rcases Nat.eq_zero_or_pos n with h | h
 ·subst h
  have hq:=yN (l:=a)
  have h1:=(aAC hk hx (Nat.zero_le 31) hla).told (P:=fun v' u=>v'=.tup [u,Ai 0]) (by rw [Nat.pow_zero,Nat.mul_one];omega)
  rw [Nat.pow_zero,Nat.mul_one] at h1
  rw [Nat.pow_zero,Nat.div_one]
  exact h1
 exact aTk hk hx hn h hla
theorem aHc {k:Nat} (hk:5≤k) {z:dA} {u v:AV} {a b:List UInt32} (hx:SZ 1 RW z u a) (hy:SZ 1 RW z v b) (hla:a.length≤50000000) (hlb:b.length≤50000000):FC (E k) 278 [u,v] z fun v z'=>(val b=0→v=.tup [rC,rC,Ai 20])∧(0<val b→∃ q r,v=.tup [q,r,Ai 0]∧SZ 1 RW (zd z z') q (toL (val a / val b))∧SZ 1 RW (zd z z') r (toL (val a % val b))):=by
 have hqa:=yN (l:=a)
 have hqb:=yN (l:=b)
 refine eA (bEM) (by omega) (aU O) fun B j hj=>?_
 refine R4 96 O ?_
 refine lZ z (C9 (by omega) hx (by omega)) O O fun v15 z15 hz15 ha15=>?_
 refine lM O ?_
 refine lZ z15 (C9 (by omega) hy.m (by omega)) O O fun v17 z17 hz17 hb17=>?_
 have hb17:=hb17.mono (qY (hz15))
 refine R2 27 O (aS O (hb17.mono jF) (R0 2 O ?_))
 refine aT (aQ ?_)
 refine R5 16 O ?_
 refine xD O (fun hc20=>?_) (fun hc20=>?_)
 ·refine R5 16 O (xT (nS (rQ (.inl O) (rt O (rt O (rt O rn))) ?_)))
  have hb0:=aCM (l:=b) (by omega)
  exact ⟨fun _=>rfl,fun h=>absurd h (by omega)⟩
 refine R4 14 O ?_
 refine lZ z17 (aEX (by omega) ha15.m (hb17.mono jF)) O O fun v26 z26 hz26 hv26=>?_
 rw [gX,gX] at hv26
 subst hv26
 refine R0 4 O ?_
 refine xD O (fun hc23=>?_) (fun hc23=>?_)
 ·refine R5 42 O (xT (nS (rQ (.inl O) (rt O (rt O (rt O rn))) ?_)))
  rw [Pv] at hc23
  refine ⟨fun h=>absurd h (by omega),fun hb=>⟨_,_,rfl,?_,?_⟩⟩
  ·rw [Nat.div_eq_of_lt hc23,sY];exact .nil
  rw [Nat.mod_eq_of_lt hc23];exact (ha15.mono (jO zI))
 refine R5 16 O ?_
 refine xD O (fun hc29=>?_) (fun hc29=>?_)
 ·refine R4 14 O ?_
  refine sJ (zz:=z26) O O hb17.m (0) (O) (by omega) fun p35 hp35=>?_
  refine uO O hp35 ?_
  refine lZ z26 (aA9 (by omega) ha15.m (qO _ 0) (by omega)) O O fun v37 z37 hz37 ⟨_,hv37⟩=>?_
  obtain ⟨h1a,h1b,h1c⟩:=bGX (b:=val b) (by omega)
  obtain ⟨w37,rfl,hr37⟩:=hv37 (by omega)
  rw [gX,h1a] at hr37
  have hr37:=hr37.mono (qY (hz15.trans (hz17.trans hz26)))
  refine R2 1905 O ?_
  rw [gX,h1a]
  refine bAr O (Nat.lt_trans (Nat.mod_lt _ h1c) h1b) O fun b43=>?_
  refine A7 (n:=1) z z37 (p:=[]) O O zI (O) (by omega) fun zf43 hzf43 hf43=>?_
  refine lZ zf43 (C9 (by omega) (hf43.mono jF) (by simp)) O O fun v44 z44 _ hr44=>?_
  rw [bBe (Nat.lt_trans (Nat.mod_lt _ h1c) h1b)] at hr44
  have hr44:=hr44.mono (qY (hz15.trans (hz17.trans (hz26.trans (hz37.trans hzf43)))))
  refine R0 11 O (xT (nS (rQ (.inl O) (rt O (rt O (rt O rn))) ?_)))
  refine ⟨fun h=>absurd h (by omega),fun hb=>⟨_,_,rfl,(hr37.mono (jO zI)),hr44⟩⟩
 refine oC (eT (R4 10 O (lB O O (vO (n:=(toL (val b)).length - 1) (by omega) (by omega)) ?_)))
 refine sJ (zz:=z26) O O hb17.m ((toL (val b)).length - 1) (O) (by omega) fun p48 hp48=>?_
 refine uO O hp48 ?_
 refine lZ z26 (aBx (by omega) (qO _ _)) O O fun v50 z50 hz50 ⟨up,hv50,hu1,hu2,hu3⟩=>?_
 subst hv50
 obtain ⟨hu4,hu5⟩:=hu3 (bAY rfl (by omega))
 obtain ⟨hB1,hB2⟩:=bG1 rfl (by omega) hu2
 have hsa:=bA0 (m:=val a) hu5
 refine R2 29 O ?_
 refine uW z50 [] (aAC (by omega) hb17.m hu5 (by omega)) O O O fun v54 z54 H54 hz54 ⟨ub,hv54,hH54⟩=>?_
 rw [gX] at hH54
 subst hv54
 subst hH54
 refine Dx z z54 (p:=[]) O O zI (by omega) fun zfb hzfb hfb=>?_
 refine R2 233 O ?_
 refine uW zfb [] (aAC (by omega) ha15.m hu5 (by omega)) O O O fun v60 z60 H60 hz60 ⟨ua,hv60,hH60⟩=>?_
 rw [gX] at hH60
 subst hv60
 subst hH60
 refine R2 105 O ?_
 refine aAU (e:=eW) (a:=(0:UInt32)) O (O) O (fun _=>rfl) (fun _=>iW) (by omega) (by omega) fun b64 c65 hc65=>?_
 refine bOS (List.sublist_cons_self _ _) ?_
 rw [Pv] at hc23
 have hLN:(toL (val a * 2 ^ up)++[(0:UInt32)]).length=(toL (val a * 2 ^ up)).length+1:=by simp
 have hla2:(toL (val b)).length≤(toL (val a * 2 ^ up)).length:=zH (Nat.le_trans (by omega) (Nat.le_mul_of_pos_right (val a) (Nat.pow_pos (by decide))))
 refine R2 8 O (aW2 O mem0 (lC O (lB O O (vO (n:=((toL (val a * 2 ^ up)++[(0:UInt32)]).length - (toL (val b)).length)) (by omega) (by omega)) ?_)))
 refine aSU (n:=((toL (val a * 2 ^ up)++[(0:UInt32)]).length - (toL (val b)).length)) O O (O) (by omega) (by omega) fun b70=>?_
 refine aD8 (List.Perm.swap _ _ _) (R2 8 O ?_)
 refine aWr (p:=[]) O (by omega) fun bba hba=>?_
 cases hba
 refine lC O (aCT O O (lB O O (wF (r:=((((toL (val a * 2 ^ up)++[(0:UInt32)]).length - (toL (val b)).length):Nat):Int) - 1) (vF (by omega))) (R0 2 O ?_)))
 refine aT (aQ ?_)
 refine dX (fun n fs=>∃ (i:Nat) (L:List UInt32) (qo:List UInt32),LI z60 [Fq eW bba 117 L,Fq eW b70 117 qo] [(0,.c (.sl bba 0 (toL (val a * 2 ^ up)++[(0:UInt32)]).length 1)),(1,ub),(4,.c (.sl b70 0 ((toL (val a * 2 ^ up)++[(0:UInt32)]).length - (toL (val b)).length) 1)),(7,Az ((toL (val b)).length)),(11,Az up),(12,Ai ((i:Int) - 1))] fs∧n=i∧(i≤((toL (val a * 2 ^ up)++[(0:UInt32)]).length - (toL (val b)).length))∧(L.length=(toL (val a * 2 ^ up)++[(0:UInt32)]).length)∧(qo.length=((toL (val a * 2 ^ up)++[(0:UInt32)]).length - (toL (val b)).length))∧(Dv (val a * 2 ^ up) (val b * 2 ^ up) L qo i)) ?_ _ ⟨((toL (val a * 2 ^ up)++[(0:UInt32)]).length - (toL (val b)).length),_,_,LI.m [] O,rfl,Nat.le_refl _,rfl,by simp,bIX hB1 (by omega) (by omega) (by omega) _ (by simp)⟩ (kK (by omega))
 intro n fs ⟨i,L,qo,hL0,hmz0,hi,hLl,hql,hD⟩
 refine hL0.open fun e zl0 hzl0=>?_
 refine R5 32 O ?_
 refine xD O (fun hc75=>?_) (fun hc75=>?_)
 ·refine cP ?_
  refine aT (aQ ?_)
  refine iN ?_
  have hDj:Dv (val a * 2 ^ up) (val b * 2 ^ up) L qo (i - 1+1):=by rw [show i - 1+1=i by omega];exact hD
  have hBp:0<val b * 2 ^ up:=Nat.mul_pos (aE2 (by omega)) (Nat.pow_pos (by decide))
  have hg1:=bPw hDj hB1 (by omega) (by omega)
  obtain ⟨g,hgE,hg4,hg2,hg3⟩:=bHr (M:=4294967296) (M1:=4294967295) rfl rfl hDj hB1 (by omega) (by omega) (by omega)
  refine G1 8 O (gP O O F ?_)
  refine lB O O (gI (n:=i - 1+(toL (val b)).length) (by omega) (by omega)) (lN ?_)
  refine gP O O F ?_
  refine oO O O (i - 1+(toL (val b)).length) (by omega) (by omega) (lN ?_)
  refine aPe (i:=⟨_,_,.load _ _ _⟩) (i - 1+(toL (val b)).length) O O F O (.inr mem0) (by omega) (by omega) ?_
  refine G1 8 O (gP O O F ?_)
  refine lB O O (gI (n:=i - 1+(toL (val b)).length) (by omega) (by omega)) (lN ?_)
  refine gP O O F ?_
  refine lB O O (vO (n:=i - 1+(toL (val b)).length - 1) (by omega) (by omega)) (lN ?_)
  refine gP O O F ?_
  refine oO O O (i - 1+(toL (val b)).length - 1) (by omega) (by omega) (lN ?_)
  refine aPe (i:=⟨_,_,.load _ _ _⟩) (i - 1+(toL (val b)).length - 1) O O F O (.inr mem0) (by omega) (by omega) ?_
  refine G1 8 O (gP O O F ?_)
  refine lB O O (gI (n:=i - 1+(toL (val b)).length) (by omega) (by omega)) (lN ?_)
  refine gP O O F ?_
  refine lB O O (vO (n:=i - 1+(toL (val b)).length - 2) (by omega) (by omega)) (lN ?_)
  refine gP O O F ?_
  refine oO O O (i - 1+(toL (val b)).length - 2) (by omega) (by omega) (lN ?_)
  refine aPe (i:=⟨_,_,.load _ _ _⟩) (i - 1+(toL (val b)).length - 2) O O F O (.inr mem0) (by omega) (by omega) ?_
  refine G1 5 O (gP O O F ?_)
  refine lB O O (vO (n:=(toL (val b)).length - 1) (by omega) (by omega)) (lN ?_)
  refine gP O O F ?_
  refine sJ (zz:=zl0) O O hfb.m ((toL (val b)).length - 1) (O) (by omega) fun p101 hp101=>lN ?_
  refine glP O O hp101 ti (G1 5 O (gP O O F ?_))
  refine lB O O (vO (n:=(toL (val b)).length - 2) (by omega) (by omega)) (lN ?_)
  refine gP O O F ?_
  refine sJ (zz:=zl0) O O hfb.m ((toL (val b)).length - 2) (O) (by omega) fun p106 hp106=>lN ?_
  refine glP O O hp106 ti ?_
  refine gC zl0 (aYc (by omega) hg1 (qO _ _) (qO _ _) (by omega) (qO _ _) (qO _ _)) O O O O fun v108 z108 _ hv108=>?_
  rw [← hgE] at hv108
  subst hv108
  refine G0 3 O (xG (R1 64 O (lB O O (gI (n:=i - 1+(toL (val b)).length) (by omega) (by omega)) (lB O O (gI (n:=i - 1+(toL (val b)).length+1) (by omega) (by omega)) ?_))))
  refine bIw (i - 1) ((toL (val b)).length+1) (i:=i - 1) (j:=i - 1+(toL (val b)).length+1) O ⟨_,_,O,by omega⟩ ⟨_,_,O,by omega⟩ (by omega) (by omega) (by omega) (by omega) (by omega) ?_
  refine R1 7 O ?_
  refine uW z108 [Fq eW bba 117 L] (aZS (by omega) hfb.m (by omega) (by omega) (by omega) hg4 (by rw [gX];exact hBp) (by rw [gX];exact hg2) (by rw [gX];exact hg3)) O O O fun v120 z120 H120 _ ⟨M,hv120,hH120,hM1,hM2,hM3,hM4⟩=>?_
  rw [gX] at hv120 hM4
  subst hv120
  subst hH120
  refine oO O O (i - 1) (by omega) (by omega) (Ek (i - 1) (val (List.take ((toL (val b)).length+1) (List.drop (i - 1) L)) / (val b * 2 ^ up)) O O P1 (O) (aZC hDj hB1 (by omega)) (by omega) (by omega) (lN (eT (xG (lC O ?_)))))
  refine lB O O (wF (r:=((i - 1:Nat):Int) - 1) (by rw [vF ⟨by omega,by omega⟩];omega)) ?_
  refine R0 2 O ?_
  exact mK (by omega) ⟨i - 1,_,_,LI.m [] O,rfl,by omega,hM1.trans hLl,by rw [List.length_set];exact hql,bJ2 hDj hB1 (by omega) (by omega) hM1 hM2 hM3 hM4 (aZC hDj hB1 (by omega))⟩
 refine dH (nF (eT (xR ?_)))
 have hi0:i=0:=by omega
 rw [hi0] at hD
 obtain ⟨he1,he2⟩:=bOZ hD
 refine A7 (n:=(toL (val a * 2 ^ up)++[(0:UInt32)]).length) z zl0 (p:=[]) O O zI (hLl) (by omega) fun zfa hzfa hfa=>?_
 refine R1 4 O ?_
 refine aRS O (aYZ (r := -((up:Nat):Int)) (by rw [vF ⟨by omega,by omega⟩];omega)) ?_
 refine lZ zfa (bFt (by omega) (hfa.mono jF) hu5 (by omega)) O O fun v126 z126 hz126 ⟨ur,hv126,hr126⟩=>?_
 subst hv126
 have hr126:=hr126.mono (qY (hz15.trans (hz17.trans (hz26.trans (hz50.trans (hz54.trans (hzfb.trans (hz60.trans (hzl0.trans hzfa)))))))))
 refine R2 73 O ?_
 refine A7 (n:=((toL (val a * 2 ^ up)++[(0:UInt32)]).length - (toL (val b)).length)) z z126 (p:=[]) O O zI (hql) (by omega) fun zfq hzfq hfq=>?_
 refine lZ zfq (C9 (by omega) (hfq.mono jF) (by omega)) O O fun v130 z130 _ hr130=>?_
 have hr130:=hr130.mono (qY (hz15.trans (hz17.trans (hz26.trans (hz50.trans (hz54.trans (hzfb.trans (hz60.trans (hzl0.trans (hzfa.trans (hz126.trans hzfq)))))))))))
 refine R0 23 O (xT (rQ (.inl O) (rt O (rt O (rt O rn))) ?_))
 obtain ⟨hd1,hd2⟩:=bKo (a:=val a) (b:=val b) (up:=up)
 rw [he2,hd2] at hr126
 rw [he1,hd1] at hr130
 refine ⟨fun h=>absurd h (Nat.ne_of_gt (aE2 (by omega))),fun hb=>⟨_,_,rfl,hr130,(hr126.mono (jO zI))⟩⟩
open Go.CE Go.RowKit Go.Num
open Go.Eng (kN)
theorem Qd {n:Nat} (h:(toL n).length=0):n=0:=by
 rcases Nat.eq_zero_or_pos n with h0 | h0
 ·exact h0
 have:=aPd h0;omega
theorem aFn {n:Nat} (h:0<(toL n).length):0<n:=by
 rcases Nat.eq_zero_or_pos n with rfl | h0
 ·rw [sY] at h;simp at h
 exact h0
def aZD (ls:List (List UInt32)):Nat:=ls.foldl (fun g l=>Nat.gcd g (val l)) 0
theorem bEZ {ls:List (List UInt32)} {i:Nat} (h:i<ls.length):aZD (ls.take (i+1))=Nat.gcd (aZD (ls.take i)) (val ls[i]):=by
 unfold aZD
 rw [List.take_add_one,List.getElem?_eq_getElem h,List.foldl_append]
 rfl
theorem bSw (a b:List UInt32):aZD [a,b]=Nat.gcd (val a) (val b):=by simp [aZD]
theorem bDd {k:Nat} (hk:6≤k) {z:dA} {v:AV} {ls:List (List UInt32)} (hx:SZ 1 RLs z v ls) (hl:∀ l,l∈ls→l.length≤50000000):FC (E k) 277 [v] z fun v' z'=>SZ 1 RW (zd z z') v' (toL (aZD ls)):=by
 have hxl:=hx.le
 refine eA (bEN) (by omega) (aU O) fun B j hj=>?_
 refine R4 192 O (aS O hx (R0 2 O ?_))
 refine aT (aQ ?_)
 refine dX (fun n fs=>∃ (i:Nat) (g:Nat) (va:AV) (zo:dA),LZ z zo [] [(3,va),(9,v),(10,Az ls.length),(11,Az i)] fs∧n=ls.length - i∧(i≤ls.length)∧(SZ 1 RW zo va (toL g))∧(g=aZD (ls.take i))∧((toL g).length≤50000000)) ?_ _ ⟨0,0,_,_,LZ.m [] O,rfl,Nat.zero_le _,by rw [sY];exact .nil,rfl,by rw [sY];simp⟩ (kK (by omega))
 intro n fs ⟨i,g,va,zo,hL0,hmz0,hi,hva,hg,hgl⟩
 refine hL0.open fun e hzo=>?_
 refine R5 8 O ?_
 refine xD O (fun hc12=>?_) (fun hc12=>?_)
 ·refine cP ?_
  refine aT (aQ ?_)
  refine xR ?_
  refine dE (zz:=zo) O O hx.m i O _ (List.getElem?_eq_getElem (by omega)) fun b13 p13 cs13 at13 hR13=>?_
  obtain ⟨e13,rfl,hc13⟩:=hR13
  refine Zm O at13 ?_
  have hil:=hl _ (List.getElem_mem (show i<ls.length by omega))
  refine R2 8 O ?_
  refine lZ zo (C9 (by omega) hc13 (by omega)) O O fun v16 z16 hz16 hb16=>?_
  have hb16:=hb16.mono (qY (hzo))
  refine R0 3 O (aQ ?_)
  refine dX (fun n fs=>∃ (x:Nat) (y:Nat) (va2:AV) (vb2:AV) (zi:dA),LZ z16 zi [] [(3,va2),(5,vb2),(9,v),(10,Az ls.length),(11,Az i)] fs∧n=gm x y∧(SZ 1 RW zi va2 (toL x))∧(SZ 1 RW zi vb2 (toL y))∧(Nat.gcd x y=Nat.gcd g (val ls[i]))∧((toL x).length≤50000000)∧((toL y).length≤50000000)) ?_ _ ⟨g,val ls[i],_,_,_,LZ.m [] O,rfl,hva.m,(hb16.mono jF),rfl,hgl,by have:=yN (l:=ls[i]);omega⟩ (by have:=bLN hgl (show (toL (val ls[i])).length≤50000000 by have:=yN (l:=ls[i]);omega);show _<18446744073709551616;omega)
  intro n fs ⟨x,y,va2,vb2,zi,hL1,hmz1,hva2,hvb2,hgx,hxl2,hyl2⟩
  refine hL1.open fun e hzi=>?_
  refine R4 12 O (aS O hvb2 (R3 4 O ?_))
  refine xD O (fun hc19=>?_) (fun hc19=>?_)
  ·refine cP (aQ (R4 14 O ?_))
   refine lZ zi (aHc (by omega) hva2 hvb2 hxl2 hyl2) O O fun v23 z23 _ ⟨_,hv23⟩=>?_
   rw [gX,gX] at hv23
   have hy0:0<y:=aFn (by omega)
   obtain ⟨q23,r23,rfl,hq23,hr23⟩:=hv23 hy0
   have hr23:=hr23.mono (qY (hzo.trans (hz16.trans hzi)))
   refine R0 241 O (xG (R0 31 O ?_))
   exact mK (by rw [hmz1];exact bLU (by omega)) ⟨y,x % y,_,_,_,LZ.m [] O,rfl,hvb2.m,(hr23.mono jF),by rw [Nat.gcd_comm y,← Nat.gcd_rec,Nat.gcd_comm];exact hgx,hyl2,Nat.le_trans (zH (Nat.le_of_lt (Nat.mod_lt _ (by omega)))) hyl2⟩
  refine dH (nF (eT (xG (lB O O (gI (n:=i+1) (by omega) (by omega)) (R0 2 O ?_)))))
  exact mK (by omega) ⟨i+1,x,va2,_,LZ.m [] O,rfl,by omega,hva2,by rw [bEZ (by omega),← hg,← hgx,show y=0 from Qd (by omega),Nat.gcd_zero_right],hxl2⟩
 refine dH (nF (eT (R4 6 O ?_)))
 refine lZ zo (V7 (by omega) hva (by omega)) O O fun v31 z31 _ hk31=>?_
 have hk31:=hk31.mono (qY (hzo))
 refine R0 3 O (xT (rI O ?_))
 rw [hg,show i=ls.length by omega,List.take_length] at hk31
 exact hk31
open Go.CE Go.RowKit Go.Num
open Go.Eng (kN)
theorem bIs (a b:Bool):Go.Eng.binBV .eql (.bool a) (.bool b)=some (.bool (decide (a=b))):=by cases a<;>cases b<;>rfl
theorem aE6 (a b:Bool):Go.Eng.binBV .neq (.bool a) (.bool b)=some (.bool (!decide (a=b))):=by cases a<;>cases b<;>rfl
theorem bNf {a b:Int} {k j:Nat} (h1:(toL a.natAbs).length≤k) (h2:(toL b.natAbs).length≤j):(toL (a - b).natAbs).length≤k+j+1:=by
 refine pG.2 ?_
 have h3:=pG.1 h1
 have h4:=pG.1 h2
 have h5:Num.W ^ k≤Num.W ^ (k+j):=Nat.pow_le_pow_right (by decide) (by omega)
 have h6:Num.W ^ j≤Num.W ^ (k+j):=Nat.pow_le_pow_right (by decide) (by omega)
 have h7:Num.W ^ (k+j) * 2≤Num.W ^ (k+j) * Num.W:=Nat.mul_le_mul_left _ (by decide)
 rw [Nat.pow_succ]
 generalize Num.W ^ (k+j) * Num.W=X at *
 generalize Num.W ^ (k+j)=Y at *
 omega
theorem aBL {k:Nat} (hk:1≤k) {z:dA} {n:Bool} {c:C} {l:List UInt32} (hx:CZ 1 RW z c l):FC (E k) 236 [.agg [Cb n,c]] z fun v _=>v=Ab (xB (n,l)):=by
 have hxl:=hx.le
 refine eA (bDc) (by omega) (aU O) fun B j hj=>?_
 refine xR ?_
 refine iU O fun b1=>?_
 refine R2 8 O (dK O mem0 O (aS O hx (R2 32 O ?_)))
 refine fR 9 O (fun hg9=>?_) (fun hg9=>?_)
 ·refine lD O (lF O (lD O (dK O mem0 O (R1 12 O ?_))))
  refine nC 14 O (fun hg14=>?_) (fun hg14=>?_)
  ·refine R0 12288 O (xT (rI O ?_))
   have hl:l=[]:=List.eq_nil_of_length_eq_zero (by omega)
   subst hl
   rw [aJH,hg14]
   rfl
  refine R1 8 O ?_
  refine fR 17 O (fun hg17=>?_) (fun hg17=>?_)
  ·omega
  refine R0 1536 O (xT (rI O ?_))
  have hl:l=[]:=List.eq_nil_of_length_eq_zero (by omega)
  subst hl
  rw [aJH,hg14]
  rfl
 refine R1 272 O ?_
 refine fR 17 O (fun hg17=>?_) (fun hg17=>?_)
 ·refine lD O (lF O (lD O (dK O mem0 O (lD O (lC O (lD O (lB O O (vO (n:=l.length - 1) (by omega) (by omega)) (lD O ?_))))))))
  refine sJ O O hx (l.length - 1) (O) (by omega) fun p22 hp22=>?_
  refine lD O (uO O hp22 (R0 24 O (xT (rI O ?_))))
  rw [aQj (by omega)]
  rfl
 omega
theorem zW {k:Nat} (hk:2≤k) {z:dA} {n:Bool} {c:C} {l:List UInt32} (hx:CZ 1 RW z c l):FC (E k) 170 [.agg [Cb n,c]] z fun v _=>∃ c',v=.agg [Cb (decide (lQ (n,l)<0)),c']∧∀ zz,CZ 1 RW zz c l→CZ 1 RW zz c' (toL (lQ (n,l)).natAbs):=by
 refine eA (bEG) (by omega) (aU O) fun B j hj=>?_
 refine xR ?_
 refine iU O fun b1=>?_
 refine oH fun b2=>?_
 refine lN (R4 4 O (iP O Y1 O ?_))
 refine lE z (aBL (by omega) hx) O O fun z4 _=>?_
 refine R3 4 O ?_
 refine jB O (fun hc5=>?_) (fun hc5=>?_)
 ·refine R4 4 O (mN (cs:=[_,_]) O (iI O O iW (lN (jX (rQ (.inl O) (Za O mem0 rn) ?_)))))
  have h0:=bFj (n:=n) (l:=l) (by simpa using hc5)
  rw [h0]
  exact ⟨_,rfl,fun zz h=>by rw [show toL (0:Int).natAbs=[] from sY];exact .nil⟩
 refine R4 4 O (iP O Y1 O (mN (cs:=[_,_]) O (iI O O iW (lN (xT (rQ (.inl O) (Za O mem0 rn) ?_))))))
 obtain ⟨e1,e2⟩:=aXJ (n:=n) (l:=l) (by simpa using hc5)
 refine ⟨c,?_,fun zz h=>by rw [← e2];exact h⟩
 rw [← e1]
 rfl
theorem qS {k:Nat} (hk:1≤k) {z:dA} {b:Bool} {m:Nat} {c:C} (hx:CZ 1 RW z c (toL m)):FC (E k) 163 [Ab b,.c c] z fun v _=>v=.agg [Cb (decide (Qo b m<0)),c]:=by
 refine eA (bEB) (by omega) (aU O) fun B j hj=>?_
 refine xR ?_
 refine oH fun b4=>?_
 refine lN (R4 8 O ?_)
 refine nC 6 O (fun hg6=>?_) (fun hg6=>?_)
 ·refine lD O (lC O (lD O (aS O hx (R1 8 O (mN (cs:=[_,_]) O (iI O O iW (lN (xT (rQ (.inl O) (Za O mem0 rn) ?_)))))))))
  rw [aWH,hg6]
  rfl
 refine R1 32 O (mN (cs:=[_,_]) O (iI O O iW (lN (xT (rQ (.inl O) (Za O mem0 rn) ?_)))))
 rw [aWH,hg6]
 rfl
theorem Px {k:Nat} (hk:5≤k) {z:dA} {a b:Int} {c1 c2:C} (hx:CZ 1 RW z c1 (toL a.natAbs)) (hy:CZ 1 RW z c2 (toL b.natAbs)) (h1:(toL a.natAbs).length≤100000000) (h2:(toL b.natAbs).length≤100000000):FC (E k) 242 [.agg [Cb (decide (a<0)),c1],.agg [Cb (decide (b<0)),c2]] z fun v z'=>IV (zd z z') v (a+b):=by
 refine eA (bBR) (by omega) (aU O) fun B j hj=>?_
 refine xR ?_
 refine iU O fun b2=>?_
 refine iU O fun b3=>?_
 refine oH fun b4=>?_
 refine lN (R4 16 O (dK O Y2 O (R1 4 O (dK O Y1 O (Ej O O (bIs _ _) (lN (Ew ?_)))))))
 refine xD O (fun hc13=>?_) (fun hc13=>?_)
 ·refine Xb (iN (G1 4 O (zG O O (.inr Y2) O (G1 4 O (zG O O (.inr Y2) O (G1 4 O (zG O O (.inr Y1) O ?_)))))))
  refine gC z (aRH (by omega) hx hy (by omega) (by omega)) O O O O fun v23 z23 _ hr23=>?_
  rw [gX,gX] at hr23
  obtain ⟨c23,rfl,_⟩:=hr23.one
  refine gE z23 (qS (by omega) (hr23.mono jF)) O O O O fun z24 _=>?_
  refine gS O O O (iI O O iW (lN (mL (jX (rQ (.inl O) (Za O mem0 rn) ?_)))))
  rw [aJq hc13]
  refine ⟨_,O,?_⟩
  have hq:=(hr23.mono (jO (zJ z24)))
  rwa [show a.natAbs+b.natAbs=(a+b).natAbs by rw [← aJq hc13,Zj]] at hq
 refine R4 32 O (dK O Y2 O (R1 4 O (dK O Y1 O ?_)))
 refine lZ z (aEX (by omega) hx hy) O O fun v31 z31 hz31 hv31=>?_
 rw [gX,gX] at hv31
 subst hv31
 refine R3 4 O ?_
 refine xD O (fun hc32=>?_) (fun hc32=>?_)
 ·refine xR ?_
  rw [Pv] at hc32
  refine iP O Y1 O (iP O Y2 O (iI O O P2 (iI O O P1 (lN (R4 8 O (dK O Y2 O (R1 4 O (dK O Y1 O ?_))))))))
  refine lZ z31 (aFs (by omega) hy.m hx.m (by omega) (by omega)) O O fun v42 z42 hz42 ⟨_,hv42⟩=>?_
  rw [gX,gX] at hv42
  obtain ⟨w42,rfl,hr42⟩:=hv42 (by omega)
  obtain ⟨c42,rfl,_⟩:=hr42.one
  have hr42:=hr42.mono (qY (hz31))
  refine R2 281 O (dK O Y2 O (lM O ?_))
  refine lE z42 (qS (by omega) (hr42.mono jF)) O O fun z49 hz49=>?_
  refine iI O O iW (lN (xT (rQ (.inl O) (Za O mem0 rn) ?_)))
  rw [aWz hc13 hc32]
  refine ⟨_,O,?_⟩
  have hq:=(hr42.mono (jO (zJ z49)))
  rwa [show b.natAbs - a.natAbs=(a+b).natAbs by rw [← aWz hc13 hc32,Zj]] at hq
 refine R4 4 O ?_
 rw [Pv] at hc32
 refine R1 4 O (dK O Y2 O (R1 4 O (dK O Y1 O ?_)))
 refine lZ z31 (aFs (by omega) hx.m hy.m (by omega) (by omega)) O O fun v42 z42 hz42 ⟨_,hv42⟩=>?_
 rw [gX,gX] at hv42
 obtain ⟨w42,rfl,hr42⟩:=hv42 (by omega)
 obtain ⟨c42,rfl,_⟩:=hr42.one
 have hr42:=hr42.mono (qY (hz31))
 refine R2 281 O (dK O Y2 O (lM O ?_))
 refine lE z42 (qS (by omega) (hr42.mono jF)) O O fun z49 hz49=>?_
 refine iI O O iW (lN (xT (rQ (.inl O) (Za O mem0 rn) ?_)))
 rw [aO4 hc13 (Nat.le_of_not_lt hc32)]
 refine ⟨_,O,?_⟩
 have hq:=(hr42.mono (jO (zJ z49)))
 rwa [show a.natAbs - b.natAbs=(a+b).natAbs by rw [← aO4 hc13 (Nat.le_of_not_lt hc32),Zj]] at hq
theorem K9 {k:Nat} (hk:2≤k) {z:dA} {a:Int} {c:C} (hx:CZ 1 RW z c (toL a.natAbs)):FC (E k) 243 [.agg [Cb (decide (a<0)),c]] z fun v _=>v=.agg [Cb (decide (-a<0)),c]:=by
 refine eA (bCj) (by omega) (aU O) fun B j hj=>?_
 refine xR ?_
 refine iU O fun b1=>?_
 refine oH fun b2=>?_
 refine lN (R4 8 O (dK O Y1 O (R1 8 O (dK O Y1 O ?_))))
 refine lE z (qS (by omega) hx) O O fun z10 _=>?_
 refine mN (cs:=[_,_]) O (iI O O iW (lN (xT (rQ (.inl O) (Za O mem0 rn) ?_))))
 rw [bA6]
 rfl
theorem aYv {k:Nat} (hk:3≤k) {z:dA} {n:Int} (h1 : -9223372036854775808≤n) (h2:n<9223372036854775808):FC (E k) 83 [Ai n] z fun v z'=>IV (zd z z') v n:=by
 refine eA (bH6) (by omega) (aU O) fun B j hj=>?_
 refine xR ?_
 refine oH fun b2=>?_
 refine lN (R4 4 O (mX O ((bAs n)) (R3 32 O ?_)))
 refine Ik (fun fs=>LI z [.blk b2 (.cells 33 [Cb false,Cz])] [(0,Ai n),(2,Ap b2),(3,.c (.v (.int .u64 ((n.natAbs:Nat):Int))))] fs) ?_ fun fs hJ=>?_
 ·refine xD O (fun hc7=>?_) (fun hc7=>?_)
  ·refine xG (lC O ?_)
   refine aRS O (aYZ (r:=((n.natAbs:Nat):Int)) (by rw [bAs];omega)) ?_
   refine R0 2 O ?_
   exact eT (LI.m [] O)
  refine oC ?_
  rw [show n % 18446744073709551616=((n.natAbs:Nat):Int) by omega]
  exact eT (LI.m [] O)
 have hJ7:=hJ
 refine hJ7.open fun e zj7 hzj7=>?_
 refine R4 16 O (mX O (wDm _) (lC O (lB O O (aHm (n:=n.natAbs / 4294967296) (by decide) (O)) (mX O (wD (O) (by omega)) ?_))))
 refine bBc O O (Nat.mod_lt _ (by decide)) (by omega) O fun b17=>?_
 refine A7 (n:=2) z zj7 (p:=[]) O O zI (O) (by omega) fun zf17 hzf17 hf17=>?_
 refine lZ zf17 (C9 (by omega) (hf17.mono jF) (by simp)) O O fun v18 z18 _ hr18=>?_
 rw [bA1 (by omega)] at hr18
 obtain ⟨c18,rfl,_⟩:=hr18.one
 have hr18:=hr18.mono (qY (hzj7.trans hzf17))
 refine lE z18 (qS (by omega) (hr18.mono jF)) O O fun z19 _=>?_
 refine iI O O iW (lN (xT (rQ (.inl O) (Za O mem0 rn) ?_)))
 rw [bFn]
 exact ⟨_,rfl,(hr18.mono (jO zI))⟩
theorem aUV {k:Nat} (hk:6≤k) {z:dA} {n1:Bool} {c1:C} {l1:List UInt32} (hx:CZ 1 RW z c1 l1) {n2:Bool} {c2:C} {l2:List UInt32} (hy:CZ 1 RW z c2 l2) (h1:l1.length≤20000000) (h2:l2.length≤20000000):FC (E k) 166 [.agg [Cb n1,c1],.agg [Cb n2,c2]] z fun v z'=>IV (zd z z') v (lQ (n1,l1)+lQ (n2,l2)):=by
 refine eA (bDy) (by omega) (aU O) fun B j hj=>?_
 refine xR ?_
 refine iU O fun b2=>?_
 refine iU O fun b3=>?_
 refine oH fun b4=>?_
 refine lN (iN (Ou O O (.inr Y2) O ?_))
 refine gC z (zW (by omega) hx) O O O O fun v6 z6 hz6 hv6=>?_
 obtain ⟨c6,rfl,hq6⟩:=hv6
 have h6:=hq6 _ (hx.mono (zJ z6))
 refine Ou O O (.inr Y1) O ?_
 refine gC z6 (zW (by omega) hy.m) O O O O fun v8 z8 hz8 hv8=>?_
 obtain ⟨c8,rfl,hq8⟩:=hv8
 have h8:=hq8 _ (hy.mono (zJ z8))
 refine gC z8 (Px (by omega) h6.m h8 (by have:=C5 (n:=n1) (l:=l1);omega) (by have:=C5 (n:=n2) (l:=l2);omega)) O O O O fun v9 z9 _ hv9=>?_
 obtain ⟨c9,rfl,h9⟩:=hv9
 have h9:=h9.mono (qY (hz6.trans hz8))
 refine gS O O O (iI O O iW (lN (mL (xT (rQ (.inl O) (Za O mem0 rn) ?_)))))
 exact ⟨_,rfl,h9⟩
theorem bDt {k:Nat} (hk:6≤k) {z:dA} {n1:Bool} {c1:C} {l1:List UInt32} (hx:CZ 1 RW z c1 l1) {n2:Bool} {c2:C} {l2:List UInt32} (hy:CZ 1 RW z c2 l2) (h1:l1.length≤20000000) (h2:l2.length≤20000000):FC (E k) 169 [.agg [Cb n1,c1],.agg [Cb n2,c2]] z fun v z'=>IV (zd z z') v (lQ (n1,l1) - lQ (n2,l2)):=by
 refine eA (bEa) (by omega) (aU O) fun B j hj=>?_
 refine xR ?_
 refine iU O fun b2=>?_
 refine iU O fun b3=>?_
 refine oH fun b4=>?_
 refine lN (iN (Ou O O (.inr Y2) O ?_))
 refine gC z (zW (by omega) hx) O O O O fun v6 z6 hz6 hv6=>?_
 obtain ⟨c6,rfl,hq6⟩:=hv6
 have h6:=hq6 _ (hx.mono (zJ z6))
 refine Ou O O (.inr Y1) O ?_
 refine gC z6 (zW (by omega) hy.m) O O O O fun v8 z8 hz8 hv8=>?_
 obtain ⟨c8,rfl,hq8⟩:=hv8
 have h8:=hq8 _ (hy.mono (zJ z8))
 refine gE z8 (K9 (by omega) h8) O O O O fun z9 hz9=>?_
 refine gC z9 (Px (by omega) h6.m (b := -lQ (n2,l2)) (by rw [Int.natAbs_neg];exact h8.m) (by have := C5 (n := n1) (l := l1);omega) (by rw [Int.natAbs_neg];have := C5 (n := n2) (l := l2);omega)) O O O O fun v10 z10 _ hv10=>?_
 obtain ⟨c10,rfl,h10⟩:=hv10
 have h10:=h10.mono (qY (hz6.trans (hz8.trans hz9)))
 refine gS O O O (iI O O iW (lN (mL (xT (rQ (.inl O) (Za O mem0 rn) ?_)))))
 rw [Int.sub_eq_add_neg]
 exact ⟨_,rfl,h10⟩
theorem aKP {k:Nat} (hk:4≤k) {z:dA} {n1:Bool} {c1:C} {l1:List UInt32} (hx:CZ 1 RW z c1 l1) {n2:Bool} {c2:C} {l2:List UInt32} (hy:CZ 1 RW z c2 l2) (h1:l1.length≤20000000) (h2:l2.length≤20000000):FC (E k) 89 [.agg [Cb n1,c1],.agg [Cb n2,c2]] z fun v z'=>IV (zd z z') v (lQ (n1,l1) * lQ (n2,l2)):=by
 refine eA (bE4) (by omega) (aU O) fun B j hj=>?_
 refine xR ?_
 refine iU O fun b2=>?_
 refine iU O fun b3=>?_
 refine oH fun b4=>?_
 refine lN (iN (Ou O O (.inr Y2) O ?_))
 refine gC z (zW (by omega) hx) O O O O fun v8 z8 hz8 hv8=>?_
 obtain ⟨c8,rfl,hq8⟩:=hv8
 have h8:=hq8 _ (hx.mono (zJ z8))
 refine Ou O O (.inr Y1) O ?_
 refine gC z8 (zW (by omega) hy.m) O O O O fun v10 z10 hz10 hv10=>?_
 obtain ⟨c10,rfl,hq10⟩:=hv10
 have h10:=hq10 _ (hy.mono (zJ z10))
 refine gA O O (fun b5 hT5=>?_)
 refine gA O O (fun b6 hT6=>?_)
 refine gS O O O (iI O O P1 (lN (gS O O O (iI O O iW (lN (mL (iN (G1 4 O (zG O O (.inr Y1) O (G1 4 O (zG O O Ht O (gP O O F ?_))))))))))))
 refine Ej O O (aE6 _ _) (lN ?_)
 refine G1 4 O (zG O O (.inr Y1) O (G1 4 O (zG O O Ht O ?_)))
 refine gC z10 (bCt (by omega) h8.m h10 (by have:=C5 (n:=n1) (l:=l1);omega) (by have:=C5 (n:=n2) (l:=l2);omega)) O O O O fun v24 z24 _ hr24=>?_
 rw [gX,gX] at hr24
 obtain ⟨c24,rfl,_⟩:=hr24.one
 have hr24:=hr24.mono (qY (hz8.trans hz10))
 refine gE z24 (qS (by omega) (hr24.mono jF)) O O O O fun z25 _=>?_
 refine gS O O O (iI O O P2 (lN (mL (xT (rQ (.inl O) (Za O Y2 rn) ?_)))))
 rw [bAU]
 refine ⟨_,O,?_⟩
 have hq:=(hr24.mono (jO (zJ z25)))
 rwa [← Int.natAbs_mul] at hq
theorem aUt {k:Nat} (hk:3≤k) {z:dA} {n:Bool} {c:C} {l:List UInt32} (hx:CZ 1 RW z c l) (h1:l.length≤20000000):FC (E k) 167 [.agg [Cb n,c]] z fun v z'=>IV (zd z z') v (-lQ (n,l)):=by
 refine eA (bBS) (by omega) (aU O) fun B j hj=>?_
 refine xR ?_
 refine iU O fun b1=>?_
 refine oH fun b2=>?_
 refine lN (xR (iP O Y1 O ?_))
 refine lZ z (zW (by omega) hx) O O fun v5 z5 hz5 hv5=>?_
 obtain ⟨c5,rfl,hq5⟩:=hv5
 have h5:=hq5 _ (hx.mono (zJ z5))
 refine lE z5 (K9 (by omega) h5) O O fun z6 hz6=>?_
 refine oH fun b3=>?_
 refine iI O O iW (lN (iN (G1 4 O (zG O O Ht O (G1 4 O (zG O O Ht O ?_))))))
 refine gC z6 (V7 (by omega) h5.m (by have:=C5 (n:=n) (l:=l);omega)) O O O O fun v13 z13 _ hr13=>?_
 obtain ⟨c13,rfl,_⟩:=hr13.one
 have hr13:=hr13.mono (qY (hz5.trans hz6))
 refine gP O O F ?_
 refine mN (cs:=[_,_]) O (lN ?_)
 refine gS O O O (iI O O P1 (lN (mL (xT (rQ (.inl O) (Za O Y1 rn) ?_)))))
 refine ⟨_,O,?_⟩
 rw [Int.natAbs_neg]
 exact hr13
theorem bBF {k:Nat} (hk:3≤k) {z:dA} {n:Bool} {c:C} {l:List UInt32} (hx:CZ 1 RW z c l) (h1:l.length≤20000000):FC (E k) 168 [.agg [Cb n,c]] z fun v z'=>IV (zd z z') v ((lQ (n,l)).natAbs):=by
  refine eA (bCv) (by omega) (aU O) fun B j hj=>?_
  refine xR ?_
  refine iU O fun b1=>?_
  refine oH fun b2=>?_
  refine lN (xR (iP O Y1 O ?_))
  refine lZ z (zW (by omega) hx) O O fun v4 z4 hz4 hv4=>?_
  obtain ⟨c4,rfl,hq4⟩:=hv4
  have h4:=hq4 _ (hx.mono (zJ z4))
  refine aGw O O (aAV O O ?_)
  refine lZ z4 (V7 (by omega) h4 (by have:=C5 (n:=n) (l:=l);omega)) O O fun v7 z7 _ hr7=>?_
  obtain ⟨c7,rfl,_⟩:=hr7.one
  have hr7:=hr7.mono (qY (hz4))
  refine mN (cs:=[_,_]) O (iI O O iW (lN (xT (rQ (.inl O) (Za O mem0 rn) ?_))))
  refine ⟨c7,?_,?_⟩
  · rw [decide_eq_false (by omega)]
    rfl
  · exact hr7
theorem Zv {k:Nat} (hk:3≤k) {z:dA} {n:Bool} {c:C} {l:List UInt32} (hx:CZ 1 RW z c l):FC (E k) 90 [.agg [Cb n,c]] z fun v _=>v=.c (.v (.int .i64 (lQ (n,l)).sign)):=by
 refine eA (bGu) (by omega) (aU O) fun B j hj=>?_
 refine xR ?_
 refine iU O fun b1=>?_
 refine R2 8 O (iP O mem0 O ?_)
 refine lZ z (zW (by omega) hx) O O fun v5 z5 _ hv5=>?_
 obtain ⟨c5,rfl,hq5⟩:=hv5
 have h5:=hq5 _ (hx.mono (zJ z5))
 refine oH fun b3=>?_
 refine iI O O iW (lN ?_)
 refine aT (aQ ?_)
 refine R4 8 O (dK O mem0 O (R0 2 O ?_))
 refine jB O (fun hc6=>?_) (fun hc6=>?_)
 ·refine R5 4 O (xT (nS (rI O ?_)))
  rw [aZ3,if_pos (of_decide_eq_true hc6)]
  rfl
 refine R4 8 O (dK O mem0 O (aS O h5 (R0 4 O ?_)))
 refine xD O (fun hc10=>?_) (fun hc10=>?_)
 ·refine R5 4 O (xT (nS (rI O ?_)))
  rw [aZ3,if_neg (of_decide_eq_false hc6),if_pos (aFn (by omega))]
  rfl
 refine oC (eT (R5 4 O (xT (rI O ?_))))
 rw [aZ3,if_neg (of_decide_eq_false hc6),if_neg (by have:=Qd (n:=(lQ (n,l)).natAbs) (by omega);omega)]
 rfl
theorem aDU {k:Nat} (hk:7≤k) {z:dA} {n1:Bool} {c1:C} {l1:List UInt32} (hx:CZ 1 RW z c1 l1) {n2:Bool} {c2:C} {l2:List UInt32} (hy:CZ 1 RW z c2 l2) (h1:l1.length≤20000000) (h2:l2.length≤20000000):FC (E k) 88 [.agg [Cb n1,c1],.agg [Cb n2,c2]] z fun v _=>v=.c (.v (.int .i64 (lQ (n1,l1) - lQ (n2,l2)).sign)):=by
 refine eA (bFd) (by omega) (aU O) fun B j hj=>?_
 refine xR ?_
 refine iU O fun b2=>?_
 refine iU O fun b3=>?_
 refine R2 4 O (iP O Y1 O (iP O mem0 O ?_))
 refine lZ z (bDt (by omega) hx hy h1 h2) O O fun v7 z7 _ hv7=>?_
 obtain ⟨c7,rfl,h7⟩:=hv7
 have hb7:(toL (lQ (n1,l1) - lQ (n2,l2)).natAbs).length≤40000001:=bNf (k:=20000000) (j:=20000000) (Nat.le_trans C5 h1) (Nat.le_trans C5 h2)
 refine lZ z7 (Zv (by omega) (h7.mono jF)) O O fun v8 z8 _ hv8=>?_
 rw [jI] at hv8
 refine R0 3 O (xT ?_)
 exact rI O hv8
open Go.CE Go.RowKit Go.Num
open Go.Eng (kN)
theorem bTo {n:Nat} (h:(0:Int)<(n:Int)):0<n:=by omega
theorem bOb {n:Nat} (h:¬ (0:Int)<(n:Int)):n=0:=by omega
theorem bUg {a b:Int} (h:¬ decide (a<0)=decide (b<0)) (h2:(0:Int)<(((toL (a.natAbs % b.natAbs)).length:Nat):Int)) (hb:b≠0):Qo (!decide (decide (a<0)=decide (b<0))) (a.natAbs / b.natAbs+1)=a.fdiv b∧Qo (decide (b<0)) (b.natAbs - a.natAbs % b.natAbs)=a.fmod b:=bIc h (aFn (bTo h2)) hb
theorem bUA {a b:Int} (h2:¬ (0:Int)<(((toL (a.natAbs % b.natAbs)).length:Nat):Int)) (hb:b≠0):Qo (!decide (decide (a<0)=decide (b<0))) (a.natAbs / b.natAbs)=a.fdiv b∧Qo (decide (b<0)) (a.natAbs % b.natAbs)=a.fmod b:=aXI (.inr (Qd (bOb h2))) hb
theorem bRQ {a b:Int} (h:decide (a<0)=decide (b<0)) (hb:b≠0):Qo (!decide (decide (a<0)=decide (b<0))) (a.natAbs / b.natAbs)=a.fdiv b∧Qo (decide (b<0)) (a.natAbs % b.natAbs)=a.fmod b:=aXI (.inl h) hb
theorem aDF {z:dA} {v:AV} {c:C} {b:Bool} {m:Nat} {y:Int} (e:Qo b m=y) (h:v=.agg [Cb (decide (Qo b m<0)),c]) (hq:CZ 1 RW z c (toL m)):IV z v y:=by
 subst e
 exact ⟨c,h,by rwa [Zj]⟩
theorem M6 {k:Nat} (hk:6≤k) {z:dA} {n1:Bool} {c1:C} {l1:List UInt32} (hx:CZ 1 RW z c1 l1) {n2:Bool} {c2:C} {l2:List UInt32} (hy:CZ 1 RW z c2 l2) (h1:l1.length≤20000000) (h2:l2.length≤20000000) (hb:lQ (n2,l2)≠0):FC (E k) 241 [.agg [Cb n1,c1],.agg [Cb n2,c2]] z fun v z'=>∃ v1 v2,v=.tup [v1,v2,Ai 0]∧IV (zd z z') v1 ((lQ (n1,l1)).fdiv (lQ (n2,l2)))∧IV (zd z z') v2 ((lQ (n1,l1)).fmod (lQ (n2,l2))):=by
 have hla:=C5 (n:=n1) (l:=l1)
 have hlb:=C5 (n:=n2) (l:=l2)
 have hbp:0<(lQ (n2,l2)).natAbs:=by omega
 have hml:=Nat.le_of_lt (Nat.mod_lt (lQ (n1,l1)).natAbs hbp)
 have hlr:=zH hml
 have hlq:=zH (Nat.div_le_self (lQ (n1,l1)).natAbs (lQ (n2,l2)).natAbs)
 refine eA (bBu) (by omega) (aU O) fun B j hj=>?_
 refine xR ?_
 refine iU O fun b2=>?_
 refine iU O fun b3=>?_
 refine oH fun b4=>?_
 refine oH fun b5=>?_
 refine R0 2 O (iN (Ou O O (.inr Y3) O ?_))
 refine gC z (zW (by omega) hx) O O O O fun v12 z12 hz12 hv12=>?_
 obtain ⟨c12,rfl,hq12⟩:=hv12
 have h12:=hq12 _ (hx.mono (zJ z12))
 refine Ou O O (.inr Y2) O ?_
 refine gC z12 (zW (by omega) hy.m) O O O O fun v14 z14 hz14 hv14=>?_
 obtain ⟨c14,rfl,hq14⟩:=hv14
 have h14:=hq14 _ (hy.mono (zJ z14))
 refine gA O O (fun b7 hT7=>?_)
 refine gA O O (fun b8 hT8=>?_)
 refine gS O O O (iI O O P1 (lN (gS O O O (iI O O iW (lN (mL (R4 8 O (dK O Y1 O (R1 4 O (dK O mem0 O ?_))))))))))
 refine lZ z14 (aHc (by omega) h12.m h14 (by have:=C5 (n:=n1) (l:=l1);omega) (by have:=C5 (n:=n2) (l:=l2);omega)) O O fun v22 z22 hz22 ⟨_,hv22⟩=>?_
 rw [gX,gX] at hv22
 obtain ⟨wq,wr,rfl,hq22,hr22⟩:=hv22 (by omega)
 obtain ⟨cq,rfl,_⟩:=hq22.one
 obtain ⟨cr,rfl,_⟩:=hr22.one
 have hq22:=hq22.mono (qY (hz12.trans hz14))
 have hr22:=hr22.mono (qY (hz12.trans hz14))
 refine R3 4721 O ?_
 refine wO O (fun hc27=>?_) (fun hc27=>?_)
 ·exact absurd rfl hc27
 refine R4 32 O (dK O Y1 O (R1 4 O (dK O mem0 O (Ej O O (aE6 _ _) (lC O ?_)))))
 refine aJo 37 O (fun hg37=>?_) (fun hg37=>?_)
 ·refine lD O (lM O (lD O (aS O (hr22.mono jF) (R3 8 O ?_))))
  refine xD O (fun hc41=>?_) (fun hc41=>?_)
  ·refine R4 12 O ?_
   refine bAr (n:=1) O (by decide) O fun b43=>?_
   refine A7 (n:=1) z z22 (p:=[]) O O zI (O) (by omega) fun zf43 hzf43 hf43=>?_
   refine lZ zf43 (aRH (by omega) hq22.m (hf43.mono jF) (by omega) (by simp)) O O fun v44 z44 hz44 ha44=>?_
   rw [gX,bBe (by decide)] at ha44
   obtain ⟨ca,rfl,_⟩:=ha44.one
   have ha44:=ha44.mono (qY (hz12.trans (hz14.trans (hz22.trans hzf43))))
   refine R2 17 O (dK O mem0 O (lM O ?_))
   refine lZ z44 (aFs (by omega) h14.m hr22.m (by omega) (by omega)) O O fun v50 z50 _ ⟨_,hv50⟩=>?_
   rw [gX,gX] at hv50
   have hv50:=hv50 hml
   obtain ⟨w50,hw50,hs50⟩:=hv50
   subst hw50
   obtain ⟨cs50,rfl,_⟩:=hs50.one
   have hs50:=hs50.mono (qY (hz12.trans (hz14.trans (hz22.trans (hzf43.trans hz44)))))
   refine R0 25 O (iN (G1 4 O (zG O O (.inr Y1) O (G1 4 O (zG O O Ht O (gP O O F ?_))))))
   refine Ej O O (aE6 _ _) (lN ?_)
   refine G1 3 O ?_
   refine gE z50 (qS (by omega) ha44.m) O O O O fun z61 hz61=>?_
   refine G1 4 O (zG O O Ht O (G1 3 O ?_))
   refine gE z61 (qS (by omega) hs50.m) O O O O fun z66 hz66=>?_
   refine gS O O O (iI O O P3 (lN (gS O O O (iI O O P2 (lN (G0 2 O (xT (rQ (.inl O) (Za O Y3 (Za O Y2 (rt O rn))) ?_))))))))
   have he:=bUg hg37 hc41 hb
   exact ⟨_,_,rfl,aDF he.1 rfl (ha44.mono (jO zI)),aDF he.2 rfl (hs50.mono (jO zI))⟩
  refine cP (iN (G1 4 O (zG O O (.inr Y1) O (G1 4 O (zG O O Ht O (gP O O F ?_))))))
  refine Ej O O (aE6 _ _) (lN ?_)
  refine G1 3 O ?_
  refine gE z22 (qS (by omega) (hq22.mono jF)) O O O O fun z61 hz61=>?_
  refine G1 4 O (zG O O Ht O (G1 3 O ?_))
  refine gE z61 (qS (by omega) hr22.m) O O O O fun z66 hz66=>?_
  refine gS O O O (iI O O P3 (lN (gS O O O (iI O O P2 (lN (G0 2 O (xT (rQ (.inl O) (Za O Y3 (Za O Y2 (rt O rn))) ?_))))))))
  have he:=bUA hc41 hb
  exact ⟨_,_,rfl,aDF he.1 rfl (hq22.mono (jO zI)),aDF he.2 rfl (hr22.mono (jO zI))⟩
 refine R3 128 O (iN (G1 4 O (zG O O (.inr Y1) O (G1 4 O (zG O O Ht O (gP O O F ?_))))))
 refine Ej O O (aE6 _ _) (lN ?_)
 refine G1 3 O ?_
 refine gE z22 (qS (by omega) (hq22.mono jF)) O O O O fun z61 hz61=>?_
 refine G1 4 O (zG O O Ht O (G1 3 O ?_))
 refine gE z61 (qS (by omega) hr22.m) O O O O fun z66 hz66=>?_
 refine gS O O O (iI O O P3 (lN (gS O O O (iI O O P2 (lN (G0 2 O (xT (rQ (.inl O) (Za O Y3 (Za O Y2 (rt O rn))) ?_))))))))
 have he:=bRQ hg37 hb
 exact ⟨_,_,rfl,aDF he.1 rfl (hq22.mono (jO zI)),aDF he.2 rfl (hr22.mono (jO zI))⟩
theorem aU9 {k:Nat} (hk:7≤k) {z:dA} {n1:Bool} {c1:C} {l1:List UInt32} (hx:CZ 1 RW z c1 l1) {n2:Bool} {c2:C} {l2:List UInt32} (hy:CZ 1 RW z c2 l2) (h1:l1.length≤20000000) (h2:l2.length≤20000000):FC (E k) 237 [.agg [Cb n1,c1],.agg [Cb n2,c2]] z fun v z'=>IV (zd z z') v (Int.gcd (lQ (n1,l1)) (lQ (n2,l2))):=by
 refine eA (bCX) (by omega) (aU O) fun B j hj=>?_
 refine xR ?_
 refine iU O fun b2=>?_
 refine iU O fun b3=>?_
 refine oH fun b4=>?_
 refine lN (iN (Ou O O (.inr Y2) O ?_))
 refine gC z (zW (by omega) hx) O O O O fun v6 z6 hz6 hv6=>?_
 obtain ⟨c6,rfl,hq6⟩:=hv6
 have h6:=hq6 _ (hx.mono (zJ z6))
 refine gP O O F ?_
 refine aGw O O (lN ?_)
 refine gP O O F ?_
 refine aAV O O (lN ?_)
 refine Ou O O (.inr Y1) O ?_
 refine gC z6 (zW (by omega) hy.m) O O O O fun v10 z10 hz10 hv10=>?_
 obtain ⟨c10,rfl,hq10⟩:=hv10
 have h10:=hq10 _ (hy.mono (zJ z10))
 refine gP O O F ?_
 refine aGw O O (lN ?_)
 refine gP O O F ?_
 refine aAV O O (lN ?_)
 refine wE (k:=.cells 31 [c6,c10]) (w:=fun b=>Aw b 2) rfl F rfl (fun _=>rfl) (fun st hst=>?_) (fun b13 hT13=>?_)
 ·simp only [eP,zB,AS.ev,hst 8 (by simp [lS.sl,Od.sls,Od.sl]),hst 12 (by simp [lS.sl,Od.sls,Od.sl])];rfl
 refine aPp z10 (p:=[]) O O O (fun _ h=>h) fun zfg13 hzfg13 g13=>?_
 have hrow:=bVr h6.m h10.m g13
 refine gC zfg13 (bDd (by omega) hrow (by intro l hl;rcases List.mem_cons.1 hl with rfl | hl;exact (by have:=C5 (n:=n1) (l:=l1);omega);rcases List.mem_cons.1 hl with rfl | hl;exact (by have:=C5 (n:=n2) (l:=l2);omega);cases hl)) O O O O fun v14 z14 _ hr14=>?_
 rw [bSw,gX,gX] at hr14
 obtain ⟨c14,rfl,_⟩:=hr14.one
 have hr14:=hr14.mono (qY (hz6.trans (hz10.trans hzfg13)))
 refine gE z14 (qS (by omega) (hr14.mono jF)) O O O O fun z15 _=>?_
 refine gS O O O (iI O O iW (lN (mL (xT (rQ (.inl O) (Za O mem0 rn) ?_)))))
 rw [show Qo false (Nat.gcd (lQ (n1,l1)).natAbs (lQ (n2,l2)).natAbs)=((Int.gcd (lQ (n1,l1)) (lQ (n2,l2)):Nat):Int) from rfl]
 exact ⟨_,rfl,(hr14.mono (jO zI))⟩
open Go.CE Go.RowKit Go.Num
open Go.Eng (kN)
theorem bJy {a b:Int} {k:Nat} (h1:(toL a.natAbs).length≤k) (h2:(toL b.natAbs).length≤k):(toL ((Int.gcd a b:Nat):Int).natAbs).length≤k:=by
  rw [Int.natAbs_natCast]
  rcases Nat.eq_zero_or_pos b.natAbs with h | h
  · have e : Int.gcd a b = a.natAbs := by unfold Int.gcd; rw [h, Nat.gcd_zero_right]
    rw [e];exact h1
  · exact Nat.le_trans (zH (Nat.gcd_le_right _ h)) h2
theorem bOP:(toL (1:Int).natAbs).length≤20000000:=Nat.le_trans (m:=1) (pG.2 (by decide)) (by decide)
theorem bUz {x y:aRk} (h:xB x=false):false=zK (x,y):=by simp [zK,h]
theorem bTH {x y:aRk} (h:xB y=false):false=zK (x,y):=by simp [zK,h]
theorem aT0 {a:Int}:0<a.sign↔0<a:=by
 rcases Int.lt_trichotomy a 0 with h | h | h
 ·rw [Int.sign_eq_neg_one_of_neg h];omega
 ·rw [h];decide
 rw [Int.sign_eq_one_of_pos h];omega
theorem aUM {a:Int}:a.sign<0↔a<0:=by
 rcases Int.lt_trichotomy a 0 with h | h | h
 ·rw [Int.sign_eq_neg_one_of_neg h];omega
 ·rw [h];decide
 rw [Int.sign_eq_one_of_pos h];omega
theorem aYm {a:Int} (h:a.sign<0):a<0:=aUM.1 h
theorem aV4 {a:Int} (h:¬ a.sign<0):¬ a<0:=fun k=>h (aUM.2 k)
theorem bUv {x y:aRk} (h:¬ 0<(lQ y).sign):false=zK (x,y):=by
 have:¬ 0<lQ y:=fun k=>h (aT0.2 k)
 simp [zK,this]
theorem bT9 {x y:aRk} (h1:xB x=true) (h2:xB y=true) (h3:0<(lQ y).sign):decide ((((Int.gcd (lQ x) (lQ y):Nat):Int) - 1).sign=0)=zK (x,y):=by
 have h4:=aT0.1 h3
 have e:((((Int.gcd (lQ x) (lQ y):Nat):Int) - 1).sign=0)↔Int.gcd (lQ x) (lQ y)=1:=by
  rw [Int.sign_eq_zero_iff_zero];omega
 simp [zK,h1,h2,h4,e]
theorem aBJ {z:dA} {c d:C} {x y:Int} {q:Rat} (e1:x=q.num) (e2:y=(q.den:Int)) (h1:CZ 1 RW z c (toL x.natAbs)) (h2:CZ 1 RW z d (toL y.natAbs)):QV z (.agg [Cb (decide (x<0)),c,Cb (decide (y<0)),d]) q:=by
 subst e1
 subst e2
 exact ⟨c,d,rfl,h1,h2⟩
theorem bKT {z:dA} {c:C} {x:aWw} (hr:zK x=false) (h:CZ 1 RW z c (toL (1:Int).natAbs)):QV z (.agg [Cb false,Cz,Cb (decide ((1:Int)<0)),c]) (valR x):=by
 have e:valR x=0:=by simp [Num.valR,hr]
 rw [e]
 exact aBJ (x:=0) (y:=1) rfl rfl (by rw [show toL (0:Int).natAbs=[] from sY];exact .nil) h
theorem aX1 {z:dA} {n1 n2:Bool} {c1 c2:C} {l1 l2:List UInt32} (hr:zK ((n1,l1),(n2,l2))=true) (hx:CZ 1 RW z c1 l1) (hy:CZ 1 RW z c2 l2):QV z (.agg [Cb n1,c1,Cb n2,c2]) (valR ((n1,l1),(n2,l2))):=by
 obtain ⟨e1,e2⟩:=aAB hr
 obtain ⟨r1,r2,_⟩:=aHh hr
 obtain ⟨a1,a2⟩:=aXJ (n:=n1) (l:=l1) r1
 obtain ⟨b1,b2⟩:=aXJ (n:=n2) (l:=l2) r2
 have hq:=aBJ (c:=c1) (d:=c2) e1.symm e2.symm (by rw [← a2];exact hx) (by rw [← b2];exact hy)
 rwa [← a1,← b1] at hq
theorem bAV {a b g:Int} (hb:b≠0) (hg:g=if b<0 then -((Int.gcd a b:Nat):Int) else ((Int.gcd a b:Nat):Int)):a.fdiv g=(Rat.divInt a b).num∧b.fdiv g=((Rat.divInt a b).den:Int):=by
 have h:=aZs hb hg
 have d1:g ∣ a:=by rw [hg];split;exact Int.neg_dvd.2 (Int.gcd_dvd_left a b);exact Int.gcd_dvd_left a b
 have d2:g ∣ b:=by rw [hg];split;exact Int.neg_dvd.2 (Int.gcd_dvd_right a b);exact Int.gcd_dvd_right a b
 rw [Int.fdiv_eq_ediv_of_dvd d1,Int.fdiv_eq_ediv_of_dvd d2]
 exact ⟨congrArg Prod.fst h,congrArg Prod.snd h⟩
theorem aH5 {k:Nat} (hk:4≤k) {z:dA}  : FC (E k) 84 [] z fun v z'=>IV (zd z z') v 1:=by
 refine eA (bHO) (by omega) (aU O) fun B j hj=>?_
 refine xR ?_
 refine oH fun b0=>?_
 refine lN (xR ?_)
 refine lZ z (aYv (n:=1) (by omega) (by decide) (by decide)) O O fun v1 z1 _ hv1=>?_
 obtain ⟨c1,rfl,h1⟩:=hv1
 refine iI O O iW (lN (xT (rQ (.inl O) (Za O mem0 rn) ?_)))
 exact ⟨_,rfl,h1⟩
theorem aXy {k:Nat} (hk:8≤k) {z:dA} {n1 n2:Bool} {c1 c2:C} {l1 l2:List UInt32} (hx:CZ 1 RW z c1 l1) (hy:CZ 1 RW z c2 l2) (h1:l1.length≤20000000) (h2:l2.length≤20000000):FC (E k) 153 [.agg [Cb n1,c1,Cb n2,c2]] z fun v _=>v=Ab (zK ((n1,l1),(n2,l2))):=by
 have hla:=C5 (n:=n1) (l:=l1)
 have hlb:=C5 (n:=n2) (l:=l2)
 have hlg:=bJy (Nat.le_trans hla h1) (Nat.le_trans hlb h2)
 refine eA (bEz) (by omega) (aU O) fun B j hj=>?_
 refine xR ?_
 refine iU O fun b1=>?_
 refine R2 8 O (iP O mem0 O ?_)
 refine lE z (aBL (by omega) hx) O O fun z5 hz5=>?_
 refine lM O ?_
 refine nC 6 O (fun hg6=>?_) (fun hg6=>?_)
 ·refine lD O (lF O (lD O (iP O mem0 O (lD O ?_))))
  refine lE z5 (aBL (by omega) hy.m) O O fun z9 hz9=>?_
  refine R1 6 O ?_
  refine nC 11 O (fun hg11=>?_) (fun hg11=>?_)
  ·refine lD O (lF O (lD O (iP O mem0 O (lD O ?_))))
   refine lE z9 (Zv (by omega) hy.m) O O fun z14 hz14=>?_
   refine R1 12 O ?_
   refine fR 17 O (fun hg17=>?_) (fun hg17=>?_)
   ·refine lD O (lF O (lD O (iP O mem0 O (lD O (lF O (lD O (iP O mem0 O (lD O ?_))))))))
    refine lZ z14 (aU9 (by omega) hx.m hy.m h1 h2) O O fun v22 z22 hz22 hv22=>?_
    obtain ⟨c22,rfl,h22⟩:=hv22
    have h22:=h22.mono (qY (hz5.trans (hz9.trans hz14)))
    refine lD O ?_
    refine lZ z22 (aH5 (by omega)) O O fun v23 z23 _ hv23=>?_
    obtain ⟨c23,rfl,h23⟩:=hv23
    have h23:=h23.mono (qY (hz5.trans (hz9.trans (hz14.trans hz22))))
    refine lD O ?_
    refine lZ z23 (aDU (by omega) h22.m (h23.mono jF) hlg bOP) O O fun v24 z24 _ hv24=>?_
    rw [jI,jI] at hv24
    subst hv24
    refine R0 12 O (xT ?_)
    exact rI O (cQ (bT9 hg6 hg11 hg17))
   refine R0 1536 O (xT ?_)
   exact rI O (cQ (bUv hg17))
  refine R0 98336 O (xT ?_)
  exact rI O (cQ (bTH hg11))
 refine R0 3146768 O (xT ?_)
 exact rI O (cQ (bUz hg6))
theorem Cf {k:Nat} (hk:9≤k) {z:dA} {n1 n2:Bool} {c1 c2:C} {l1 l2:List UInt32} (hx:CZ 1 RW z c1 l1) (hy:CZ 1 RW z c2 l2) (h1:l1.length≤20000000) (h2:l2.length≤20000000):FC (E k) 86 [.agg [Cb n1,c1,Cb n2,c2]] z fun v z'=>∀ zz,CZ 1 RW zz c1 l1→CZ 1 RW zz c2 l2→zle (zd z z') zz→QV zz v (valR ((n1,l1),(n2,l2))):=by
 refine eA (bFm) (by omega) (aU O) fun B j hj=>?_
 refine xR ?_
 refine iU O fun b1=>?_
 refine uM fun b2=>?_
 refine lN (R4 4 O (sL O Y1 O ?_))
 refine lE z (aXy (by omega) hx hy h1 h2) O O fun z4 hz4=>?_
 refine R3 4 O ?_
 refine jB O (fun hc5=>?_) (fun hc5=>?_)
 ·refine R4 4 O (mN (cs:=[_,_]) O ?_)
  refine lZ z4 (aH5 (by omega)) O O fun v7 z7 _ hv7=>?_
  obtain ⟨c7,rfl,h7⟩:=hv7
  have h7:=h7.mono (qY (hz4))
  refine mN (cs:=[_,_,_,_]) O (pA O O iW (lN (jX (rQ (.inl O) (rc4 O mem0 rn) ?_))))
  exact fun zz _ _ hz=>bKT (by simpa using hc5) ((h7).mono hz)
 refine R4 4 O (sL O Y1 O (pA O O iW (lN (xT (rQ (.inl O) (rc4 O mem0 rn) ?_)))))
 exact fun zz hx hy _=>aX1 (by simpa using hc5) hx hy
theorem aES {k:Nat} (hk:8≤k) {z:dA} {a b:Int} {c1 c2:C} (hx:CZ 1 RW z c1 (toL a.natAbs)) (hy:CZ 1 RW z c2 (toL b.natAbs)) (h1:(toL a.natAbs).length≤20000000) (h2:(toL b.natAbs).length≤20000000) (hb:b≠0):FC (E k) 165 [.agg [Cb (decide (a<0)),c1],.agg [Cb (decide (b<0)),c2]] z fun v z'=>QV (zd z z') v (Rat.divInt a b):=by
 have hlg:=bJy h1 h2
 have hgn:((Int.gcd a b:Nat):Int)≠0:=by have:=Int.gcd_pos_of_ne_zero_right a hb;omega
 refine eA (bEn) (by omega) (aU O) fun B j hj=>?_
 refine xR ?_
 refine iU O fun b2=>?_
 refine iU O fun b3=>?_
 refine uM fun b4=>?_
 refine lN (xR (iP O Y2 O (iP O Y1 O ?_)))
 refine lZ z (aU9 (by omega) hx hy h1 h2) O O fun v14 z14 hz14 hv14=>?_
 rw [jI,jI] at hv14
 obtain ⟨c14,rfl,h14⟩:=hv14
 refine oH fun b5=>?_
 refine iI O O iW (lN (R4 4 O (iP O Y2 O ?_)))
 refine lZ z14 (Zv (by omega) hy.m) O O fun v16 z16 hz16 hv16=>?_
 rw [jI] at hv16
 subst hv16
 refine R3 4 O ?_
 refine xD O (fun hc17=>?_) (fun hc17=>?_)
 ·refine xR (iP O mem0 O ?_)
  refine lZ z16 (aUt (by omega) h14.m hlg) O O fun v19 z19 hz19 hv19=>?_
  rw [jI] at hv19
  obtain ⟨c19,rfl,h19⟩:=hv19
  have h19:=h19.mono (qY (hz14.trans hz16))
  refine iI O O iW (lN (xR (iP O Y3 O (iP O mem0 O ?_))))
  refine lZ z19 (M6 (by omega) hx.m (h19.mono jF) h1 (by first | exact hlg | (rw [Int.natAbs_neg];exact hlg)) (by rw [jI];omega)) O O fun v23 z23 hz23 hv23=>?_
  rw [jI,jI] at hv23
  obtain ⟨v1,v2,hv,hp23,hr23⟩:=hv23
  subst hv
  obtain ⟨c23,hv,h23⟩:=hp23
  subst hv
  obtain ⟨d23,hv,_⟩:=hr23
  subst hv
  have h23:=h23.mono (qY (hz14.trans (hz16.trans hz19)))
  refine R1 17 O ?_
  refine oH fun b6=>?_
  refine oH fun b7=>?_
  refine iI O O P1 (iI O O iW (R2 5 O (iP O Y4 O (iP O Y2 O ?_))))
  refine lZ z23 (M6 (by omega) hy.m h19.m h2 (by first | exact hlg | (rw [Int.natAbs_neg];exact hlg)) (by rw [jI];omega)) O O fun v30 z30 hz30 hv30=>?_
  rw [jI,jI] at hv30
  obtain ⟨v1,v2,hv,hp30,hr30⟩:=hv30
  subst hv
  obtain ⟨c30,hv,h30⟩:=hp30
  subst hv
  obtain ⟨d30,hv,_⟩:=hr30
  subst hv
  have h30:=h30.mono (qY (hz14.trans (hz16.trans (hz19.trans hz23))))
  refine R1 17 O ?_
  refine oH fun b9=>?_
  refine oH fun b10=>?_
  refine iI O O P1 (iI O O iW (R2 5 O (iP O Y3 O (iP O Y1 O (mN (cs:=[_,_,_,_]) O (pA O O (mR (mR P3)) (lN (xT (rQ (.inl O) (rc4 O (mC Y4) rn) ?_)))))))))
  have he:=bAV (a:=a) hb (if_pos (aYm hc17)).symm
  exact aBJ he.1 he.2 (h23.mono (jO zI)) h30
 refine R4 4 O (iP O Y3 O (iP O mem0 O ?_))
 refine lZ z16 (M6 (by omega) hx.m h14.m h1 (by first | exact hlg | (rw [Int.natAbs_neg];exact hlg)) (by rw [jI];omega)) O O fun v23 z23 hz23 hv23=>?_
 rw [jI,jI] at hv23
 obtain ⟨v1,v2,hv,hp23,hr23⟩:=hv23
 subst hv
 obtain ⟨c23,hv,h23⟩:=hp23
 subst hv
 obtain ⟨d23,hv,_⟩:=hr23
 subst hv
 have h23:=h23.mono (qY (hz14.trans hz16))
 refine R1 17 O ?_
 refine oH fun b6=>?_
 refine oH fun b7=>?_
 refine iI O O P1 (iI O O iW (R2 5 O (iP O Y4 O (iP O Y2 O ?_))))
 refine lZ z23 (M6 (by omega) hy.m h14.m h2 (by first | exact hlg | (rw [Int.natAbs_neg];exact hlg)) (by rw [jI];omega)) O O fun v30 z30 hz30 hv30=>?_
 rw [jI,jI] at hv30
 obtain ⟨v1,v2,hv,hp30,hr30⟩:=hv30
 subst hv
 obtain ⟨c30,hv,h30⟩:=hp30
 subst hv
 obtain ⟨d30,hv,_⟩:=hr30
 subst hv
 have h30:=h30.mono (qY (hz14.trans (hz16.trans hz23)))
 refine R1 17 O ?_
 refine oH fun b9=>?_
 refine oH fun b10=>?_
 refine iI O O P1 (iI O O iW (R2 5 O (iP O Y3 O (iP O Y1 O (mN (cs:=[_,_,_,_]) O (pA O O (mR (mR P3)) (lN (xT (rQ (.inl O) (rc4 O (mC Y4) rn) ?_)))))))))
 have he:=bAV (a:=a) hb (if_neg (aV4 hc17)).symm
 exact aBJ he.1 he.2 (h23.mono (jO zI)) h30
theorem aDM {k:Nat} (hk:5≤k) {z:dA} {n:Int} (h1 : -9223372036854775808≤n) (h2:n<9223372036854775808):FC (E k) 34 [Ai n] z fun v z'=>QV (zd z z') v (n:Rat):=by
 refine eA (bFH) (by omega) (aU O) fun B j hj=>?_
 refine xR ?_
 refine uM fun b2=>?_
 refine lN (R4 4 O ?_)
 refine lZ z (aYv (by omega) h1 h2) O O fun v4 z4 hz4 hv4=>?_
 obtain ⟨c4,rfl,h4⟩:=hv4
 refine lZ z4 (aH5 (by omega)) O O fun v5 z5 _ hv5=>?_
 obtain ⟨c5,rfl,h5⟩:=hv5
 have h5:=h5.mono (qY (hz4))
 refine mN (cs:=[_,_,_,_]) O (pA O O iW (lN (xT (rQ (.inl O) (rc4 O mem0 rn) ?_))))
 exact aBJ (Rat.num_intCast n).symm rfl (h4.mono (jO zI)) h5
open Go.CE Go.RowKit Go.Num
open Go.Eng (kN)
theorem yI {z:dA} {v:AV} {q:Rat} (h:QV z v q):∃ c d,v=.agg [Cb (decide (q.num<0)),c,Cb (decide ((q.den:Int)<0)),d]∧CZ 1 RW z c (toL q.num.natAbs)∧CZ 1 RW z d (toL (q.den:Int).natAbs):=h
theorem J7 {a b:Int} {k j:Nat} (h1:(toL a.natAbs).length≤k) (h2:(toL b.natAbs).length≤j):(toL (a * b).natAbs).length≤k+j:=by
 refine pG.2 ?_
 rw [Int.natAbs_mul,Nat.pow_add]
 exact Nat.mul_lt_mul'' (pG.1 h1) (pG.1 h2)
theorem aTe {a b:Int} {k:Nat} (h1:(toL a.natAbs).length≤k) (h2:(toL b.natAbs).length≤k):(toL (a+b).natAbs).length≤k+1:=by
 refine pG.2 ?_
 have h3:=pG.1 h1
 have h4:=pG.1 h2
 have h7:Num.W ^ k * 2≤Num.W ^ k * Num.W:=Nat.mul_le_mul_left _ (by decide)
 rw [Nat.pow_succ]
 generalize Num.W ^ k * Num.W=X at *
 generalize Num.W ^ k=Y at *
 omega
theorem Ov {x:aWw}:(toL (Num.valR x).num.natAbs).length≤x.1.2.length:=by
 cases h:zK x with
 | true=>rw [(aAB h).1];exact C5
 | false=>rw [show Num.valR x=0 by simp [Num.valR,h]];rw [show toL (0:Rat).num.natAbs=[] from sY];simp
theorem Ox {x:aWw}:(toL ((Num.valR x).den:Int).natAbs).length≤x.2.2.length+1:=by
 cases h:zK x with
 | true=>rw [(aAB h).2];exact Nat.le_succ_of_le C5
 | false =>
  rw [show Num.valR x=0 by simp [Num.valR,h]]
  exact Nat.le_trans (m:=1) (pG.2 (by decide)) (by omega)
theorem bDG (p:Rat):(p.den:Int)≠0:=by have:=p.den_nz;omega
theorem bKS (p q:Rat):(p.den:Int) * (q.den:Int)≠0:=Int.mul_ne_zero (bDG p) (bDG q)
theorem bH2 {p q:Rat}:Rat.divInt (p.num * (q.den:Int)+q.num * (p.den:Int)) ((p.den:Int) * (q.den:Int))=p+q:=by
 rw [← Rat.divInt_add_divInt _ _ (bDG p) (bDG q),Rat.num_divInt_den,Rat.num_divInt_den]
theorem bVh {p q:Rat} (h:((p.den:Int) - (q.den:Int)).sign=0):Rat.divInt (p.num+q.num) (p.den:Int)=p+q:=by
 have e:(q.den:Int)=(p.den:Int):=by rw [Int.sign_eq_zero_iff_zero] at h;omega
 rw [← bH2,e,← Int.add_mul,Rat.divInt_mul_right (bDG p)]
theorem bSc {p q:Rat} (h:(p.num - q.num).sign=0):decide (((p.den:Int) - (q.den:Int)).sign=0)=decide (p=q):=by
 rw [Int.sign_eq_zero_iff_zero] at h
 refine decide_eq_decide.2 ?_
 rw [Int.sign_eq_zero_iff_zero]
 exact ⟨fun k=>Rat.ext (by omega) (by omega),fun k=>by rw [k];omega⟩
theorem bR7 {p q:Rat} (h:¬ (p.num - q.num).sign=0):false=decide (p=q):=by
 refine (decide_eq_false fun k=>h ?_).symm
 rw [k,Int.sub_self]
 rfl
theorem aVN {k:Nat} (hk:10≤k) {z:dA} {n1 n2:Bool} {c1 c2:C} {l1 l2:List UInt32} (hx:CZ 1 RW z c1 l1) (hy:CZ 1 RW z c2 l2) (h1:l1.length≤9000000) (h2:l2.length≤9000000):FC (E k) 87 [.agg [Cb n1,c1,Cb n2,c2]] z fun v z'=>QV (zd z z') v (-(valR ((n1,l1),(n2,l2)))):=by
 have em1:=Nat.le_trans (Ov (x:=((n1,l1),(n2,l2)))) h1
 have en1:=Nat.le_trans (Ox (x:=((n1,l1),(n2,l2)))) (Nat.succ_le_succ h2)
 have om1:=Nat.le_trans em1 (show 9000000≤20000000 by decide)
 have on1:=Nat.le_trans en1 (show 9000000+1≤20000000 by decide)
 refine eA (bIy) (by omega) (aU O) fun B j hj=>?_
 refine xR ?_
 refine iU O fun b1=>?_
 refine uM fun b2=>?_
 refine lN (xR (sL O Y1 O ?_))
 refine lZ z (Cf (by omega) hx hy (Nat.le_trans h1 (show 9000000≤20000000 by decide)) (Nat.le_trans h2 (show 9000000≤20000000 by decide))) O O fun v4 z4 hz4 hv4=>?_
 have hw4:=yI (hv4 _ hx.m hy.m jF)
 obtain ⟨c4,d4,hv,hm4,hn4⟩:=hw4
 subst hv
 refine pA O O P1 (lN (iN (G1 2 O (Ou O O (.inr Y1) O ?_))))
 refine gC z4 (aUt (by omega) hm4 om1) O O O O fun v7 z7 hz7 hv7=>?_
 rw [jI] at hv7
 obtain ⟨c7,hv,h7⟩:=hv7
 subst hv
 have h7:=h7.mono (qY (hz4))
 refine G1 2 O (Ou O O (.inr Y1) O ?_)
 refine gC z7 (bBF (by omega) hn4.m on1) O O O O fun v10 z10 _ hv10=>?_
 rw [jI] at hv10
 obtain ⟨c10,hv,h10⟩:=hv10
 subst hv
 have h10:=h10.mono (qY (hz4.trans hz7))
 refine gP O O F ?_
 refine mN (cs:=[_,_,_,_]) O (lN ?_)
 refine gS O O O (pA O O iW (lN (mL (xT (rQ (.inl O) (rc4 O mem0 rn) ?_)))))
 exact aBJ (Rat.neg_num _).symm (by rw [Rat.neg_den];rfl) (h7.mono (jO zI)) h10
theorem aUR {k:Nat} (hk:9≤k) {z:dA} {p q:Rat} {c1 c2 c3 c4:C} (hx:CZ 1 RW z c1 (toL p.num.natAbs)) (hy:CZ 1 RW z c2 (toL (p.den:Int).natAbs)) (hu:CZ 1 RW z c3 (toL q.num.natAbs)) (hw:CZ 1 RW z c4 (toL (q.den:Int).natAbs)) (h1:(toL p.num.natAbs).length≤9000001) (h2:(toL (p.den:Int).natAbs).length≤9000001) (h3:(toL q.num.natAbs).length≤9000001) (h4:(toL (q.den:Int).natAbs).length≤9000001):FC (E k) 85 [.agg [Cb (decide (p.num<0)),c1,Cb (decide ((p.den:Int)<0)),c2],.agg [Cb (decide (q.num<0)),c3,Cb (decide ((q.den:Int)<0)),c4]] z fun v z'=>QV (zd z z') v (p+q):=by
 have o1:=Nat.le_trans h1 (show 9000001≤20000000 by decide)
 have o2:=Nat.le_trans h2 (show 9000001≤20000000 by decide)
 have o3:=Nat.le_trans h3 (show 9000001≤20000000 by decide)
 have o4:=Nat.le_trans h4 (show 9000001≤20000000 by decide)
 have m1:=J7 h1 h4
 have m2:=J7 h3 h2
 have m3:=Nat.le_trans (J7 h2 h4) (show 9000001+9000001≤20000000 by decide)
 have m4:=Nat.le_trans (aTe m1 m2) (show 9000001+9000001+1≤20000000 by decide)
 have m5:=Nat.le_trans (aTe h1 h3) (show 9000001+1≤20000000 by decide)
 have m1:=Nat.le_trans m1 (show 9000001+9000001≤20000000 by decide)
 have m2:=Nat.le_trans m2 (show 9000001+9000001≤20000000 by decide)
 have d0:=bKS p q
 have d1:=bDG p
 refine eA (bFM) (by omega) (aU O) fun B j hj=>?_
 refine xR ?_
 refine iU O fun b2=>?_
 refine iU O fun b3=>?_
 refine uM fun b4=>?_
 refine lN (R4 8 O (iP O Y2 O (lF O (iP O Y1 O ?_))))
 refine lZ z (aDU (by omega) hy hw o2 o4) O O fun v9 z9 hz9 hv9=>?_
 rw [jI,jI] at hv9
 subst hv9
 refine R3 4 O ?_
 refine xD O (fun hc10=>?_) (fun hc10=>?_)
 ·refine Xb (iN (G1 2 O (Ou O O (.inr Y2) O (G1 2 O (Ou O O (.inr Y1) O ?_)))))
  refine gC z9 (aUV (by omega) hx.m hu.m o1 o3) O O O O fun v15 z15 hz15 hv15=>?_
  rw [jI,jI] at hv15
  obtain ⟨c15,hv,h15⟩:=hv15
  subst hv
  have h15:=h15.mono (qY (hz9))
  refine G1 2 O (Ou O O (.inr Y2) O ?_)
  refine gC z15 (aES (by omega) (h15.mono jF) hy.m m5 o2 d1) O O O O fun v18 z18 _ hv18=>?_
  rw [bVh hc10] at hv18
  obtain ⟨c18,d18,hv,hm18,hn18⟩:=hv18
  subst hv
  have hm18:=hm18.mono (qY (hz9.trans hz15))
  have hn18:=hn18.mono (qY (hz9.trans hz15))
  refine gS O O O (pA O O iW (lN (mL (jX (rQ (.inl O) (rc4 O mem0 rn) ?_)))))
  exact ⟨_,_,rfl,hm18,hn18⟩
 refine cP (iN (G1 2 O (Ou O O (.inr Y2) O (G1 2 O (Ou O O (.inr Y1) O ?_)))))
 refine gC z9 (aKP (by omega) hx.m hw.m o1 o4) O O O O fun v23 z23 hz23 hv23=>?_
 rw [jI,jI] at hv23
 obtain ⟨c23,hv,h23⟩:=hv23
 subst hv
 have h23:=h23.mono (qY (hz9))
 refine G1 2 O (Ou O O (.inr Y1) O (G1 2 O (Ou O O (.inr Y2) O ?_)))
 refine gC z23 (aKP (by omega) hu.m hy.m o3 o2) O O O O fun v28 z28 hz28 hv28=>?_
 rw [jI,jI] at hv28
 obtain ⟨c28,hv,h28⟩:=hv28
 subst hv
 have h28:=h28.mono (qY (hz9.trans hz23))
 refine gC z28 (aUV (by omega) h23.m (h28.mono jF) m1 m2) O O O O fun v29 z29 hz29 hv29=>?_
 rw [jI,jI] at hv29
 obtain ⟨c29,hv,h29⟩:=hv29
 subst hv
 have h29:=h29.mono (qY (hz9.trans (hz23.trans hz28)))
 refine G1 2 O (Ou O O (.inr Y2) O (G1 2 O (Ou O O (.inr Y1) O ?_)))
 refine gC z29 (aKP (by omega) hy.m hw.m o2 o4) O O O O fun v34 z34 hz34 hv34=>?_
 rw [jI,jI] at hv34
 obtain ⟨c34,hv,h34⟩:=hv34
 subst hv
 have h34:=h34.mono (qY (hz9.trans (hz23.trans (hz28.trans hz29))))
 refine gC z34 (aES (by omega) h29.m (h34.mono jF) m4 m3 d0) O O O O fun v35 z35 _ hv35=>?_
 rw [bH2] at hv35
 obtain ⟨c35,d35,hv,hm35,hn35⟩:=hv35
 subst hv
 have hm35:=hm35.mono (qY (hz9.trans (hz23.trans (hz28.trans (hz29.trans hz34)))))
 have hn35:=hn35.mono (qY (hz9.trans (hz23.trans (hz28.trans (hz29.trans hz34)))))
 refine gS O O O (pA O O iW (lN (mL (xT (rQ (.inl O) (rc4 O mem0 rn) ?_)))))
 exact ⟨_,_,rfl,hm35,hn35⟩
end Go.Proofs.YtlceligcgelbdaaGreat
