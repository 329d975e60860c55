/- Naturals in limbs of 32 bits, walked. -/
import Derived.WalkKit
import Derived.Orders
import Derived.Test.YtcnpoojdochapaaGreatDoorRB2
import Derived.Test.YtcnpoojdochapaaGreatDoorRC2
set_option linter.unusedVariables false
set_option linter.unusedSimpArgs false
set_option maxRecDepth 100000
set_option maxHeartbeats 1000000
namespace Go.Proofs.YtcnpoojdochapaaGreatDoor
open Go.CE Go.RowKit Go.Num
open Go.Eng (oH)
theorem pK {k:Nat} (hk:1≤k) {z:dE} {v:AV} {l:List UInt32} (hx:SZ 1 RW z v l):FC (E k) 220 [v] z fun v' _=>∀ zz,SZ 1 RW zz v l→SZ 1 RW zz v' (toL (val l)):=by
 have hxl:=hx.le
 refine cX (bA8) (by omega) (aU O) fun B j hj=>?_
 refine R5 4 O ?_
 refine aT (aQ ?_)
 refine eA (fun n fs=>∃ (v':AV) (m:Nat),LI z [] [(0,v')] fs∧n=m∧(m≤l.length)∧(val (l.take m)=val l)∧(∀ zz,SZ 1 RW zz v l→SZ 1 RW zz v' (l.take m))) ?_ _ ⟨v,l.length,LI.m [] O,rfl,Nat.le_refl _,by rw [List.take_length],fun zz h=>by rw [List.take_length];exact h⟩ (kK (by omega))
 intro n fs ⟨v',m,hL0,hmz0,hm,hv,ht⟩
 refine hL0.open fun e zl0 hzl0=>?_
 refine R4 12 O (Tv O (ht _ (hx.mono (hzl0))) (mS hm) (R1 4 O ?_))
 refine iW 6 O (fun hg6=>?_) (fun hg6=>?_)
 ·refine R1 7 O (lD O (Tv O (ht _ (hx.mono (hzl0))) (mS hm) (lD O (lB O O (Dx (n:=m - 1) (by omega) (by omega)) (lD O ?_)))))
  refine rS O O (ht _ (hx.mono (hzl0))) (m - 1) (O) (by rw [mS hm];omega) fun p11 hp11=>?_
  refine lD O (wF O hp11 (R3 8 O ?_))
  refine xD O (fun hc14=>?_) (fun hc14=>?_)
  ·refine dA (aQ (xG (R1 7 O (Tv O (ht _ (hx.mono (hzl0))) (mS hm) (lB O O (Dx (n:=m - 1) (by omega) (by omega)) ?_)))))
   refine aS6 (i:=0) (j:=m - 1) O (ht _ (hx.mono (hzl0))) O ⟨_,O⟩ (by omega) (by rw [mS hm];omega) ?_
   refine R0 3 O ?_
   exact lQ (by omega) ⟨aVL v' 0 (m - 1),m - 1,LI.m [] O,rfl,by omega,(bCO (by omega) hm (by omega)).trans hv,fun zz h=>by have:=(ht zz h).sub (i:=0) (j:=m - 1) (by omega) (by rw [mS hm];omega);rwa [List.drop_zero,List.take_take,Nat.min_eq_left (by omega)] at this⟩
  refine dK (nQ (dN (R5 14 O (xT (rI O ?_)))))
  intro zz h
  rw [← aUN hm hv (.inr (by omega))]
  exact ht zz h
 refine R3 1024 O (dK (nQ (dN (R5 14 O (xT (rI O ?_))))))
 intro zz h
 rw [← aUN hm hv (.inl (by omega))]
 exact ht zz h
theorem aCl {k:Nat} (hk:1≤k) {z:dE} {v:AV} {l:List UInt32} (hx:SZ 1 RW z v l) (hl:l.length≤10000000000):FC (E k) 156 [v] z fun v' z'=>SZ 1 RW (zd z z') v' l:=FCt.clone (aWO aUw hk hx (by omega)) (fun h=>h) (by omega)
theorem Ff {k:Nat} (hk:2≤k) {z:dE} {v:AV} {l:List UInt32} (hx:SZ 1 RW z v l) (hl:l.length≤10000000000):FC (E k) 172 [v] z fun v' z'=>SZ 1 RW (zd z z') v' (toL (val l)):=by
 refine cX (bB6) (by omega) (aU O) fun B j hj=>?_
 refine R4 24 O ?_
 refine lZ z (pK (by omega) hx) O O fun v4 z4 hz4 ht4=>?_
 have hs4:=ht4 _ (hx.mono (hz4))
 have hq4:=zT (l:=l)
 refine lZ z4 (aCl (by omega) hs4 (by omega)) O O fun v5 z5 _ hr5=>?_
 have hr5:=hr5.mono (zA (hz4))
 refine R0 3 O (xT ?_)
 exact rI O hr5
theorem aWQ {k:Nat} (hk:1≤k) {z:dE} {a:Int}:FC (E k) 244 [Ai a] z fun v _=>v=Ab false:=by
 refine cX (bAF) (by omega) (aU O) fun B j hj=>?_
 refine R5 128 O (xT (rI O ?_))
 show AV.c (C.v (Value.bool (!decide (a=a))))=_
 simp
theorem aU2 {k:Nat} (hk:1≤k) {z:dE} {a:Int}:FC (E k) 245 [Ad a] z fun v _=>v=Ab false:=by
 refine cX (bC9) (by omega) (aU O) fun B j hj=>?_
 refine R5 128 O (xT (rI O ?_))
 show AV.c (C.v (Value.bool (!decide (a=a))))=_
 simp
theorem aZa {k:Nat} (hk:2≤k) {z:dE} {a b:Nat}:FC (E k) 234 [Ai (a:Nat),Ai (b:Nat)] z fun v _=>v=Ai (Nv a b):=by
 refine cX (bA9) (by omega) (aU O) fun B j hj=>?_
 refine R4 16 O ?_
 refine lE z (aWQ (by omega)) O O fun z8 _=>?_
 refine R2 9 O ?_
 refine lE z8 (aWQ (by omega)) O O fun z10 _=>?_
 refine R3 524809 O ?_
 refine xD O (fun hc16=>?_) (fun hc16=>?_)
 ·refine R5 8 O (mN (rI O ?_))
  rw [Nv,if_pos (by omega)]
  rfl
 refine R5 128 O ?_
 refine xD O (fun hc19=>?_) (fun hc19=>?_)
 ·refine R5 8 O (mN (rI O ?_))
  rw [Nv,if_neg (by omega),if_pos (by omega)]
  rfl
 refine R5 8 O (xT (rI O ?_))
 rw [Nv,if_neg (by omega),if_neg (by omega)]
 rfl
theorem aXo {k:Nat} (hk:2≤k) {z:dE} {a b:Nat}:FC (E k) 235 [Ad (a:Nat),Ad (b:Nat)] z fun v _=>v=Ai (Nv a b):=by
 refine cX (bBZ) (by omega) (aU O) fun B j hj=>?_
 refine R4 16 O ?_
 refine lE z (aU2 (by omega)) O O fun z8 _=>?_
 refine R2 9 O ?_
 refine lE z8 (aU2 (by omega)) O O fun z10 _=>?_
 refine R3 524809 O ?_
 refine xD O (fun hc16=>?_) (fun hc16=>?_)
 ·refine R5 8 O (mN (rI O ?_))
  rw [Nv,if_pos (by omega)]
  rfl
 refine R5 128 O ?_
 refine xD O (fun hc19=>?_) (fun hc19=>?_)
 ·refine R5 8 O (mN (rI O ?_))
  rw [Nv,if_neg (by omega),if_pos (by omega)]
  rfl
 refine R5 8 O (xT (rI O ?_))
 rw [Nv,if_neg (by omega),if_neg (by omega)]
 rfl
theorem aH1 {k:Nat} (hk:3≤k) {z:dE} {u v:AV} {a b:List UInt32} (hx:SZ 1 RW z u a) (hy:SZ 1 RW z v b):FC (E k) 213 [u,v] z fun v _=>v=Ai (Nv (val a) (val b)):=by
 refine cX (bCD) (by omega) (aU O) fun B j hj=>?_
 refine R4 24 O ?_
 refine lZ z (pK (by omega) hx) O O fun v7 z7 hz7 ht7=>?_
 have hs7:=ht7 _ (hx.mono (hz7))
 have hl7:=hs7.le
 refine lM O ?_
 refine lZ z7 (pK (by omega) hy.m) O O fun v9 z9 hz9 ht9=>?_
 have hs9:=ht9 _ (hy.mono (hz7.trans hz9))
 refine R2 51 O (aS O hs7 (lM O (aS O hs9 (R3 4 O ?_))))
 refine uG O (fun hc14=>?_) (fun hc14=>?_)
 ·refine R4 12 O (aS O hs7 (lM O (aS O hs9 ?_)))
  refine lZ z9 (aZa (by omega)) O O fun v19 z19 _ hv19=>?_
  refine R0 3 O (mN ?_)
  exact rI O (hv19.trans (by rw [bJK (by omega)]))
 refine R4 24 O (aS O hs7 (lB O O (zH (r:=(((toL (val a)).length:Nat):Int) - 1) (wR (by omega))) (R0 2 O ?_)))
 refine aT (aQ ?_)
 refine eA (fun n fs=>∃ (i:Nat),LI z9 [] [(0,v7),(1,v9),(5,Ai ((i:Int) - 1))] fs∧n=i∧(i≤(toL (val a)).length)∧(∀ j,i≤j→mU (toL (val a)) j=mU (toL (val b)) j)) ?_ _ ⟨(toL (val a)).length,LI.m [] O,rfl,Nat.le_refl _,fun j hj=>by rw [aJe hj,aJe (by omega)]⟩ (kK (by omega))
 intro n fs ⟨i,hL0,hmz0,hi,he⟩
 refine hL0.open fun e zl0 _=>?_
 refine R5 32 O ?_
 refine xD O (fun hc24=>?_) (fun hc24=>?_)
 ·refine dA ?_
  refine aT (aQ ?_)
  refine gX (G1 5 O (gP O O F ?_))
  refine rS (zz:=zl0) O O hs7.m (i - 1) (by omega) (by omega) fun p29 hp29=>lN ?_
  refine glP O O hp29 ti (G1 5 O (gP O O F ?_))
  refine rS (zz:=zl0) O O hs9.m (i - 1) (by omega) (by omega) fun p33 hp33=>lN ?_
  refine glP O O hp33 ti (G0 2 O ?_)
  refine uG O (fun hc35=>?_) (fun hc35=>?_)
  ·refine gX (G1 5 O (gP O O F ?_))
   refine rS (zz:=zl0) O O hs7.m (i - 1) (by omega) (by omega) fun p38 hp38=>lN ?_
   refine glP O O hp38 ti (G1 5 O (gP O O F ?_))
   refine rS (zz:=zl0) O O hs9.m (i - 1) (by omega) (by omega) fun p42 hp42=>lN ?_
   refine glP O O hp42 ti ?_
   refine gC zl0 (aXo (by omega)) O O O O fun v44 z44 _ hv44=>?_
   refine G0 3 O (xT (lS (B8 (lS (rI O (hv44.trans ?_))))))
   rw [bK6 (by omega) (by omega) (fun j hj=>he j (by omega)) (by omega),gI,gI]
  refine iF (dN (xG (lC O ?_)))
  refine lB O O (zH (r:=((i - 1:Nat):Int) - 1) (by rw [wR ⟨by omega,by omega⟩];omega)) ?_
  refine R0 2 O ?_
  exact lQ (by omega) ⟨i - 1,LI.m [] O,rfl,by omega,bEY (by omega) he (by omega)⟩
 refine dK (nQ (dN (R5 4 O (xT (rI O ?_)))))
 have e:toL (val a)=toL (val b):=aZy (by omega) fun j=>he j (by omega)
 have e2:val a=val b:=by rw [← gI (val a),e,gI]
 rw [e2,Nv,if_neg (by omega),if_neg (by omega)]
 rfl
theorem aDN {k:Nat} (hk:1≤k) {z:dE} {a b c:Nat} (ha:a<4294967296) (hb:b<4294967296) (hc:c≤1):FC (E k) 219 [Ad ((a:Nat):Int),Ad ((b:Nat):Int),Ad ((c:Nat):Int)] z fun v _=>∃ lo co:Nat,v=.tup [Ad (lo:Nat),Ad (co:Nat)]∧lo+4294967296 * co=a+b+c∧lo<4294967296∧co≤1:=by
 refine cX (bB3) (by omega) (aU O) fun B j hj=>?_
 refine R4 32 O (mB O (wQ (O) (by omega)) (lC O (mB O (wQ (O) (by omega)) (lB O O (aKK (n:=a+b) (by omega) (by omega)) (lC O (mB O (wQ (O) (by omega)) (lB O O (aKK (n:=a+b+c) (by omega) (by omega)) (R2 8 O (mB O (wDm _) (R2 8 O (lB O O (aN9 (n:=(a+b+c) / 4294967296) (by decide) (O)) (mB O (wD (O) (by omega)) (R0 2 O (xT (rQ (.inl O) (rt O (rt O rn)) ?_)))))))))))))))
 exact ⟨_,_,rfl,by omega,by omega,by omega⟩
theorem aVr {k:Nat} (hk:1≤k) {z:dE} {a b:Nat} (ha:a<4294967296) (hb:b<4294967296):FC (E k) 248 [Ad ((a:Nat):Int),Ad ((b:Nat):Int)] z fun v _=>∃ hi lo:Nat,v=.tup [Ad (hi:Nat),Ad (lo:Nat)]∧lo+4294967296 * hi=a * b∧lo<4294967296∧hi<4294967296:=by
 have hab:a * b≤4294967295 * 4294967295:=Nat.mul_le_mul (by omega) (by omega)
 refine cX (bBu) (by omega) (aU O) fun B j hj=>?_
 refine R4 32 O (mB O (wQ (O) (by omega)) (lC O (mB O (wQ (O) (by omega)) (lB O O (aVT (n:=a * b) ((Int.natCast_mul a b).symm) (by omega)) (R2 8 O (lB O O (aN9 (n:=(a * b) / 4294967296) (by decide) (O)) (mB O (wD (O) (by omega)) (lC O (mB O (wDm _) (R0 4 O (xT (rQ (.inl O) (rt O (rt O rn)) ?_))))))))))))
 exact ⟨_,_,rfl,by omega,by omega,by omega⟩
theorem aVs {k:Nat} (hk:1≤k) {z:dE} {hi lo y:Nat} (hh:hi<y) (hl:lo<4294967296) (hy:y<4294967296):FC (E k) 236 [Ad ((hi:Nat):Int),Ad ((lo:Nat):Int),Ad ((y:Nat):Int)] z fun v _=>∃ q r:Nat,v=.tup [Ad (q:Nat),Ad (r:Nat)]∧q * y+r=4294967296 * hi+lo∧r<y∧q<4294967296:=by
 have h1:=bHm hh hl
 have h2:=Nat.mod_lt (4294967296 * hi+lo) (show 0<y by omega)
 have h3:=Nat.div_add_mod' (4294967296 * hi+lo) y
 refine cX (bCe) (by omega) (aU O) fun B j hj=>?_
 refine R4 256 O ?_
 refine qZ 11 O (fun hg11=>?_) (fun hg11=>?_)
 ·refine R3 32 O ?_
  refine xD O (fun hc15=>?_) (fun hc15=>?_)
  ·omega
  refine R4 8 O (mB O (wQ (O) (by omega)) (lB O O (aTD (n:=4294967296 * hi) (by omega) (by omega)) (lC O (mB O (wQ (O) (by omega)) (lB O O (bFT (n:=4294967296 * hi+lo) (by omega) (by omega) (aTq hl)) (R0 2 O (gX (G1 4 O (gP O O F ?_)))))))))
  refine mB O (wQ (O) (by omega)) (lN ?_)
  refine gP O O F ?_
  refine lB O O (bEg (by omega) (O) (by omega)) (lN ?_)
  refine gP O O F ?_
  refine mB O (wD (O) (by omega)) (lN ?_)
  refine G1 4 O (gP O O F ?_)
  refine mB O (wQ (O) (by omega)) (lN ?_)
  refine gP O O F ?_
  refine lB O O (bGe (by omega) (O)) (lN ?_)
  refine gP O O F ?_
  refine mB O (wD (O) (by omega)) (lN ?_)
  refine G0 4 O (xT (rQ (.inl O) (rt O (rt O rn)) ?_))
  exact ⟨_,_,rfl,h3,h2,h1⟩
 omega
theorem aWb {k:Nat} (hk:1≤k) {z:dE} {a b c:Nat} (ha:a<4294967296) (hb:b<4294967296) (hc:c≤1):FC (E k) 221 [Ad ((a:Nat):Int),Ad ((b:Nat):Int),Ad ((c:Nat):Int)] z fun v _=>∃ lo co:Nat,v=.tup [Ad (lo:Nat),Ad (co:Nat)]∧lo+b+c=a+4294967296 * co∧lo<4294967296∧co≤1:=by
 refine cX (bBz) (by omega) (aU O) fun B j hj=>?_
 refine R4 64 O ?_
 refine lB O O (zH (r:=((a+4294967296 - b) % 4294967296:Nat)) (by rw [bH0];omega)) ?_
 refine lC O ?_
 refine lB O O (zH (r:=((a+8589934592 - b - c) % 4294967296:Nat)) (by rw [bH0];omega)) ?_
 refine R2 8 O (aNN O (bHk (by omega) O) (lC O (lB O O (bGF (by omega) (by omega) (O)) (R1 4 O (lB O O (bNd (by omega) (by omega) (O)) (aNN O (bHk (Nat.xor_lt_two_pow (n:=32) ha hb) O) (lC O (lB O O (bGF (by omega) (by omega) (O)) (lB O O (bRY (Nat.and_lt_two_pow (n:=32) _ hb) (Nat.and_lt_two_pow (n:=32) _ (by omega)) (O)) (lB O O (aN9 (by decide) (O)) (R0 2 O (xT (rQ (.inl O) (rt O (rt O rn)) ?_)))))))))))))
 have h:=aYF ha hb hc
 refine ⟨_,_,O,?_,by omega,?_⟩
 ·rw [h];split<;>omega
 rw [h];split<;>omega
theorem aV6 {k:Nat} (hk:1≤k) {z:dE} {x:Nat} (hx:x<4294967296):FC (E k) 237 [Ad ((x:Nat):Int)] z fun v _=>∃ n:Nat,v=Ai (n:Nat)∧n≤32∧x<2 ^ n∧(0<x→2 ^ (n - 1)≤x∧0<n):=by
 refine cX (bBL) (by omega) (aU O) fun B j hj=>?_
 refine R5 64 O ?_
 refine I7 (fun fs=>∃ (y:Nat) (n:Nat),LI z [] [(0,Ad ((y:Nat):Int)),(2,Az n)] fs∧(Bl x y n 16)) ?_ fun fs hJ=>?_
 ·refine xD O (fun hc4=>?_) (fun hc4=>?_)
  ·refine R4 4 O (lB O O (aN9 (by decide) (O)) (R0 2 O (xG (R0 2 O ?_))))
   exact dN ⟨x / 65536,16,LI.m [] O,bVS hx (by omega)⟩
  refine iF ?_
  exact dN ⟨x,0,LI.m [] O,bU7 (by omega)⟩
 obtain ⟨y,n,hJ4,hb4⟩:=hJ
 refine hJ4.open fun e zj4 _=>?_
 refine R5 16 O ?_
 refine I7 (fun fs=>∃ (y':Nat) (n':Nat),LI zj4 [] [(0,Ad ((y':Nat):Int)),(2,Az n')] fs∧(Bl x y' n' 8)) ?_ fun fs hJ=>?_
 ·refine xD O (fun hc8=>?_) (fun hc8=>?_)
  ·refine R4 4 O (lB O O (aN9 (by decide) (O)) (R0 2 O (xG (lC O ?_))))
   refine lB O O (eP (n:=n+8) (by omega) (by have:=hb4.1;omega)) ?_
   refine R0 2 O ?_
   exact dN ⟨y / 256,n+8,LI.m [] O,bXB hb4 (by omega)⟩
  refine iF ?_
  exact dN ⟨y,n,LI.m [] O,bWz hb4 (by omega)⟩
 obtain ⟨y',n',hJ8,hb8⟩:=hJ
 refine hJ8.open fun e zj8 _=>?_
 refine R4 8 O ?_
 refine mB O ((wu8 ⟨by omega,by have:=hb8.2.1;omega⟩)) ?_
 refine bII O O (y') (O) (by have:=hb8.2.1;show _<256;omega) ?_
 refine mB O (wI (O) (Nat.lt_trans (UInt8.toNat_lt _) (by decide))) ?_
 refine lB O O (eP (n:=n'+(Go.Eng.bget aOf y').toNat) ((Int.natCast_add _ _).symm) (by have:=UInt8.toNat_lt (Go.Eng.bget aOf y');have:=hb8.1;omega)) ?_
 refine R0 2 O (xT ?_)
 exact rI O (bV7 hb8)
theorem aTA {k:Nat} (hk:2≤k) {z:dE} {u v:AV} {a0 b0:List UInt32} (hx:SZ 1 RW z u a0) (hy:SZ 1 RW z v b0) (hla:a0.length≤1000000000) (hlb:b0.length≤1000000000):FC (E k) 169 [u,v] z fun v z'=>SZ 1 RW (zd z z') v (toL (val a0+val b0)):=by
 refine cX (bA2) (by omega) (aU O) fun B j hj=>?_
 refine R4 48 O (aS O hx (lM O (aS O hy (R0 2 O ?_))))
 refine I7 (fun fs=>∃ (p:AV) (q:AV) (a:List UInt32) (b:List UInt32),LI z [] [(0,p),(1,q)] fs∧(SZ 1 RW z p a)∧(SZ 1 RW z q b)∧(b.length≤a.length)∧(a.length≤1000000000)∧(val a+val b=val a0+val b0)) ?_ fun fs hJ=>?_
 ·refine xD O (fun hc13=>?_) (fun hc13=>?_)
  ·refine xG (R0 31 O ?_)
   exact dN ⟨v,u,b0,a0,LI.m [] O,hy,hx,by omega,hlb,Nat.add_comm _ _⟩
  refine iF ?_
  exact dN ⟨u,v,a0,b0,LI.m [] O,hx,hy,by omega,hla,rfl⟩
 obtain ⟨p,q,a,b,hJ13,hp,hq,hba,hal,hs⟩:=hJ
 refine hJ13.open fun e zj13 _=>?_
 refine R4 6 O (aS O hp (lB O O (eP (n:=a.length+1) (by omega) (by omega)) ?_))
 refine aTM (n:=a.length+1) O O (O) (by omega) (by omega) fun b19=>?_
 refine R2 96 O (aS O hp (R0 2 O ?_))
 refine aT (aQ ?_)
 refine eA (fun n fs=>∃ (i:Nat) (o:List UInt32) (cy:Nat),LI zj13 [Ib eW b19 221 o] [(0,p),(1,q),(5,Aw b19 (a.length+1)),(6,Ad ((cy:Nat):Int)),(21,Az a.length),(22,Az i)] fs∧n=a.length - i∧(i≤a.length)∧(o.length=a.length+1)∧(cy≤1)∧(val (o.take i)+Num.W ^ i * cy=val (a.take i)+val (b.take i))) ?_ _ ⟨0,_,0,LI.m [] O,rfl,Nat.zero_le _,by simp,by omega,by simp [val]⟩ (kK (by omega))
 intro n fs ⟨i,o,cy,hL0,hmz0,hi,hol,hcy,hv⟩
 refine hL0.open fun e zl0 _=>?_
 refine R5 8 O ?_
 refine xD O (fun hc23=>?_) (fun hc23=>?_)
 ·refine dA ?_
  refine aT (aQ ?_)
  refine R4 768 O (aS O hq (R0 2 O ?_))
  refine I7 (fun fs=>LI zl0 [Ib eW b19 221 o] [(0,p),(1,q),(5,Aw b19 (a.length+1)),(6,Ad ((cy:Nat):Int)),(7,Az i),(8,Ad ((mU b i:Nat):Int)),(21,Az a.length),(22,Az i)] fs) ?_ fun fs hJ=>?_
  ·refine xD O (fun hc28=>?_) (fun hc28=>?_)
   ·refine xG (R1 5 O ?_)
    refine rS (zz:=zl0) O O hq.m (i) (O) (by omega) fun p31 hp31=>?_
    refine wF O hp31 (R0 2 O ?_)
    exact dN (LI.m [] O)
   refine iF ?_
   rw [show mU b i=0 from aJe (by omega)]
   exact dN (LI.m [] O)
  have hJ28:=hJ
  refine hJ28.open fun e zj28 _=>?_
  refine xG (R1 20 O ?_)
  refine rS (zz:=zj28) O O hp.m (i) (O) (by omega) fun p38 hp38=>?_
  refine wF O hp38 (R1 4 O ?_)
  refine lZ zj28 (aDN (by omega) (qG a i) (qG b i) hcy) O O fun v42 z42 _ ⟨lo,co,hv42,hk1,hk2,hk3⟩=>?_
  subst hv42
  refine R1 9 O (uM O O (i) (O) (by omega) (F8 (i) (lo) O O iP (O) (by omega) (by omega) (by omega) (R0 3 O (dN (xG (lB O O (eP (n:=i+1) (by omega) (by omega)) (R0 2 O ?_)))))))
  exact lQ (by omega) ⟨i+1,_,co,LI.m [] O,rfl,by omega,by simp [hol],hk3,bK8 (by omega) hk2 hv hk1⟩
 refine dK (nQ (dN (R4 12 O (aS O hp (lC O (uM O O (a.length) (O) (by omega) (F8 (a.length) (cy) O O iP (O) (by omega) (by omega) (by omega) (lN (R4 4 O ?_)))))))))
 refine Bo (n:=a.length+1) z zl0 (p:=[]) O O zI (by rw [List.length_set];omega) (by omega) fun zf52 _ hf52=>?_
 refine lZ zf52 (pK (by omega) (hf52.mono gU)) O O fun v53 z53 hz53 ht53=>?_
 refine R0 3 O (xT (rI O ?_))
 have hr:=ht53 _ (hf52.mono (mX (hz53)))
 rwa [aXr hol (by show _<4294967296;omega),show val (o.take a.length)+Num.W ^ a.length * cy=val a0+val b0 by rw [show i=a.length by omega] at hv;rw [hv,oD (Nat.le_refl _),oD hba];exact hs] at hr
theorem aTo {k:Nat} (hk:1≤k) {z:dE} {v:AV} {l:List UInt32} (hx:SZ 1 RW z v l) (hl:l.length≤10000000000):FCt (E k) 156 [v] z [] fun v' _ H'=>H'=[It eW v' 221 l]:=(aWO aUw hk hx (by omega)).mono fun v' z' H' _ ⟨cs,h1,h2,_⟩=>by rw [h1,bL9 h2]
theorem aJ6 {k:Nat} (hk:4≤k) {z:dE} {u v:AV} {a b:List UInt32} (hx:SZ 1 RW z u a) (hy:SZ 1 RW z v b) (hla:a.length≤1000000000) (hlb:b.length≤1000000000):FC (E k) 170 [u,v] z fun v z'=>(val a<val b→v=.tup [C4,Ai 2])∧(val b≤val a→∃ v',v=.tup [v',Ai 0]∧SZ 1 RW (zd z z') v' (toL (val a - val b))):=by
 have hqa:=zT (l:=a)
 have hqb:=zT (l:=b)
 refine cX (bCX) (by omega) (aU O) fun B j hj=>?_
 refine R4 48 O ?_
 refine lZ z (pK (by omega) hx) O O fun v11 z11 hz11 ht11=>?_
 have hs11:=ht11 _ (hx.mono (hz11))
 refine lM O ?_
 refine lZ z11 (pK (by omega) hy.m) O O fun v13 z13 hz13 ht13=>?_
 have hs13:=ht13 _ (hy.mono (hz11.trans hz13))
 refine R2 115 O ?_
 refine lZ z13 (aH1 (by omega) hs11.m hs13) O O fun v16 z16 _ hv16=>?_
 rw [gI,gI] at hv16
 subst hv16
 refine R3 4 O ?_
 refine xD O (fun hc17=>?_) (fun hc17=>?_)
 ·refine R5 16 O (mN (rQ (.inl O) (rt O (rt O rn)) ?_))
  rw [aAl] at hc17
  exact ⟨fun _=>rfl,fun h=>absurd h (by omega)⟩
 refine R4 12 O ?_
 refine Dq z16 [] (aTo (by omega) hs11.m (by omega)) O O O fun v19 z19 H19 _ hH19=>?_
 subst hH19
 refine R2 97 O (aVj O mem0 (R0 2 O ?_))
 refine aT (aQ ?_)
 refine eA (fun n fs=>∃ (i:Nat) (o:List UInt32) (cy:Nat),LI z19 [It eW v19 221 o] [(1,v13),(6,v19),(7,Ad ((cy:Nat):Int)),(21,Az ((toL (val a)).length)),(22,Az i)] fs∧n=(toL (val a)).length - i∧(i≤(toL (val a)).length)∧(o.length=(toL (val a)).length)∧(cy≤1)∧(o.drop i=(toL (val a)).drop i)∧(val (o.take i)+val ((toL (val b)).take i)=val ((toL (val a)).take i)+Num.W ^ i * cy)) ?_ _ ⟨0,_,0,LI.m [] O,rfl,Nat.zero_le _,rfl,by omega,rfl,by simp [val]⟩ (kK (by omega))
 intro n fs ⟨i,o,cy,hL0,hmz0,hi,hol,hcy,hdr,hv⟩
 refine hL0.open fun e zl0 _=>?_
 refine R5 8 O ?_
 refine xD O (fun hc23=>?_) (fun hc23=>?_)
 ·refine dA ?_
  refine aT (aQ ?_)
  refine R4 768 O (aS O hs13 (R0 2 O ?_))
  refine I7 (fun fs=>LI zl0 [It eW v19 221 o] [(1,v13),(6,v19),(7,Ad ((cy:Nat):Int)),(8,Az i),(9,Ad ((mU (toL (val b)) i:Nat):Int)),(21,Az ((toL (val a)).length)),(22,Az i)] fs) ?_ fun fs hJ=>?_
  ·refine xD O (fun hc28=>?_) (fun hc28=>?_)
   ·refine xG (R1 5 O ?_)
    refine rS (zz:=zl0) O O hs13.m (i) (O) (by omega) fun p31 hp31=>?_
    refine wF O hp31 (R0 2 O ?_)
    exact dN (LI.m [] O)
   refine iF ?_
   rw [show mU (toL (val b)) i=0 from aJe (by omega)]
   exact dN (LI.m [] O)
  have hJ28:=hJ
  refine hJ28.open fun e zj28 _=>?_
  refine xG ?_
  refine aWc (p:=[]) O (by omega) fun bbr hbr=>?_
  cases hbr
  refine R1 21 O (uM O O (i) (O) (by omega) (aMd (i) O mem0 (by omega) (by omega) (R1 4 O ?_)))
  refine lZ zj28 (aWb (by omega) (qG o i) (qG _ i) hcy) O O fun v42 z42 _ ⟨lo,co,hv42,hk1,hk2,hk3⟩=>?_
  subst hv42
  refine R1 9 O (uM O O (i) (O) (by omega) (F8 (i) (lo) O O iP (O) (by omega) (by omega) (by omega) ?_))
  refine aP2 (p:=[]) O (by rw [List.length_set]) ?_
  refine R0 3 O (dN (xG (lB O O (eP (n:=i+1) (by omega) (by omega)) (R0 2 O ?_))))
  have hd:=aNf hdr (Nat.le_refl i)
  exact lQ (by omega) ⟨i+1,_,co,LI.m [] O,rfl,by omega,by rw [List.length_set];exact hol,hk3,by rw [aNg (by omega),aU4 hdr],bLq (by omega) hk2 hv (by rw [← hd];exact hk1)⟩
 refine dK (nQ (dN (R4 6 O ?_)))
 refine Fq z zl0 (p:=[]) O O zI (by omega) fun zf47 _ hf47=>?_
 refine lZ zf47 (pK (by omega) (hf47.mono gU)) O O fun v48 z48 hz48 ht48=>?_
 refine R0 5 O (xT (rQ (.inl O) (rt O (rt O rn)) ?_))
 rw [aAl] at hc17
 refine ⟨fun h=>absurd h hc17,fun _=>⟨_,rfl,?_⟩⟩
 have hr:=ht48 _ (hf47.mono (mX (hz48)))
 have hw:=aJo o
 rw [show i=(toL (val a)).length by omega,oD (by omega),oD (Nat.le_refl _),oD (by have:=D1 (show val b≤val a by omega);omega),gI,gI] at hv
 have e:val o=val a - val b:=bF8 (by omega) hcy (by rw [← hol];exact hw) hv
 rwa [e] at hr
theorem aSV {k:Nat} (hk:2≤k) {z:dE} {v:AV} {a:List UInt32} {m:Nat} (hx:SZ 1 RW z v a) (hm:m<4294967296) (hla:a.length≤1000000000):FC (E k) 247 [v,Ad ((m:Nat):Int)] z fun v z'=>SZ 1 RW (zd z z') v (toL (val a * m)):=by
 refine cX (bCY) (by omega) (aU O) fun B j hj=>?_
 refine R4 24 O (aS O hx (lB O O (eP (n:=a.length+1) (by omega) (by omega)) ?_))
 refine aTM (n:=a.length+1) O O (O) (by omega) (by omega) fun b16=>?_
 refine R2 96 O (aS O hx (R0 2 O ?_))
 refine aT (aQ ?_)
 refine eA (fun n fs=>∃ (i:Nat) (o:List UInt32) (cy:Nat),LI z [Ib eW b16 221 o] [(0,v),(1,Ad ((m:Nat):Int)),(5,Aw b16 (a.length+1)),(6,Ad ((cy:Nat):Int)),(17,v),(18,Az a.length),(19,Az i)] fs∧n=a.length - i∧(i≤a.length)∧(o.length=a.length+1)∧(cy<4294967296)∧(val (o.take i)+Num.W ^ i * cy=val (a.take i) * m)) ?_ _ ⟨0,_,0,LI.m [] O,rfl,Nat.zero_le _,by simp,by omega,by simp [val]⟩ (kK (by omega))
 intro n fs ⟨i,o,cy,hL0,hmz0,hi,hol,hcy,hv⟩
 refine hL0.open fun e zl0 _=>?_
 refine R5 8 O ?_
 refine xD O (fun hc20=>?_) (fun hc20=>?_)
 ·refine dA ?_
  refine aT (aQ ?_)
  refine R4 4 O ?_
  refine rS (zz:=zl0) O O hx.m (i) (O) (by omega) fun p22 hp22=>?_
  refine wF O hp22 (R2 32 O ?_)
  refine lZ zl0 (aVr (by omega) (qG a i) hm) O O fun v27 z27 _ ⟨hi1,lo,hv27,hk1,hk2,hk3⟩=>?_
  subst hv27
  refine R2 345 O ?_
  refine lZ z27 (aDN (c:=0) (by omega) hk2 hcy (by omega)) O O fun v33 z33 _ ⟨s,mo,hv33,hk4,hk5,hk6⟩=>?_
  subst hv33
  obtain ⟨hh1,hh2⟩:=bPR (qG a i) hm hcy hk1 (by rw [hk4];rfl)
  refine R0 57 O (xG (R1 60 O (lB O O (bFP (n:=hi1+mo) (by omega) (by omega)) (uM O O (i) (O) (by omega) (F8 (i) (s) O O iP (O) (by omega) (by omega) (by omega) (R0 2 O (dN (xG (lB O O (eP (n:=i+1) (by omega) (by omega)) (R0 2 O ?_))))))))))
  exact lQ (by omega) ⟨i+1,_,hi1+mo,LI.m [] O,rfl,by omega,by simp [hol],hh2,bKa (by omega) hk5 hv hh1⟩
 refine dK (nQ (dN (R4 12 O (aS O hx (lC O (uM O O (a.length) (O) (by omega) (F8 (a.length) (cy) O O iP (O) (by omega) (by omega) (by omega) (lN (R4 4 O ?_)))))))))
 refine Bo (n:=a.length+1) z zl0 (p:=[]) O O zI (by rw [List.length_set];omega) (by omega) fun zf49 _ hf49=>?_
 refine lZ zf49 (pK (by omega) (hf49.mono gU)) O O fun v50 z50 hz50 ht50=>?_
 refine R0 3 O (xT (rI O ?_))
 have hr:=ht50 _ (hf49.mono (mX (hz50)))
 rw [show i=a.length by omega,oD (Nat.le_refl _)] at hv
 rwa [aXr hol hcy,hv] at hr
theorem aEd {k:Nat} (hk:2≤k) {z:dE} {v:AV} {a:List UInt32} {d:Nat} (hx:SZ 1 RW z v a) (hd:d<4294967296) (hla:a.length≤1000000000):FC (E k) 214 [v,Ad ((d:Nat):Int)] z fun v z'=>(d=0→v=.tup [C4,Ad 0,Ai 20])∧(0<d→∃ v',v=.tup [v',Ad ((val a % d:Nat):Int),Ai 0]∧SZ 1 RW (zd z z') v' (toL (val a / d))):=by
 refine cX (bA1) (by omega) (aU O) fun B j hj=>?_
 refine R5 512 O ?_
 refine xD O (fun hc9=>?_) (fun hc9=>?_)
 ·refine R5 32 O (mN (rQ (.inl O) (rt O (rt O (rt O rn))) ?_))
  exact ⟨fun _=>rfl,fun h=>absurd h (by omega)⟩
 refine R4 12 O ?_
 refine Dq z [] (aTo (by omega) hx (by omega)) O O O fun v11 z11 H11 _ hH11=>?_
 subst hH11
 refine R2 25 O (aVj O mem0 (lB O O (zH (r:=((a.length:Nat):Int) - 1) (wR (by omega))) (R0 2 O ?_)))
 refine aT (aQ ?_)
 refine eA (fun n fs=>∃ (i:Nat) (o:List UInt32) (r:Nat),LI z11 [It eW v11 221 o] [(1,Ad ((d:Nat):Int)),(4,v11),(5,Ad ((r:Nat):Int)),(7,Ai ((i:Int) - 1))] fs∧n=i∧(i≤a.length)∧(o.length=a.length)∧(r<d)∧(o.take i=a.take i)∧(val (a.drop i)=val (o.drop i) * d+r)) ?_ _ ⟨a.length,_,0,LI.m [] O,rfl,Nat.le_refl _,rfl,by omega,rfl,by simp [val]⟩ (kK (by omega))
 intro n fs ⟨i,o,r,hL0,hmz0,hi,hol,hr,htk,hv⟩
 refine hL0.open fun e zl0 _=>?_
 refine R5 32 O ?_
 refine xD O (fun hc16=>?_) (fun hc16=>?_)
 ·refine dA ?_
  refine aT (aQ ?_)
  refine xG ?_
  refine aWc (p:=[]) O (by omega) fun bbr hbr=>?_
  cases hbr
  refine R1 41 O (uM O O (i - 1) (by omega) (by omega) (aMd (i - 1) O mem0 (by omega) (by omega) (lC O ?_)))
  refine lZ zl0 (aVs (by omega) hr (qG o (i - 1)) hd) O O fun v28 z28 _ ⟨q1,r1,hv28,hk1,hk2,hk3⟩=>?_
  subst hv28
  refine R1 9 O (uM O O (i - 1) (by omega) (by omega) (F8 (i - 1) (q1) O O iP (O) (by omega) (by omega) (by omega) ?_))
  refine aP2 (p:=[]) O (by rw [List.length_set]) ?_
  refine R0 3 O (dN (xG (lC O ?_)))
  refine lB O O (zH (r:=((i - 1:Nat):Int) - 1) (by rw [wR ⟨by omega,by omega⟩];omega)) ?_
  refine R0 2 O ?_
  have hdg:mU o (i - 1)=mU a (i - 1):=by rw [← aTv (l:=o) (m:=i) (by omega),htk,aTv (by omega)]
  rw [hdg] at hk1
  exact lQ (by omega) ⟨i - 1,_,r1,LI.m [] O,rfl,by omega,by rw [List.length_set];exact hol,hk2,by rw [List.take_set_of_le (Nat.le_refl _)];exact bBn htk,bJV (by omega) (by omega) hk3 hv (by omega) hk1⟩
 refine dK (nQ (dN (R4 6 O ?_)))
 refine Fq z zl0 (p:=[]) O O zI (by omega) fun zf32 _ hf32=>?_
 refine lZ zf32 (pK (by omega) (hf32.mono gU)) O O fun v33 z33 hz33 ht33=>?_
 refine R0 18 O (xT (rQ (.inl O) (rt O (rt O (rt O rn))) ?_))
 refine ⟨fun h=>absurd h (by omega),fun _=>?_⟩
 rw [show i=0 by omega,List.drop_zero,List.drop_zero] at hv
 obtain ⟨e1,e2⟩:=aWr hr hv
 refine ⟨_,by rw [e2];rfl,?_⟩
 have h:=ht33 _ (hf32.mono (mX (hz33)))
 rwa [← e1] at h
open Go.CE Go.RowKit Go.Num
open Go.Eng (oH)
theorem aEj {k:Nat} (hk:2≤k) {z:dE} {x:Nat} (hx:x<4294967296):FC (E k) 215 [Ad ((x:Nat):Int)] z fun v _=>∃ n:Nat,v=Ai (n:Nat)∧n≤32∧x * 2 ^ n<4294967296∧(0<x→2147483648≤x * 2 ^ n∧n≤31):=by
 refine cX (bA0) (by omega) (aU O) fun B j hj=>?_
 refine R4 16 O ?_
 refine lZ z (aV6 (by omega) hx) O O fun v4 z4 _ ⟨m,hv4,hm1,hm2,hm3⟩=>?_
 subst hv4
 refine lB O O (Dx (n:=32 - m) (by omega) (by omega)) (R0 2 O (xT ?_))
 exact rI O ⟨_,rfl,bT9 hm1 hm2 hm3⟩
theorem aW7 {k:Nat} (hk:3≤k) {z:dE} {v:AV} {m n:Nat} (hx:SZ 1 RW z v (toL m)) (hn:n≤31) (hl:(toL m).length≤1000000000):FC (E k) 239 [v,Az n] z fun v' z'=>SZ 1 RW z' v' (toL (m * 2 ^ n)):=by
 have hp:2 ^ n<4294967296:=Nat.lt_of_le_of_lt (Nat.pow_le_pow_right (by decide) hn) (by decide)
 refine cX (bAq) (by omega) (aU O) fun B j hj=>?_
 refine R5 128 O ?_
 refine xD O (fun hc6=>?_) (fun hc6=>?_)
 ·refine R5 28 O (mN (rI O ?_))
  rw [show n=0 by omega,Nat.pow_zero,Nat.mul_one]
  exact hx
 refine R4 20 O (lB O O (aZS (n:=2 ^ n) hn O) ?_)
 refine lZ z (aSV (by omega) hx hp hl) O O fun v11 z11 _ hr11=>?_
 refine R0 3 O (xT (rI O ?_))
 rw [gI] at hr11
 exact (hr11.mono gU)
theorem aVB {k:Nat} (hk:3≤k) {z:dE} {v:AV} {m n:Nat} (hx:SZ 1 RW z v (toL m)) (hn:n≤31) (hl:(toL m).length≤1000000000):FC (E k) 240 [v,Az n] z fun v' z'=>SZ 1 RW z' v' (toL (m / 2 ^ n)):=by
 have hp:2 ^ n<4294967296:=Nat.lt_of_le_of_lt (Nat.pow_le_pow_right (by decide) hn) (by decide)
 have hp0:0<2 ^ n:=Nat.pow_pos (by decide)
 refine cX (bA4) (by omega) (aU O) fun B j hj=>?_
 refine R5 128 O ?_
 refine xD O (fun hc9=>?_) (fun hc9=>?_)
 ·refine R5 28 O (mN (rI O ?_))
  rw [show n=0 by omega,Nat.pow_zero,Nat.div_one]
  exact hx
 refine R4 20 O (lB O O (aZS (n:=2 ^ n) hn O) ?_)
 refine lZ z (aEd (by omega) hx hp hl) O O fun v15 z15 _ ⟨_,hv15⟩=>?_
 obtain ⟨w,rfl,hr15⟩:=hv15 hp0
 refine R3 1905 O (xT (rI O ?_))
 rw [gI] at hr15
 exact (hr15.mono gU)
theorem aYE {k:Nat} (hk:2≤k) {z:dE} {v:AV} {ls:List (List UInt32)} (hx:SZ 1 RLs z v ls) (ht:aGK ls≤10000000000) (hp:0<aGK ls):FCt (E k) 238 [v] z [] fun v' _ H'=>H'=[It eW v' 221 ls.flatten]:=by
 have hxl:=hx.le
 refine aQo (bB7) (by omega) (aU O) fun B j hj=>?_
 refine R4 192 O (aS O hx (R0 2 O ?_))
 refine aT (aQ ?_)
 refine eA (fun n fs=>∃ (i:Nat),LI z [] [(0,v),(3,Az (aGK (ls.take i))),(9,v),(10,Az ls.length),(11,Az i)] fs∧n=ls.length - i∧(i≤ls.length)) ?_ _ ⟨0,LI.m [] O,rfl,Nat.zero_le _⟩ (kK (by omega))
 intro n fs ⟨i,hL0,hmz0,hi⟩
 refine hL0.open fun e zl0 _=>?_
 refine R5 8 O ?_
 refine xD O (fun hc12=>?_) (fun hc12=>?_)
 ·refine dA ?_
  refine aT (aQ ?_)
  refine xR ?_
  refine dH (zz:=zl0) O O hx.m i O _ (List.getElem?_eq_getElem (by omega)) fun b13 p13 cs13 at13 hR13=>?_
  obtain ⟨e13,rfl,hc13⟩:=hR13
  refine Z0 O at13 (R2 16 O (aS O hc13 ?_))
  refine lB O O (eP (n:=aGK (ls.take (i+1))) (by rw [aPd (by omega)];omega) (by have:=aVi (ls:=ls) (i+1);omega)) ?_
  refine R3 16 O ?_
  refine xD O (fun hc20=>?_) (fun hc20=>?_)
  ·omega
  refine iF (dN (xG (lB O O (eP (n:=i+1) (by omega) (by omega)) (R0 2 O ?_))))
  exact lQ (by omega) ⟨i+1,LI.m [] O,rfl,by omega⟩
 refine dK (nQ (dN (R4 4 O ?_)))
 have hil:aGK (ls.take i)=aGK ls:=by rw [show i=ls.length by omega,List.take_length]
 refine Dq zl0 [] (bJq bLD (by omega) (n:=aGK (ls.take i)) (by omega) (by omega)) O O O fun v24 z24 H24 _ hH24=>?_
 subst hH24
 refine R2 25 O (aS O hx (R0 2 O ?_))
 refine aT (aQ ?_)
 refine eA (fun n fs=>∃ (i:Nat) (u:AV),LI z24 [It eW u 221 (ls.take i).flatten] [(6,u),(25,v),(26,Az ls.length),(27,Az i)] fs∧n=ls.length - i∧(i≤ls.length)) ?_ _ ⟨0,_,LI.m [] O,rfl,Nat.zero_le _⟩ (kK (by omega))
 intro n fs ⟨i,u,hL1,hmz1,hi2⟩
 refine hL1.open fun e zl1 _=>?_
 refine R5 8 O ?_
 refine xD O (fun hc28=>?_) (fun hc28=>?_)
 ·refine dA ?_
  refine aT (aQ ?_)
  refine xR ?_
  refine dH (zz:=zl1) O O hx.m i O _ (List.getElem?_eq_getElem (by omega)) fun b29 p29 cs29 at29 hR29=>?_
  obtain ⟨e29,rfl,hc29⟩:=hR29
  refine Z0 O at29 (R0 2 O (xG (R1 5 O ?_)))
  refine aVU O O hc29 (fun _=>iP) (by rw [aXn,← aPd (by omega)];have:=aVi (ls:=ls) (i+1);omega) (by rw [aXn,← aPd (by omega)];have:=aVi (ls:=ls) (i+1);omega) fun c33 hc33=>?_
  refine R0 2 O (dN (xG (lB O O (eP (n:=i+1) (by omega) (by omega)) (R0 2 O ?_))))
  exact lQ (by omega) ⟨i+1,_,(by rw [bCC (by omega)];exact LI.m [] O),rfl,by omega⟩
 refine dK (nQ (dN (R5 14 O (xT (aSM (.inl O) (rt O rn) (List.Sublist.refl _) ?_)))))
 rw [show i=ls.length by omega,List.take_length]
 rfl
theorem aDH {k:Nat} (hk:4≤k) {z:dE} {v:AV} {a:List UInt32} {n:Nat} (hx:SZ 1 RW z v a) (hn:n≤31) (hla:a.length≤100000000):FCt (E k) 216 [v,Az n] z [] fun v' _ H'=>∃ u,v'=.tup [u,Ai 0]∧H'=[It eW u 221 (toL (val a * 2 ^ n))]:=by
 have hxl:=hx.le
 refine aQo (aUq) (by omega) (aU O) fun B j hj=>?_
 refine R4 48 O ?_
 refine lZ z (pK (by omega) hx) O O fun v7 z7 hz7 ht7=>?_
 have hs7:=ht7 _ (hx.mono (hz7))
 have hq7:=zT (l:=a)
 refine R0 3 O ?_
 refine aT (aQ ?_)
 refine R4 6 O (aS O hs7 (R0 4 O ?_))
 refine xD O (fun hc8=>?_) (fun hc8=>?_)
 ·refine R5 8 O (bJJ 221 1 (xT (lS (aSM (.inl O) (rt O (rt O rn)) (List.Sublist.refl _) ?_))))
  rw [show val a=0 from aE8 (by omega),Nat.zero_mul,uO]
  exact ⟨_,rfl,rfl⟩
 refine R5 16 O ?_
 refine xD O (fun hc12=>?_) (fun hc12=>?_)
 ·omega
 refine R4 8 O ?_
 have hva:0<val a:=aKd (by omega)
 refine R0 2 O ?_
 refine xD O (fun hc15=>?_) (fun hc15=>?_)
 ·refine gX (G1 2 O (gP O O F ?_))
  refine lB O O (bHv (b:=32) (n:=0) (by omega) (by omega) (by omega)) (lN ?_)
  refine qT (k:=.cells 221 []) (w:=fun b=>Aw b 0) rfl F rfl (fun _=>rfl) (fun st hst=>by simp only [eE,AS.ev,hst 19 (by simp [jM.sl,Od.sls,Od.sl])];rfl) (fun b20 hT20=>?_)
  refine G1 5 O (gP O O F ?_)
  refine lB O O (bIg (b:=32) (n:=n) (by omega) (by omega)) (lN ?_)
  refine bA6 z7 (i:=⟨_,_,.call _ _⟩) (aW7 (by omega) hs7 hn (by omega)) O O F O O O O ti fun v24 z24 _ hr24=>?_
  obtain ⟨c24,hc24,hcc24⟩:=hr24.one
  subst hc24
  refine qT (k:=.cells 22 [.sl b20 0 0 1,c24]) (w:=fun b=>Aw b 2) rfl F rfl (fun _=>rfl) (fun st hst=>?_) (fun b25 hT25=>?_)
  ·simp only [eE,uZ,AS.ev,hst 20 (by simp [jM.sl,Od.sls,Od.sl]),hst 24 (by simp [jM.sl,Od.sls,Od.sl])];rfl
  refine zW z24 (p:=[]) O O O (fun _ h=>h) fun zfg25 _ g25=>?_
  refine zW zfg25 (p:=[]) O O O (fun _ h=>h) fun zfg20 _ g20=>?_
  have hrow:SZ 1 RLs zfg20 (Aw b25 2) [[],toL (val a * 2 ^ n)]:=bVG g20 hr24.m (zI _ _ g25)
  refine bB1 zfg20 (i:=⟨_,_,.call _ _⟩) (aYE (by omega) hrow (by rw [bL2];have:=aZQ (m:=val a) hn;omega) (by rw [bL2];exact aS0 (Nat.mul_pos (by omega) (Nat.pow_pos (by decide))))) O O F O O O O fun v26 z26 H26 _ hH26=>?_
  subst hH26
  refine G0 5 O (xT (lS (aSM (.inl O) (rt O (rt O rn)) (List.Sublist.refl _) ?_)))
  refine ⟨_,O,?_⟩
  rw [show ([[],toL (val a * 2 ^ n)]:List (List UInt32)).flatten=toL (val a * 2 ^ n) by simp]
  rfl
 omega
theorem aUm {k:Nat} (hk:4≤k) {z:dE} {v:AV} {a:List UInt32} {n:Nat} (hx:SZ 1 RW z v a) (hn:n≤31) (hn0:0<n) (hla:a.length≤100000000):FC (E k) 216 [v,Ai (-(n:Nat):Int)] z fun v' z'=>∃ u,v'=.tup [u,Ai 0]∧SZ 1 RW (zd z z') u (toL (val a / 2 ^ n)):=by
 have hxl:=hx.le
 refine cX (aUq) (by omega) (aU O) fun B j hj=>?_
 refine R4 48 O ?_
 refine lZ z (pK (by omega) hx) O O fun v7 z7 hz7 ht7=>?_
 have hs7:=ht7 _ (hx.mono (hz7))
 have hq7:=zT (l:=a)
 refine R0 3 O ?_
 refine aT (aQ ?_)
 refine R4 6 O (aS O hs7 (R0 4 O ?_))
 refine xD O (fun hc8=>?_) (fun hc8=>?_)
 ·refine R5 8 O (xT (lS (rQ (.inl O) (rt O (rt O rn)) ?_)))
  refine ⟨_,O,?_⟩
  rw [show val a=0 from aE8 (by omega),Nat.zero_div,uO]
  exact .nil
 refine R5 16 O ?_
 refine xD O (fun hc12=>?_) (fun hc12=>?_)
 ·omega
 refine R5 16 O ?_
 refine xD O (fun hc15=>?_) (fun hc15=>?_)
 ·omega
 refine R4 12 O (aS O hs7 (lB O O (aYV (r := -32 * (((toL (val a)).length:Nat):Int)) (wR (by omega))) (R0 4 O ?_)))
 refine xD O (fun hc27=>?_) (fun hc27=>?_)
 ·omega
 refine iF (dN (R4 4 O ?_))
 refine aNN O (aYi (r:=((n:Nat):Int)) (by rw [wR ⟨by omega,by omega⟩];omega)) ?_
 refine R2 20 O (lB O O (bHv (b:=32) (n:=0) (by omega) (by omega) (by omega)) ?_)
 refine aS6 (i:=0) (j:=(toL (val a)).length) O hs7 ⟨_,O⟩ O (by omega) (by omega) ?_
 refine lC O (lB O O (bIg (b:=32) (n:=n) (by omega) (by omega)) ?_)
 have hsub:=(hs7).sub (i:=0) (j:=(toL (val a)).length) (by omega) (by omega)
 rw [List.take_length,List.drop_zero] at hsub
 refine lZ z7 (aVB (by omega) hsub (by omega) (by omega)) O O fun v41 z41 hz41 hr41=>?_
 refine lZ z41 (pK (by omega) hr41) O O fun v42 z42 hz42 ht42=>?_
 have hs42:=ht42 _ (hr41.mono (hz42))
 refine lZ z42 (aCl (by omega) hs42 (by have:=zT (l:=toL (val a / 2 ^ n));have:=D1 (Nat.div_le_self (val a) (2 ^ n));omega)) O O fun v43 z43 _ hk43=>?_
 have hk43:=hk43.mono (zA (hz7.trans (hz41.trans hz42)))
 refine R0 5 O (xT (rQ (.inl O) (rt O (rt O rn)) ?_))
 refine ⟨_,O,?_⟩
 rw [gI] at hk43
 exact hk43
open Go.CE Go.RowKit Go.Num
open Go.Eng (oH)
theorem bCf {k:Nat} (hk:3≤k) {z:dE} {u v:AV} {a b:List UInt32} (hx:SZ 1 RW z u a) (hy:SZ 1 RW z v b) (hla:a.length≤1000000000) (hlb:b.length≤1000000000):FC (E k) 173 [u,v] z fun v z'=>SZ 1 RW (zd z z') v (toL (val a * val b)):=by
 refine cX (bBv) (by omega) (aU O) fun B j hj=>?_
 refine R4 24 O (aS O hx (lM O (aS O hy (lB O O (eP (n:=a.length+b.length) (by omega) (by omega)) ?_))))
 refine aTM (n:=a.length+b.length) O O (O) (by omega) (by omega) fun b17=>?_
 refine R2 24 O (aS O hx (R0 2 O ?_))
 refine aT (aQ ?_)
 refine eA (fun n fs=>∃ (i:Nat) (o:List UInt32),LI z [Ib eW b17 221 o] [(0,u),(1,v),(5,Aw b17 (a.length+b.length)),(18,u),(19,Az a.length),(20,Az i)] fs∧n=a.length - i∧(i≤a.length)∧(o.length=a.length+b.length)∧(val (o.take (i+b.length))=val (a.take i) * val b)) ?_ _ ⟨0,_,LI.m [] O,rfl,Nat.zero_le _,by simp,by simp [val,bKV]⟩ (kK (by omega))
 intro n fs ⟨i,o,hL0,hmz0,hi,hol,hv⟩
 refine hL0.open fun e zl0 hzl0=>?_
 refine R5 8 O ?_
 refine xD O (fun hc21=>?_) (fun hc21=>?_)
 ·refine dA ?_
  refine aT (aQ ?_)
  refine R4 4 O ?_
  refine rS (zz:=zl0) O O hx.m (i) (O) (by omega) fun p23 hp23=>?_
  refine wF O hp23 (R2 192 O (aS O hy (R0 2 O ?_)))
  refine aT (aQ ?_)
  refine eA (fun n fs=>∃ (k:Nat) (o2:List UInt32) (cy:Nat),LI zl0 [Ib eW b17 221 o2] [(0,u),(1,v),(5,Aw b17 (a.length+b.length)),(6,Az i),(7,Ad ((mU a i:Nat):Int)),(8,.c (.v (.int .u64 ((cy:Nat):Int)))),(18,u),(19,Az a.length),(20,Az i),(25,v),(26,Az b.length),(27,Az k)] fs∧n=b.length - k∧(k≤b.length)∧(o2.length=a.length+b.length)∧(cy<4294967296)∧(o2.drop (i+k)=o.drop (i+k))∧(val (o2.take (i+k))+Num.W ^ (i+k) * cy=val (o.take (i+k))+Num.W ^ i * (mU a i * val (b.take k)))) ?_ _ ⟨0,_,0,LI.m [] O,rfl,Nat.zero_le _,hol,by omega,rfl,by simp [val]⟩ (kK (by omega))
  intro n fs ⟨k,o2,cy,hL1,hmz1,hk2,hol2,hcy,hdr,hv2⟩
  refine hL1.open fun e zl1 _=>?_
  refine R5 8 O ?_
  refine xD O (fun hc28=>?_) (fun hc28=>?_)
  ·refine dA ?_
   refine aT (aQ ?_)
   refine R4 4 O ?_
   refine rS (zz:=zl1) O O hy.m (k) (O) (by omega) fun p30 hp30=>?_
   refine wF O hp30 (R2 8 O ?_)
   have hdb:mU b k<4294967296:=qG b k
   obtain ⟨hf1,hf2⟩:=bJB (qG a i) hdb (qG o2 (i+k)) hcy
   refine lC O ?_
   refine mB O (wQ (O) (by have:mU a i<4294967296:=qG a i;omega)) ?_
   refine lC O (mB O (wQ (O) (by omega)) (lB O O (aVT (n:=mU a i * mU b k) ((Int.natCast_mul _ _).symm) (by omega)) (R1 8 O (lB O O (eP (n:=i+k) (by omega) (by omega)) (uM O O (i+k) (O) (by omega) (aMd (i+k) O mem0 (by omega) (by omega) ?_))))))
   refine mB O (wQ (O) (by have:mU o2 (i+k)<4294967296:=qG o2 (i+k);omega)) ?_
   refine lB O O (aKK (n:=mU a i * mU b k+mU o2 (i+k)) (by omega) (by omega)) (lC O (lB O O (aKK (n:=mU a i * mU b k+mU o2 (i+k)+cy) (by omega) (by omega)) (R0 2 O (xG (R1 8 O (lB O O (eP (n:=i+k) (by omega) (by omega)) (lC O (mB O (wDm _) (lC O (lB O O (aN9 (n:=(mU a i * mU b k+mU o2 (i+k)+cy) / 4294967296) (by decide) (O)) (uM O O (i+k) (O) (by omega) (F8 (i+k) ((mU a i * mU b k+mU o2 (i+k)+cy) % 4294967296) O O iP (O) (by omega) (by omega) (by omega) (R0 2 O (dN (xG ?_)))))))))))))))
   refine lB O O (eP (n:=k+1) (by omega) (by omega)) (R0 2 O ?_)
   exact lQ (by omega) ⟨k+1,_,_,LI.m [] O,rfl,by omega,by rw [List.length_set];exact hol2,by omega,aA0 hdr,bOp (by omega) hdr hv2 rfl⟩
  refine dK (nQ (dN (xG (R1 12 O (aS O hy (lB O O (eP (n:=i+b.length) (by omega) (by omega)) (lC O (mB O (wD (O) (by omega)) (uM O O (i+b.length) (O) (by omega) (F8 (i+b.length) (cy) O O iP (O) (by omega) (by omega) (by omega) (lN (dN (xG (lB O O (eP (n:=i+1) (by omega) (by omega)) (R0 2 O ?_)))))))))))))))
  exact lQ (by omega) ⟨i+1,_,LI.m [] O,rfl,by omega,by rw [List.length_set];exact hol2,bQ8 rfl (by omega) (by omega) hcy hv (by rw [show k=b.length by omega] at hv2;exact hv2)⟩
 refine dK (nQ (dN (R4 4 O ?_)))
 refine Bo (n:=a.length+b.length) z zl0 (p:=[]) O O zI (hol) (by omega) fun zf66 hzf66 hf66=>?_
 refine lZ zf66 (Ff (by omega) (hf66.mono gU) (by omega)) O O fun v67 z67 _ hr67=>?_
 have hr67:=hr67.mono (zA (hzl0.trans hzf66))
 refine R0 3 O (xT (rI O ?_))
 rw [show i=a.length by omega,oD (by omega),oD (Nat.le_refl _)] at hv
 rw [hv] at hr67
 exact hr67
theorem aWG {k:Nat} (hk:1≤k) {z:dE} {hi mid low first second:Nat} (hhi:hi≤first) (hmid:mid<4294967296) (hlow:low<4294967296) (hf:2147483648≤first) (hfW:first<4294967296) (hse:second<4294967296):FC (E k) 217 [Ad ((hi:Nat):Int),Ad ((mid:Nat):Int),Ad ((low:Nat):Int),Ad ((first:Nat):Int),Ad ((second:Nat):Int)] z fun v _=>v=.c (.v (.int .u64 ((min 4294967295 (((4294967296 * hi+mid) * 4294967296+low) / (first * 4294967296+second)):Nat):Int))):=by
 refine cX (bAA) (by omega) (aU O) fun B j hj=>?_
 refine R4 16 O (mB O (wQ (O) (by omega)) (lB O O (aTD (n:=4294967296 * hi) (by omega) (by omega)) (lC O (mB O (wQ (O) (by omega)) (lB O O (bFT (n:=(4294967296 * hi+mid)) (by omega) (by omega) (aTq hmid)) (R0 2 O (gX (G1 4 O (gP O O F ?_)))))))))
 refine mB O (wQ (O) (by omega)) (lN ?_)
 refine gP O O F ?_
 refine lB O O (bEg (n:=(4294967296 * hi+mid) / first) (by omega) (O) (by omega)) (lN ?_)
 refine G1 4 O (gP O O F ?_)
 refine mB O (wQ (O) (by omega)) (lN ?_)
 refine gP O O F ?_
 refine lB O O (bGe (n:=(4294967296 * hi+mid) % first) (by omega) (O)) (lN ?_)
 refine G0 4 O (dA ?_)
 refine aT (aQ ?_)
 refine eA (fun n fs=>∃ (q:Nat) (r:Nat),LI z [] [(2,Ad ((low:Nat):Int)),(3,Ad ((first:Nat):Int)),(4,Ad ((second:Nat):Int)),(12,.c (.v (.int .u64 ((q:Nat):Int)))),(13,.c (.v (.int .u64 ((r:Nat):Int))))] fs∧n=q∧(r<4294967296)∧(q<18446744073709551616)∧(Gs (4294967296 * hi+mid) first second low q r)) ?_ _ ⟨_,_,LI.m [] O,rfl,by have:=Nat.mod_lt (4294967296 * hi+mid) (show 0<first by omega);omega,by have:=Nat.div_le_self (4294967296 * hi+mid) first;omega,bJZ (by omega) hlow⟩ (by have:=Nat.div_le_self (4294967296 * hi+mid) first;show _<18446744073709551616;omega)
 intro n fs ⟨q,r,hL0,hmz0,hr,hq,hg⟩
 refine hL0.open fun e zl0 _=>?_
 refine R4 32 O ?_
 refine iW 30 O (fun hg30=>?_) (fun hg30=>?_)
 ·refine R3 16384 O (aQ (R4 4 O ?_))
  have hq0:0<q:=by omega
  have hg2:=aZC hg hq0 (.inl (by omega))
  refine lB O O (aY5 (n:=q - 1) (by omega) (by omega)) (R2 16 O (mB O (wQ (O) (by omega)) (lB O O (aKK (n:=r+first) (by omega) (by omega)) (R3 16 O ?_))))
  refine xD O (fun hc49=>?_) (fun hc49=>?_)
  ·refine bAe (nQ (dN (R5 8 O (xT (rI O ?_)))))
   rw [← aVV hg2 (by omega) hfW hse (by omega) (.inr (by omega))]
   rfl
  refine iF ?_
  exact lQ (by omega) ⟨q - 1,r+first,LI.m [] O,rfl,by omega,by omega,hg2⟩
 refine lD O ?_
 have hqs:q * second≤4294967295 * 4294967295:=Nat.mul_le_mul (by omega) (by omega)
 refine R1 4 O (lD O (mB O (wQ (O) (by omega)) (lD O (lB O O (aVT (n:=q * second) ((Int.natCast_mul _ _).symm) (by omega)) (lD O (lC O (lD O (lB O O (aTD (n:=4294967296 * r) (by omega) (by omega)) (lD O (lC O (lD O (mB O (wQ (O) (by omega)) (lD O (lB O O (bFT (n:=4294967296 * r+low) (by omega) (by omega) (aTq hlow)) (R3 8 O ?_)))))))))))))))
 refine xD O (fun hc41=>?_) (fun hc41=>?_)
 ·refine dA (aQ (R4 4 O ?_))
  have hq0:0<q:=Nat.pos_of_ne_zero fun h=>by rw [h,Nat.zero_mul] at hc41;omega
  have hg2:=aZC hg hq0 (.inr (by omega))
  refine lB O O (aY5 (n:=q - 1) (by omega) (by omega)) (R2 16 O (mB O (wQ (O) (by omega)) (lB O O (aKK (n:=r+first) (by omega) (by omega)) (R3 16 O ?_))))
  refine xD O (fun hc49=>?_) (fun hc49=>?_)
  ·refine bAe (nQ (dN (R5 8 O (xT (rI O ?_)))))
   rw [← aVV hg2 (by omega) hfW hse (by omega) (.inr (by omega))]
   rfl
  refine iF ?_
  exact lQ (by omega) ⟨q - 1,r+first,LI.m [] O,rfl,by omega,by omega,hg2⟩
 refine dK (nQ (dN (R5 8 O (xT (rI O ?_)))))
 rw [← aVV hg (by omega) hfW hse (by omega) (.inl ⟨by omega,by omega⟩)]
 rfl
theorem aYX {k:Nat} (hk:2≤k) {z:dE} {v:AV} {b L:List UInt32} {b0 off N q:Nat} (hy:SZ 1 RW z v b) (hoN:off+N≤L.length) (hbN:b.length<N) (hL:L.length≤10000000000) (hq:q<4294967296) (hB:0<val b) (hq1:val ((L.drop off).take N) / val b≤q) (hq2:q≤val ((L.drop off).take N) / val b+1):FCt (E k) 218 [.c (.sl b0 off N 1),v,.c (.v (.int .u64 ((q:Nat):Int)))] z [Ib eW b0 221 L] fun v' _ H'=>∃ M,v'=Ad ((val ((L.drop off).take N) / val b:Nat):Int)∧H'=[Ib eW b0 221 M]∧M.length=L.length∧M.take off=L.take off∧M.drop (off+N)=L.drop (off+N)∧val ((M.drop off).take N)=val ((L.drop off).take N) - val ((L.drop off).take N) / val b * val b:=by
 refine aQo (bA7) (by omega) (aU O) fun B j hj=>?_
 refine R4 256 O (aFy O O (R0 2 O ?_))
 refine aT (aQ ?_)
 refine eA (fun n fs=>∃ (i:Nat) (M:List UInt32) (cy:Nat) (bw:Nat),LI z [Ib eW b0 221 M] [(0,.c (.sl b0 off N 1)),(1,v),(2,.c (.v (.int .u64 ((q:Nat):Int)))),(7,.c (.v (.int .u64 ((cy:Nat):Int)))),(8,.c (.v (.int .u64 ((bw:Nat):Int)))),(17,Az N),(18,Az i)] fs∧n=N - i∧(i≤N)∧(M.length=L.length)∧(cy<4294967296)∧(bw≤1)∧(M.take off=L.take off)∧(M.drop (off+i)=L.drop (off+i))∧(b.length<i→cy=0)∧(val ((M.drop off).take i)+q * val (b.take i)=val ((L.drop off).take i)+Num.W ^ i * (cy+bw))) ?_ _ ⟨0,_,0,0,LI.m [] O,rfl,Nat.zero_le _,rfl,by omega,by omega,rfl,rfl,fun h=>rfl,by simp [val]⟩ (kK (by omega))
 intro n fs ⟨i,M,cy,bw,hL0,hmz0,hi,hML,hcy,hbw,htk,hdr,hc0,hv⟩
 refine hL0.open fun e zl0 _=>?_
 refine R5 8 O ?_
 refine xD O (fun hc19=>?_) (fun hc19=>?_)
 ·refine dA ?_
  refine aT (aQ ?_)
  refine R4 768 O (aS O hy (R0 2 O ?_))
  refine I7 (fun fs=>LI zl0 [Ib eW b0 221 M] [(0,.c (.sl b0 off N 1)),(1,v),(2,.c (.v (.int .u64 ((q:Nat):Int)))),(7,.c (.v (.int .u64 ((cy:Nat):Int)))),(8,.c (.v (.int .u64 ((bw:Nat):Int)))),(9,Az i),(10,.c (.v (.int .u64 ((mU b i:Nat):Int)))),(17,Az N),(18,Az i)] fs) ?_ fun fs hJ=>?_
  ·refine xD O (fun hc24=>?_) (fun hc24=>?_)
   ·refine xG (R1 5 O ?_)
    refine rS (zz:=zl0) O O hy.m (i) (O) (by omega) fun p27 hp27=>?_
    refine wF O hp27 ?_
    refine mB O (wQ (O) (by have:mU b i<4294967296:=qG b i;omega)) ?_
    refine R0 2 O ?_
    exact dN (LI.m [] O)
   refine iF ?_
   rw [show mU b i=0 from aJe (by omega)]
   exact dN (LI.m [] O)
  have hJ24:=hJ
  refine hJ24.open fun e zj24 _=>?_
  refine xR ?_
  have hqb:q * mU b i≤4294967295 * 4294967295:=Nat.mul_le_mul (by omega) (by have:mU b i<4294967296:=qG b i;omega)
  refine R1 4 O (lB O O (aVT (n:=q * mU b i) ((Int.natCast_mul _ _).symm) (by omega)) (lC O (lB O O (aKK (n:=(q * mU b i+cy)) (by omega) (by omega)) (R2 8 O (lB O O (aN9 (n:=(q * mU b i+cy) / 4294967296) (by decide) (O)) (R2 16 O (uM O O (i) (O) (by omega) (aMd (off+i) O mem0 (by omega) (by omega) ?_))))))))
  refine mB O (wQ (O) (by have:mU M (off+i)<4294967296:=qG M (off+i);omega)) ?_
  refine lC O (mB O (wDm _) (mB O (wQ (O) (by omega)) ?_))
  refine lB O O (zH (r:=((mU M (off+i)+18446744073709551616 - (q * mU b i+cy) % 4294967296) % 18446744073709551616:Nat)) (by rw [aZZ];have:mU M (off+i)<4294967296:=qG M (off+i);omega)) ?_
  refine lC O ?_
  refine lB O O (zH (r:=(((mU M (off+i)+36893488147419103232 - (q * mU b i+cy) % 4294967296 - bw) % 18446744073709551616):Nat)) (by rw [aZZ];have:mU M (off+i)<4294967296:=qG M (off+i);omega)) ?_
  refine R0 2 O (xG (R1 8 O (mB O (wDm _) (lC O (lB O O (aN9 (n:=((mU M (off+i)+36893488147419103232 - (q * mU b i+cy) % 4294967296 - bw) % 18446744073709551616) / 9223372036854775808) (by decide) (O)) (uM O O (i) (O) (by omega) (F8 (off+i) (((mU M (off+i)+36893488147419103232 - (q * mU b i+cy) % 4294967296 - bw) % 18446744073709551616) % 4294967296) O O iP (O) (by omega) (by omega) (by omega) (R0 2 O (dN (xG (lB O O (eP (n:=i+1) (by omega) (by omega)) (R0 2 O ?_))))))))))))
  exact lQ (by omega) ⟨i+1,_,_,_,LI.m [] O,rfl,by omega,by rw [List.length_set];exact hML,by omega,(bTg (qG M (off+i)) (Nat.mod_lt _ (by decide)) hbw rfl).2,by rw [aMF];exact htk,aA0 hdr,fun h=>by rw [aJe (show b.length≤i by omega),Nat.mul_zero,Nat.zero_add];omega,bAX (by omega) hdr hML hv rfl hbw rfl⟩
 refine dK (nQ (dN (R5 32 O ?_)))
 have hiN:i=N:=by omega
 have hcy0:cy=0:=hc0 (by omega)
 rw [hiN,hcy0,Nat.zero_add,oD (l:=b) (Nat.le_of_lt hbN)] at hv
 rw [hiN] at hdr
 have hX:=Ox (M.drop off) N
 have hA:=Ox (L.drop off) N
 have hBN:val b≤Num.W ^ N:=Nat.le_of_lt (Nat.lt_of_lt_of_le (aJo b) (Nat.pow_le_pow_right (by decide) (Nat.le_of_lt hbN)))
 obtain ⟨ho1,ho2⟩:=bJ9 hB rfl hX hv hA hq1 hq2 hBN
 refine xD O (fun hc57=>?_) (fun hc57=>?_)
 ·refine R4 8 O (mB O (wD (O) (by omega)) (R0 2 O (mN (aSM (.inl O) (rt O rn) (List.Sublist.refl _) ?_))))
  obtain ⟨hq3,hX3⟩:=ho1 (by omega)
  refine ⟨M,by rw [← hq3];rfl,O,hML,htk,hdr,hX3⟩
 refine R4 64 O (aFy O O (R0 2 O ?_))
 refine aT (aQ ?_)
 refine eA (fun n fs=>∃ (i2:Nat) (M2:List UInt32) (c:Nat),LI zl0 [Ib eW b0 221 M2] [(0,.c (.sl b0 off N 1)),(1,v),(2,.c (.v (.int .u64 ((q:Nat):Int)))),(13,Ad ((c:Nat):Int)),(61,Az N),(62,Az i2)] fs∧n=N - i2∧(i2≤N)∧(M2.length=M.length)∧(c≤1)∧(M2.take off=M.take off)∧(M2.drop (off+i2)=M.drop (off+i2))∧(val ((M2.drop off).take i2)+Num.W ^ i2 * c=val ((M.drop off).take i2)+val (b.take i2))) ?_ _ ⟨0,_,0,LI.m [] O,rfl,Nat.zero_le _,rfl,by omega,rfl,rfl,by simp [val]⟩ (kK (by omega))
 intro n fs ⟨i2,M2,c,hL1,hmz1,hi2,hML2,hc2,htk2,hdr2,hv2⟩
 refine hL1.open fun e zl1 _=>?_
 refine R5 8 O ?_
 refine xD O (fun hc63=>?_) (fun hc63=>?_)
 ·refine dA ?_
  refine aT (aQ ?_)
  refine R4 768 O (aS O hy (R0 2 O ?_))
  refine I7 (fun fs=>LI zl1 [Ib eW b0 221 M2] [(0,.c (.sl b0 off N 1)),(1,v),(2,.c (.v (.int .u64 ((q:Nat):Int)))),(13,Ad ((c:Nat):Int)),(14,Az i2),(15,Ad ((mU b i2:Nat):Int)),(61,Az N),(62,Az i2)] fs) ?_ fun fs hJ=>?_
  ·refine xD O (fun hc68=>?_) (fun hc68=>?_)
   ·refine xG (R1 5 O ?_)
    refine rS (zz:=zl1) O O hy.m (i2) (O) (by omega) fun p71 hp71=>?_
    refine wF O hp71 (R0 2 O ?_)
    exact dN (LI.m [] O)
   refine iF ?_
   rw [show mU b i2=0 from aJe (by omega)]
   exact dN (LI.m [] O)
  have hJ68:=hJ
  refine hJ68.open fun e zj68 _=>?_
  refine xG (R1 16 O (uM O O (i2) (O) (by omega) (aMd (off+i2) O mem0 (by omega) (by omega) (R1 4 O ?_))))
  refine lZ zj68 (aDN (by omega) (qG M2 (off+i2)) (qG b i2) hc2) O O fun v82 z82 _ ⟨lo,co,hv82,hk1,hk2,hk3⟩=>?_
  subst hv82
  refine R1 9 O (uM O O (i2) (O) (by omega) (F8 (off+i2) (lo) O O iP (O) (by omega) (by omega) (by omega) (R0 3 O (dN (xG (lB O O (eP (n:=i2+1) (by omega) (by omega)) (R0 2 O ?_)))))))
  exact lQ (by omega) ⟨i2+1,_,co,LI.m [] O,rfl,by omega,by rw [List.length_set];exact hML2,hk3,by rw [aMF];exact htk2,aA0 hdr2,bAJ (by omega) hdr2 hML2 hk2 hv2 hk1⟩
 refine dK (nQ (dN (xR ?_)))
 have hiN2:i2=N:=by omega
 obtain ⟨hq3,hX2⟩:=ho2 (by omega)
 have hq0:0<q:=by rw [hq3];exact Nat.succ_pos _
 rw [hiN2,oD (l:=b) (Nat.le_of_lt hbN)] at hv2
 rw [hiN2] at hdr2
 have hres:=bC0 hX2 (Nat.lt_of_le_of_lt (Nat.sub_le _ _) hA) (Ox (M2.drop off) N) hc2 hv2
 refine lC O (lB O O (aY5 (n:=q - 1) (by omega) (by omega)) (mB O (wD (O) (by omega)) (R0 2 O (xT (aSM (.inl O) (rt O rn) (List.Sublist.refl _) ?_)))))
 refine ⟨M2,by rw [show q - 1=_ from by rw [hq3,Nat.add_sub_cancel]];rfl,O,hML2.trans hML,htk2.trans htk,hdr2.trans hdr,hres⟩
open Go.CE Go.RowKit Go.Num
open Go.Eng (oH)
theorem bHO {k:Nat} (hk:4≤k) {z:dE} {v:AV} {a:List UInt32} {n:Nat} (hx:SZ 1 RW z v a) (hn:n≤31) (hla:a.length≤100000000):FC (E k) 216 [v,Ai (-(n:Nat):Int)] z fun v' z'=>∃ u,v'=.tup [u,Ai 0]∧SZ 1 RW (zd z z') u (toL (val a / 2 ^ n)):=by
 rcases Nat.eq_zero_or_pos n with h | h
 ·subst h
  have hq:=zT (l:=a)
  have h1:=(aDH hk hx (Nat.zero_le 31) hla).told (P:=fun v' u=>v'=.tup [u,Ai 0]) (by rw [Nat.pow_zero,Nat.mul_one];omega)
  rw [Nat.pow_zero,Nat.mul_one] at h1
  rw [Nat.pow_zero,Nat.div_one]
  exact h1
 exact aUm hk hx hn h hla
theorem aMu {k:Nat} (hk:5≤k) {z:dE} {u v:AV} {a b:List UInt32} (hx:SZ 1 RW z u a) (hy:SZ 1 RW z v b) (hla:a.length≤50000000) (hlb:b.length≤50000000):FC (E k) 168 [u,v] z fun v z'=>(val b=0→v=.tup [C4,C4,Ai 20])∧(0<val b→∃ q r,v=.tup [q,r,Ai 0]∧SZ 1 RW (zd z z') q (toL (val a / val b))∧SZ 1 RW (zd z z') r (toL (val a % val b))):=by
 have hqa:=zT (l:=a)
 have hqb:=zT (l:=b)
 refine cX (bCo) (by omega) (aU O) fun B j hj=>?_
 refine R4 96 O ?_
 refine lZ z (Ff (by omega) hx (by omega)) O O fun v15 z15 hz15 ha15=>?_
 refine lM O ?_
 refine lZ z15 (Ff (by omega) hy.m (by omega)) O O fun v17 z17 hz17 hb17=>?_
 have hb17:=hb17.mono (zA (hz15))
 refine R2 27 O (aS O (hb17.mono gU) (R0 2 O ?_))
 refine aT (aQ ?_)
 refine R5 16 O ?_
 refine xD O (fun hc20=>?_) (fun hc20=>?_)
 ·refine R5 16 O (xT (lS (rQ (.inl O) (rt O (rt O (rt O rn))) ?_)))
  have hb0:=aE8 (l:=b) (by omega)
  exact ⟨fun _=>rfl,fun h=>absurd h (by omega)⟩
 refine R4 14 O ?_
 refine lZ z17 (aH1 (by omega) ha15.m (hb17.mono gU)) O O fun v26 z26 hz26 hv26=>?_
 rw [gI,gI] at hv26
 subst hv26
 refine R0 4 O ?_
 refine xD O (fun hc23=>?_) (fun hc23=>?_)
 ·refine R5 42 O (xT (lS (rQ (.inl O) (rt O (rt O (rt O rn))) ?_)))
  rw [aAl] at hc23
  refine ⟨fun h=>absurd h (by omega),fun hb=>⟨_,_,rfl,?_,?_⟩⟩
  ·rw [Nat.div_eq_of_lt hc23,uO];exact .nil
  rw [Nat.mod_eq_of_lt hc23];exact (ha15.mono (mX zI))
 refine R5 16 O ?_
 refine xD O (fun hc29=>?_) (fun hc29=>?_)
 ·refine R4 14 O ?_
  refine rS (zz:=z26) O O hb17.m (0) (O) (by omega) fun p35 hp35=>?_
  refine wF O hp35 ?_
  refine lZ z26 (aEd (by omega) ha15.m (qG _ 0) (by omega)) O O fun v37 z37 hz37 ⟨_,hv37⟩=>?_
  obtain ⟨h1a,h1b,h1c⟩:=bDE (b:=val b) (by omega)
  obtain ⟨w37,rfl,hr37⟩:=hv37 (by omega)
  rw [gI,h1a] at hr37
  have hr37:=hr37.mono (zA (hz15.trans (hz17.trans hz26)))
  refine R2 1905 O ?_
  rw [gI,h1a]
  refine bAa O (Nat.lt_trans (Nat.mod_lt _ h1c) h1b) O fun b43=>?_
  refine Bo (n:=1) z z37 (p:=[]) O O zI (O) (by omega) fun zf43 hzf43 hf43=>?_
  refine lZ zf43 (Ff (by omega) (hf43.mono gU) (by simp)) O O fun v44 z44 _ hr44=>?_
  rw [aZV (Nat.lt_trans (Nat.mod_lt _ h1c) h1b)] at hr44
  have hr44:=hr44.mono (zA (hz15.trans (hz17.trans (hz26.trans (hz37.trans hzf43)))))
  refine R0 11 O (xT (lS (rQ (.inl O) (rt O (rt O (rt O rn))) ?_)))
  refine ⟨fun h=>absurd h (by omega),fun hb=>⟨_,_,rfl,(hr37.mono (mX zI)),hr44⟩⟩
 refine iF (dN (R4 10 O (lB O O (Dx (n:=(toL (val b)).length - 1) (by omega) (by omega)) ?_)))
 refine rS (zz:=z26) O O hb17.m ((toL (val b)).length - 1) (O) (by omega) fun p48 hp48=>?_
 refine wF O hp48 ?_
 refine lZ z26 (aEj (by omega) (qG _ _)) O O fun v50 z50 hz50 ⟨up,hv50,hu1,hu2,hu3⟩=>?_
 subst hv50
 obtain ⟨hu4,hu5⟩:=hu3 (aZM rfl (by omega))
 obtain ⟨hB1,hB2⟩:=bEB rfl (by omega) hu2
 have hsa:=aZQ (m:=val a) hu5
 refine R2 29 O ?_
 refine Dq z50 [] (aDH (by omega) hb17.m hu5 (by omega)) O O O fun v54 z54 H54 hz54 ⟨ub,hv54,hH54⟩=>?_
 rw [gI] at hH54
 subst hv54
 subst hH54
 refine Fq z z54 (p:=[]) O O zI (by omega) fun zfb hzfb hfb=>?_
 refine R2 233 O ?_
 refine Dq zfb [] (aDH (by omega) ha15.m hu5 (by omega)) O O O fun v60 z60 H60 hz60 ⟨ua,hv60,hH60⟩=>?_
 rw [gI] at hH60
 subst hv60
 subst hH60
 refine R2 105 O ?_
 refine aC4 (e:=eW) (a:=(0:UInt32)) O (O) O (fun _=>rfl) (fun _=>iP) (by omega) (by omega) fun b64 c65 hc65=>?_
 refine bMn (List.sublist_cons_self _ _) ?_
 rw [aAl] at hc23
 have hLN:(toL (val a * 2 ^ up)++[(0:UInt32)]).length=(toL (val a * 2 ^ up)).length+1:=by simp
 have hla2:(toL (val b)).length≤(toL (val a * 2 ^ up)).length:=D1 (Nat.le_trans (by omega) (Nat.le_mul_of_pos_right (val a) (Nat.pow_pos (by decide))))
 refine R2 8 O (aVj O mem0 (lC O (lB O O (Dx (n:=((toL (val a * 2 ^ up)++[(0:UInt32)]).length - (toL (val b)).length)) (by omega) (by omega)) ?_)))
 refine aTM (n:=((toL (val a * 2 ^ up)++[(0:UInt32)]).length - (toL (val b)).length)) O O (O) (by omega) (by omega) fun b70=>?_
 refine bLs (List.Perm.swap _ _ _) (R2 8 O ?_)
 refine aWc (p:=[]) O (by omega) fun bba hba=>?_
 cases hba
 refine lC O (aFy O O (lB O O (zH (r:=((((toL (val a * 2 ^ up)++[(0:UInt32)]).length - (toL (val b)).length):Nat):Int) - 1) (wR (by omega))) (R0 2 O ?_)))
 refine aT (aQ ?_)
 refine eA (fun n fs=>∃ (i:Nat) (L:List UInt32) (qo:List UInt32),LI z60 [Ib eW bba 221 L,Ib eW b70 221 qo] [(0,.c (.sl bba 0 (toL (val a * 2 ^ up)++[(0:UInt32)]).length 1)),(1,ub),(4,.c (.sl b70 0 ((toL (val a * 2 ^ up)++[(0:UInt32)]).length - (toL (val b)).length) 1)),(7,Az ((toL (val b)).length)),(11,Az up),(12,Ai ((i:Int) - 1))] fs∧n=i∧(i≤((toL (val a * 2 ^ up)++[(0:UInt32)]).length - (toL (val b)).length))∧(L.length=(toL (val a * 2 ^ up)++[(0:UInt32)]).length)∧(qo.length=((toL (val a * 2 ^ up)++[(0:UInt32)]).length - (toL (val b)).length))∧(Dv (val a * 2 ^ up) (val b * 2 ^ up) L qo i)) ?_ _ ⟨((toL (val a * 2 ^ up)++[(0:UInt32)]).length - (toL (val b)).length),_,_,LI.m [] O,rfl,Nat.le_refl _,rfl,by simp,bKs hB1 (by omega) (by omega) (by omega) _ (by simp)⟩ (kK (by omega))
 intro n fs ⟨i,L,qo,hL0,hmz0,hi,hLl,hql,hD⟩
 refine hL0.open fun e zl0 hzl0=>?_
 refine R5 32 O ?_
 refine xD O (fun hc75=>?_) (fun hc75=>?_)
 ·refine dA ?_
  refine aT (aQ ?_)
  refine gX ?_
  have hDj:Dv (val a * 2 ^ up) (val b * 2 ^ up) L qo (i - 1+1):=by rw [show i - 1+1=i by omega];exact hD
  have hBp:0<val b * 2 ^ up:=Nat.mul_pos (aKd (by omega)) (Nat.pow_pos (by decide))
  have hg1:=bP7 hDj hB1 (by omega) (by omega)
  obtain ⟨g,hgE,hg4,hg2,hg3⟩:=bET (M:=4294967296) (M1:=4294967295) rfl rfl hDj hB1 (by omega) (by omega) (by omega)
  refine G1 8 O (gP O O F ?_)
  refine lB O O (eP (n:=i - 1+(toL (val b)).length) (by omega) (by omega)) (lN ?_)
  refine gP O O F ?_
  refine uM O O (i - 1+(toL (val b)).length) (by omega) (by omega) (lN ?_)
  refine aSZ (i:=⟨_,_,.load _ _ _⟩) (i - 1+(toL (val b)).length) O O F O (.inr mem0) (by omega) (by omega) ?_
  refine G1 8 O (gP O O F ?_)
  refine lB O O (eP (n:=i - 1+(toL (val b)).length) (by omega) (by omega)) (lN ?_)
  refine gP O O F ?_
  refine lB O O (Dx (n:=i - 1+(toL (val b)).length - 1) (by omega) (by omega)) (lN ?_)
  refine gP O O F ?_
  refine uM O O (i - 1+(toL (val b)).length - 1) (by omega) (by omega) (lN ?_)
  refine aSZ (i:=⟨_,_,.load _ _ _⟩) (i - 1+(toL (val b)).length - 1) O O F O (.inr mem0) (by omega) (by omega) ?_
  refine G1 8 O (gP O O F ?_)
  refine lB O O (eP (n:=i - 1+(toL (val b)).length) (by omega) (by omega)) (lN ?_)
  refine gP O O F ?_
  refine lB O O (Dx (n:=i - 1+(toL (val b)).length - 2) (by omega) (by omega)) (lN ?_)
  refine gP O O F ?_
  refine uM O O (i - 1+(toL (val b)).length - 2) (by omega) (by omega) (lN ?_)
  refine aSZ (i:=⟨_,_,.load _ _ _⟩) (i - 1+(toL (val b)).length - 2) O O F O (.inr mem0) (by omega) (by omega) ?_
  refine G1 5 O (gP O O F ?_)
  refine lB O O (Dx (n:=(toL (val b)).length - 1) (by omega) (by omega)) (lN ?_)
  refine gP O O F ?_
  refine rS (zz:=zl0) O O hfb.m ((toL (val b)).length - 1) (O) (by omega) fun p101 hp101=>lN ?_
  refine glP O O hp101 ti (G1 5 O (gP O O F ?_))
  refine lB O O (Dx (n:=(toL (val b)).length - 2) (by omega) (by omega)) (lN ?_)
  refine gP O O F ?_
  refine rS (zz:=zl0) O O hfb.m ((toL (val b)).length - 2) (O) (by omega) fun p106 hp106=>lN ?_
  refine glP O O hp106 ti ?_
  refine gC zl0 (aWG (by omega) hg1 (qG _ _) (qG _ _) (by omega) (qG _ _) (qG _ _)) O O O O fun v108 z108 _ hv108=>?_
  rw [← hgE] at hv108
  subst hv108
  refine G0 3 O (xG (R1 64 O (lB O O (eP (n:=i - 1+(toL (val b)).length) (by omega) (by omega)) (lB O O (eP (n:=i - 1+(toL (val b)).length+1) (by omega) (by omega)) ?_))))
  refine bFy (i - 1) ((toL (val b)).length+1) (i:=i - 1) (j:=i - 1+(toL (val b)).length+1) O ⟨_,_,O,by omega⟩ ⟨_,_,O,by omega⟩ (by omega) (by omega) (by omega) (by omega) (by omega) ?_
  refine R1 7 O ?_
  refine Dq z108 [Ib eW bba 221 L] (aYX (by omega) hfb.m (by omega) (by omega) (by omega) hg4 (by rw [gI];exact hBp) (by rw [gI];exact hg2) (by rw [gI];exact hg3)) O O O fun v120 z120 H120 _ ⟨M,hv120,hH120,hM1,hM2,hM3,hM4⟩=>?_
  rw [gI] at hv120 hM4
  subst hv120
  subst hH120
  refine uM O O (i - 1) (by omega) (by omega) (F8 (i - 1) (val (List.take ((toL (val b)).length+1) (List.drop (i - 1) L)) / (val b * 2 ^ up)) O O P1 (O) (aYI hDj hB1 (by omega)) (by omega) (by omega) (lN (dN (xG (lC O ?_)))))
  refine lB O O (zH (r:=((i - 1:Nat):Int) - 1) (by rw [wR ⟨by omega,by omega⟩];omega)) ?_
  refine R0 2 O ?_
  exact lQ (by omega) ⟨i - 1,_,_,LI.m [] O,rfl,by omega,hM1.trans hLl,by rw [List.length_set];exact hql,bKz hDj hB1 (by omega) (by omega) hM1 hM2 hM3 hM4 (aYI hDj hB1 (by omega))⟩
 refine dK (nQ (dN (xR ?_)))
 have hi0:i=0:=by omega
 rw [hi0] at hD
 obtain ⟨he1,he2⟩:=bN0 hD
 refine Bo (n:=(toL (val a * 2 ^ up)++[(0:UInt32)]).length) z zl0 (p:=[]) O O zI (hLl) (by omega) fun zfa hzfa hfa=>?_
 refine R1 4 O ?_
 refine aNN O (aYi (r := -((up:Nat):Int)) (by rw [wR ⟨by omega,by omega⟩];omega)) ?_
 refine lZ zfa (bHO (by omega) (hfa.mono gU) hu5 (by omega)) O O fun v126 z126 hz126 ⟨ur,hv126,hr126⟩=>?_
 subst hv126
 have hr126:=hr126.mono (zA (hz15.trans (hz17.trans (hz26.trans (hz50.trans (hz54.trans (hzfb.trans (hz60.trans (hzl0.trans hzfa)))))))))
 refine R2 73 O ?_
 refine Bo (n:=((toL (val a * 2 ^ up)++[(0:UInt32)]).length - (toL (val b)).length)) z z126 (p:=[]) O O zI (hql) (by omega) fun zfq hzfq hfq=>?_
 refine lZ zfq (Ff (by omega) (hfq.mono gU) (by omega)) O O fun v130 z130 _ hr130=>?_
 have hr130:=hr130.mono (zA (hz15.trans (hz17.trans (hz26.trans (hz50.trans (hz54.trans (hzfb.trans (hz60.trans (hzl0.trans (hzfa.trans (hz126.trans hzfq)))))))))))
 refine R0 23 O (xT (rQ (.inl O) (rt O (rt O (rt O rn))) ?_))
 obtain ⟨hd1,hd2⟩:=bKX (a:=val a) (b:=val b) (up:=up)
 rw [he2,hd2] at hr126
 rw [he1,hd1] at hr130
 refine ⟨fun h=>absurd h (Nat.ne_of_gt (aKd (by omega))),fun hb=>⟨_,_,rfl,hr130,(hr126.mono (mX zI))⟩⟩
open Go.CE Go.RowKit Go.Num
open Go.Eng (oH)
theorem aAd {n:Nat} (h:(toL n).length=0):n=0:=by
 rcases Nat.eq_zero_or_pos n with h0 | h0
 ·exact h0
 have:=aS0 h0;omega
theorem aJH {n:Nat} (h:0<(toL n).length):0<n:=by
 rcases Nat.eq_zero_or_pos n with rfl | h0
 ·rw [uO] at h;simp at h
 exact h0
def aZd (ls:List (List UInt32)):Nat:=ls.foldl (fun g l=>Nat.gcd g (val l)) 0
theorem bA5 {ls:List (List UInt32)} {i:Nat} (h:i<ls.length):aZd (ls.take (i+1))=Nat.gcd (aZd (ls.take i)) (val ls[i]):=by
 unfold aZd
 rw [List.take_add_one,List.getElem?_eq_getElem h,List.foldl_append]
 rfl
theorem bRv (a b:List UInt32):aZd [a,b]=Nat.gcd (val a) (val b):=by simp [aZd]
theorem bAZ {k:Nat} (hk:6≤k) {z:dE} {v:AV} {ls:List (List UInt32)} (hx:SZ 1 RLs z v ls) (hl:∀ l,l∈ls→l.length≤50000000):FC (E k) 212 [v] z fun v' z'=>SZ 1 RW (zd z z') v' (toL (aZd ls)):=by
 have hxl:=hx.le
 refine cX (bAC) (by omega) (aU O) fun B j hj=>?_
 refine R4 192 O (aS O hx (R0 2 O ?_))
 refine aT (aQ ?_)
 refine eA (fun n fs=>∃ (i:Nat) (g:Nat) (va:AV) (zo:dE),LZ z zo [] [(3,va),(9,v),(10,Az ls.length),(11,Az i)] fs∧n=ls.length - i∧(i≤ls.length)∧(SZ 1 RW zo va (toL g))∧(g=aZd (ls.take i))∧((toL g).length≤50000000)) ?_ _ ⟨0,0,_,_,LZ.m [] O,rfl,Nat.zero_le _,by rw [uO];exact .nil,rfl,by rw [uO];simp⟩ (kK (by omega))
 intro n fs ⟨i,g,va,zo,hL0,hmz0,hi,hva,hg,hgl⟩
 refine hL0.open fun e hzo=>?_
 refine R5 8 O ?_
 refine xD O (fun hc12=>?_) (fun hc12=>?_)
 ·refine dA ?_
  refine aT (aQ ?_)
  refine xR ?_
  refine dH (zz:=zo) O O hx.m i O _ (List.getElem?_eq_getElem (by omega)) fun b13 p13 cs13 at13 hR13=>?_
  obtain ⟨e13,rfl,hc13⟩:=hR13
  refine Z0 O at13 ?_
  have hil:=hl _ (List.getElem_mem (show i<ls.length by omega))
  refine R2 8 O ?_
  refine lZ zo (Ff (by omega) hc13 (by omega)) O O fun v16 z16 hz16 hb16=>?_
  have hb16:=hb16.mono (zA (hzo))
  refine R0 3 O (aQ ?_)
  refine eA (fun n fs=>∃ (x:Nat) (y:Nat) (va2:AV) (vb2:AV) (zi:dE),LZ z16 zi [] [(3,va2),(5,vb2),(9,v),(10,Az ls.length),(11,Az i)] fs∧n=gm x y∧(SZ 1 RW zi va2 (toL x))∧(SZ 1 RW zi vb2 (toL y))∧(Nat.gcd x y=Nat.gcd g (val ls[i]))∧((toL x).length≤50000000)∧((toL y).length≤50000000)) ?_ _ ⟨g,val ls[i],_,_,_,LZ.m [] O,rfl,hva.m,(hb16.mono gU),rfl,hgl,by have:=zT (l:=ls[i]);omega⟩ (by have:=bMe hgl (show (toL (val ls[i])).length≤50000000 by have:=zT (l:=ls[i]);omega);show _<18446744073709551616;omega)
  intro n fs ⟨x,y,va2,vb2,zi,hL1,hmz1,hva2,hvb2,hgx,hxl2,hyl2⟩
  refine hL1.open fun e hzi=>?_
  refine R4 12 O (aS O hvb2 (R3 4 O ?_))
  refine xD O (fun hc19=>?_) (fun hc19=>?_)
  ·refine dA (aQ (R4 14 O ?_))
   refine lZ zi (aMu (by omega) hva2 hvb2 hxl2 hyl2) O O fun v23 z23 _ ⟨_,hv23⟩=>?_
   rw [gI,gI] at hv23
   have hy0:0<y:=aJH (by omega)
   obtain ⟨q23,r23,rfl,hq23,hr23⟩:=hv23 hy0
   have hr23:=hr23.mono (zA (hzo.trans (hz16.trans hzi)))
   refine R0 241 O (xG (R0 31 O ?_))
   exact lQ (by rw [hmz1];exact bL0 (by omega)) ⟨y,x % y,_,_,_,LZ.m [] O,rfl,hvb2.m,(hr23.mono gU),by rw [Nat.gcd_comm y,← Nat.gcd_rec,Nat.gcd_comm];exact hgx,hyl2,Nat.le_trans (D1 (Nat.le_of_lt (Nat.mod_lt _ (by omega)))) hyl2⟩
  refine dK (nQ (dN (xG (lB O O (eP (n:=i+1) (by omega) (by omega)) (R0 2 O ?_)))))
  exact lQ (by omega) ⟨i+1,x,va2,_,LZ.m [] O,rfl,by omega,hva2,by rw [bA5 (by omega),← hg,← hgx,show y=0 from aAd (by omega),Nat.gcd_zero_right],hxl2⟩
 refine dK (nQ (dN (R4 6 O ?_)))
 refine lZ zo (aCl (by omega) hva (by omega)) O O fun v31 z31 _ hk31=>?_
 have hk31:=hk31.mono (zA (hzo))
 refine R0 3 O (xT (rI O ?_))
 rw [hg,show i=ls.length by omega,List.take_length] at hk31
 exact hk31
open Go.CE Go.RowKit Go.Num
open Go.Eng (oH)
theorem aYz (a b:Bool):Go.Eng.binBV .eql (.bool a) (.bool b)=some (.bool (decide (a=b))):=by cases a<;>cases b<;>rfl
theorem aDY (a b:Bool):Go.Eng.binBV .neq (.bool a) (.bool b)=some (.bool (!decide (a=b))):=by cases a<;>cases b<;>rfl
theorem bOG {a b:Int} {k j:Nat} (h1:(toL a.natAbs).length≤k) (h2:(toL b.natAbs).length≤j):(toL (a - b).natAbs).length≤k+j+1:=by
 refine mV.2 ?_
 have h3:=mV.1 h1
 have h4:=mV.1 h2
 have h5:Num.W ^ k≤Num.W ^ (k+j):=Nat.pow_le_pow_right (by decide) (by omega)
 have h6:Num.W ^ j≤Num.W ^ (k+j):=Nat.pow_le_pow_right (by decide) (by omega)
 have h7:Num.W ^ (k+j) * 2≤Num.W ^ (k+j) * Num.W:=Nat.mul_le_mul_left _ (by decide)
 rw [Nat.pow_succ]
 generalize Num.W ^ (k+j) * Num.W=X at *
 generalize Num.W ^ (k+j)=Y at *
 omega
theorem aFW {k:Nat} (hk:1≤k) {z:dE} {n:Bool} {c:C} {l:List UInt32} (hx:CZ 1 RW z c l):FC (E k) 166 [.agg [Cb n,c]] z fun v _=>v=Ab (yN (n,l)):=by
 have hxl:=hx.le
 refine cX (bCV) (by omega) (aU O) fun B j hj=>?_
 refine xR ?_
 refine iJ O fun b1=>?_
 refine R2 8 O (bQ O mem0 O (aS O hx (R2 32 O ?_)))
 refine iW 9 O (fun hg9=>?_) (fun hg9=>?_)
 ·refine lD O (lF O (lD O (bQ O mem0 O (R1 12 O ?_))))
  refine jI 14 O (fun hg14=>?_) (fun hg14=>?_)
  ·refine R0 12288 O (xT (rI O ?_))
   have hl:l=[]:=List.eq_nil_of_length_eq_zero (by omega)
   subst hl
   rw [aBU,hg14]
   rfl
  refine R1 8 O ?_
  refine iW 17 O (fun hg17=>?_) (fun hg17=>?_)
  ·omega
  refine R0 1536 O (xT (rI O ?_))
  have hl:l=[]:=List.eq_nil_of_length_eq_zero (by omega)
  subst hl
  rw [aBU,hg14]
  rfl
 refine R1 272 O ?_
 refine iW 17 O (fun hg17=>?_) (fun hg17=>?_)
 ·refine lD O (lF O (lD O (bQ O mem0 O (lD O (lC O (lD O (lB O O (Dx (n:=l.length - 1) (by omega) (by omega)) (lD O ?_))))))))
  refine rS O O hx (l.length - 1) (O) (by omega) fun p22 hp22=>?_
  refine lD O (wF O hp22 (R0 24 O (xT (rI O ?_))))
  rw [aTZ (by omega)]
  rfl
 omega
theorem Bh {k:Nat} (hk:2≤k) {z:dE} {n:Bool} {c:C} {l:List UInt32} (hx:CZ 1 RW z c l):FC (E k) 154 [.agg [Cb n,c]] z fun v _=>∃ c',v=.agg [Cb (decide (kN (n,l)<0)),c']∧∀ zz,CZ 1 RW zz c l→CZ 1 RW zz c' (toL (kN (n,l)).natAbs):=by
 refine cX (bC3) (by omega) (aU O) fun B j hj=>?_
 refine xR ?_
 refine iJ O fun b1=>?_
 refine nJ fun b2=>?_
 refine lN (R4 4 O (jB O Y1 O ?_))
 refine lE z (aFW (by omega) hx) O O fun z4 _=>?_
 refine R3 4 O ?_
 refine iO O (fun hc5=>?_) (fun hc5=>?_)
 ·refine R4 4 O (iU (cs:=[_,_]) O (iE O O iP (lN (mN (rQ (.inl O) (rc2 O mem0 rn) ?_)))))
  have h0:=bG8 (n:=n) (l:=l) (by simpa using hc5)
  rw [h0]
  exact ⟨_,rfl,fun zz h=>by rw [show toL (0:Int).natAbs=[] from uO];exact .nil⟩
 refine R4 4 O (jB O Y1 O (iU (cs:=[_,_]) O (iE O O iP (lN (xT (rQ (.inl O) (rc2 O mem0 rn) ?_))))))
 obtain ⟨e1,e2⟩:=aWq (n:=n) (l:=l) (by simpa using hc5)
 refine ⟨c,?_,fun zz h=>by rw [← e2];exact h⟩
 rw [← e1]
 rfl
theorem qL {k:Nat} (hk:1≤k) {z:dE} {b:Bool} {m:Nat} {c:C} (hx:CZ 1 RW z c (toL m)):FC (E k) 171 [Ab b,.c c] z fun v _=>v=.agg [Cb (decide (sgn b m<0)),c]:=by
 refine cX (bBy) (by omega) (aU O) fun B j hj=>?_
 refine xR ?_
 refine nJ fun b4=>?_
 refine lN (R4 8 O ?_)
 refine jI 6 O (fun hg6=>?_) (fun hg6=>?_)
 ·refine lD O (lC O (lD O (aS O hx (R1 8 O (iU (cs:=[_,_]) O (iE O O iP (lN (xT (rQ (.inl O) (rc2 O mem0 rn) ?_)))))))))
  rw [aVw,hg6]
  rfl
 refine R1 32 O (iU (cs:=[_,_]) O (iE O O iP (lN (xT (rQ (.inl O) (rc2 O mem0 rn) ?_)))))
 rw [aVw,hg6]
 rfl
theorem Yt {k:Nat} (hk:5≤k) {z:dE} {a b:Int} {c1 c2:C} (hx:CZ 1 RW z c1 (toL a.natAbs)) (hy:CZ 1 RW z c2 (toL b.natAbs)) (h1:(toL a.natAbs).length≤100000000) (h2:(toL b.natAbs).length≤100000000):FC (E k) 209 [.agg [Cb (decide (a<0)),c1],.agg [Cb (decide (b<0)),c2]] z fun v z'=>IV (zd z z') v (a+b):=by
 refine cX (bBQ) (by omega) (aU O) fun B j hj=>?_
 refine xR ?_
 refine iJ O fun b2=>?_
 refine iJ O fun b3=>?_
 refine nJ fun b4=>?_
 refine lN (R4 16 O (bQ O Y2 O (R1 4 O (bQ O Y1 O (I3 O O (aYz _ _) (lN (Uw ?_)))))))
 refine xD O (fun hc13=>?_) (fun hc13=>?_)
 ·refine aGM (gX (G1 4 O (wH O O (.inr Y2) O (G1 4 O (wH O O (.inr Y2) O (G1 4 O (wH O O (.inr Y1) O ?_)))))))
  refine gC z (aTA (by omega) hx hy (by omega) (by omega)) O O O O fun v23 z23 _ hr23=>?_
  rw [gI,gI] at hr23
  obtain ⟨c23,rfl,_⟩:=hr23.one
  refine gE z23 (qL (by omega) (hr23.mono gU)) O O O O fun z24 _=>?_
  refine gS O O O (iE O O iP (lN (mQ (mN (rQ (.inl O) (rc2 O mem0 rn) ?_)))))
  rw [aQ9 hc13]
  refine ⟨_,O,?_⟩
  have hq:=(hr23.mono (mX (zJ z24)))
  rwa [show a.natAbs+b.natAbs=(a+b).natAbs by rw [← aQ9 hc13,aC0]] at hq
 refine R4 32 O (bQ O Y2 O (R1 4 O (bQ O Y1 O ?_)))
 refine lZ z (aH1 (by omega) hx hy) O O fun v31 z31 hz31 hv31=>?_
 rw [gI,gI] at hv31
 subst hv31
 refine R3 4 O ?_
 refine xD O (fun hc32=>?_) (fun hc32=>?_)
 ·refine xR ?_
  rw [aAl] at hc32
  refine jB O Y1 O (jB O Y2 O (iE O O P2 (iE O O P1 (lN (R4 8 O (bQ O Y2 O (R1 4 O (bQ O Y1 O ?_))))))))
  refine lZ z31 (aJ6 (by omega) hy.m hx.m (by omega) (by omega)) O O fun v42 z42 hz42 ⟨_,hv42⟩=>?_
  rw [gI,gI] at hv42
  obtain ⟨w42,rfl,hr42⟩:=hv42 (by omega)
  obtain ⟨c42,rfl,_⟩:=hr42.one
  have hr42:=hr42.mono (zA (hz31))
  refine R2 281 O (bQ O Y2 O (lM O ?_))
  refine lE z42 (qL (by omega) (hr42.mono gU)) O O fun z49 hz49=>?_
  refine iE O O iP (lN (xT (rQ (.inl O) (rc2 O mem0 rn) ?_)))
  rw [aVg hc13 hc32]
  refine ⟨_,O,?_⟩
  have hq:=(hr42.mono (mX (zJ z49)))
  rwa [show b.natAbs - a.natAbs=(a+b).natAbs by rw [← aVg hc13 hc32,aC0]] at hq
 refine R4 4 O ?_
 rw [aAl] at hc32
 refine R1 4 O (bQ O Y2 O (R1 4 O (bQ O Y1 O ?_)))
 refine lZ z31 (aJ6 (by omega) hx.m hy.m (by omega) (by omega)) O O fun v42 z42 hz42 ⟨_,hv42⟩=>?_
 rw [gI,gI] at hv42
 obtain ⟨w42,rfl,hr42⟩:=hv42 (by omega)
 obtain ⟨c42,rfl,_⟩:=hr42.one
 have hr42:=hr42.mono (zA (hz31))
 refine R2 281 O (bQ O Y2 O (lM O ?_))
 refine lE z42 (qL (by omega) (hr42.mono gU)) O O fun z49 hz49=>?_
 refine iE O O iP (lN (xT (rQ (.inl O) (rc2 O mem0 rn) ?_)))
 rw [aS3 hc13 (Nat.le_of_not_lt hc32)]
 refine ⟨_,O,?_⟩
 have hq:=(hr42.mono (mX (zJ z49)))
 rwa [show a.natAbs - b.natAbs=(a+b).natAbs by rw [← aS3 hc13 (Nat.le_of_not_lt hc32),aC0]] at hq
theorem Sr {k:Nat} (hk:2≤k) {z:dE} {a:Int} {c:C} (hx:CZ 1 RW z c (toL a.natAbs)):FC (E k) 155 [.agg [Cb (decide (a<0)),c]] z fun v _=>v=.agg [Cb (decide (-a<0)),c]:=by
 refine cX (bCg) (by omega) (aU O) fun B j hj=>?_
 refine xR ?_
 refine iJ O fun b1=>?_
 refine nJ fun b2=>?_
 refine lN (R4 8 O (bQ O Y1 O (R1 8 O (bQ O Y1 O ?_))))
 refine lE z (qL (by omega) hx) O O fun z10 _=>?_
 refine iU (cs:=[_,_]) O (iE O O iP (lN (xT (rQ (.inl O) (rc2 O mem0 rn) ?_))))
 rw [aZY]
 rfl
theorem aTQ {k:Nat} (hk:3≤k) {z:dE} {n:Int} (h1 : -9223372036854775808≤n) (h2:n<9223372036854775808):FC (E k) 102 [Ai n] z fun v z'=>IV (zd z z') v n:=by
 refine cX (bBi) (by omega) (aU O) fun B j hj=>?_
 refine xR ?_
 refine nJ fun b2=>?_
 refine lN (R4 4 O (mB O ((aZZ n)) (R3 32 O ?_)))
 refine I7 (fun fs=>LI z [.blk b2 (.cells 24 [Cb false,Cz])] [(0,Ai n),(2,Ap b2),(3,.c (.v (.int .u64 ((n.natAbs:Nat):Int))))] fs) ?_ fun fs hJ=>?_
 ·refine xD O (fun hc7=>?_) (fun hc7=>?_)
  ·refine xG (lC O ?_)
   refine aNN O (aYi (r:=((n.natAbs:Nat):Int)) (by rw [aZZ];omega)) ?_
   refine R0 2 O ?_
   exact dN (LI.m [] O)
  refine iF ?_
  rw [show n % 18446744073709551616=((n.natAbs:Nat):Int) by omega]
  exact dN (LI.m [] O)
 have hJ7:=hJ
 refine hJ7.open fun e zj7 hzj7=>?_
 refine R4 16 O (mB O (wDm _) (lC O (lB O O (aN9 (n:=n.natAbs / 4294967296) (by decide) (O)) (mB O (wD (O) (by omega)) ?_))))
 refine bAi O O (Nat.mod_lt _ (by decide)) (by omega) O fun b17=>?_
 refine Bo (n:=2) z zj7 (p:=[]) O O zI (O) (by omega) fun zf17 hzf17 hf17=>?_
 refine lZ zf17 (Ff (by omega) (hf17.mono gU) (by simp)) O O fun v18 z18 _ hr18=>?_
 rw [aZ9 (by omega)] at hr18
 obtain ⟨c18,rfl,_⟩:=hr18.one
 have hr18:=hr18.mono (zA (hzj7.trans hzf17))
 refine lE z18 (qL (by omega) (hr18.mono gU)) O O fun z19 _=>?_
 refine iE O O iP (lN (xT (rQ (.inl O) (rc2 O mem0 rn) ?_)))
 rw [bGd]
 exact ⟨_,rfl,(hr18.mono (mX zI))⟩
theorem aU8 {k:Nat} (hk:6≤k) {z:dE} {n1:Bool} {c1:C} {l1:List UInt32} (hx:CZ 1 RW z c1 l1) {n2:Bool} {c2:C} {l2:List UInt32} (hy:CZ 1 RW z c2 l2) (h1:l1.length≤20000000) (h2:l2.length≤20000000):FC (E k) 153 [.agg [Cb n1,c1],.agg [Cb n2,c2]] z fun v z'=>IV (zd z z') v (kN (n1,l1)+kN (n2,l2)):=by
 refine cX (bC1) (by omega) (aU O) fun B j hj=>?_
 refine xR ?_
 refine iJ O fun b2=>?_
 refine iJ O fun b3=>?_
 refine nJ fun b4=>?_
 refine lN (gX (J3 O O (.inr Y2) O ?_))
 refine gC z (Bh (by omega) hx) O O O O fun v6 z6 hz6 hv6=>?_
 obtain ⟨c6,rfl,hq6⟩:=hv6
 have h6:=hq6 _ (hx.mono (zJ z6))
 refine J3 O O (.inr Y1) O ?_
 refine gC z6 (Bh (by omega) hy.m) O O O O fun v8 z8 hz8 hv8=>?_
 obtain ⟨c8,rfl,hq8⟩:=hv8
 have h8:=hq8 _ (hy.mono (zJ z8))
 refine gC z8 (Yt (by omega) h6.m h8 (by have:=Es (n:=n1) (l:=l1);omega) (by have:=Es (n:=n2) (l:=l2);omega)) O O O O fun v9 z9 _ hv9=>?_
 obtain ⟨c9,rfl,h9⟩:=hv9
 have h9:=h9.mono (zA (hz6.trans hz8))
 refine gS O O O (iE O O iP (lN (mQ (xT (rQ (.inl O) (rc2 O mem0 rn) ?_)))))
 exact ⟨_,rfl,h9⟩
theorem bBp {k:Nat} (hk:6≤k) {z:dE} {n1:Bool} {c1:C} {l1:List UInt32} (hx:CZ 1 RW z c1 l1) {n2:Bool} {c2:C} {l2:List UInt32} (hy:CZ 1 RW z c2 l2) (h1:l1.length≤20000000) (h2:l2.length≤20000000):FC (E k) 174 [.agg [Cb n1,c1],.agg [Cb n2,c2]] z fun v z'=>IV (zd z z') v (kN (n1,l1) - kN (n2,l2)):=by
 refine cX (bCy) (by omega) (aU O) fun B j hj=>?_
 refine xR ?_
 refine iJ O fun b2=>?_
 refine iJ O fun b3=>?_
 refine nJ fun b4=>?_
 refine lN (gX (J3 O O (.inr Y2) O ?_))
 refine gC z (Bh (by omega) hx) O O O O fun v6 z6 hz6 hv6=>?_
 obtain ⟨c6,rfl,hq6⟩:=hv6
 have h6:=hq6 _ (hx.mono (zJ z6))
 refine J3 O O (.inr Y1) O ?_
 refine gC z6 (Bh (by omega) hy.m) O O O O fun v8 z8 hz8 hv8=>?_
 obtain ⟨c8,rfl,hq8⟩:=hv8
 have h8:=hq8 _ (hy.mono (zJ z8))
 refine gE z8 (Sr (by omega) h8) O O O O fun z9 hz9=>?_
 refine gC z9 (Yt (by omega) h6.m (b := -kN (n2,l2)) (by rw [Int.natAbs_neg];exact h8.m) (by have := Es (n := n1) (l := l1);omega) (by rw [Int.natAbs_neg];have := Es (n := n2) (l := l2);omega)) O O O O fun v10 z10 _ hv10=>?_
 obtain ⟨c10,rfl,h10⟩:=hv10
 have h10:=h10.mono (zA (hz6.trans (hz8.trans hz9)))
 refine gS O O O (iE O O iP (lN (mQ (xT (rQ (.inl O) (rc2 O mem0 rn) ?_)))))
 rw [Int.sub_eq_add_neg]
 exact ⟨_,rfl,h10⟩
theorem N3 {k:Nat} (hk:4≤k) {z:dE} {n1:Bool} {c1:C} {l1:List UInt32} (hx:CZ 1 RW z c1 l1) {n2:Bool} {c2:C} {l2:List UInt32} (hy:CZ 1 RW z c2 l2) (h1:l1.length≤20000000) (h2:l2.length≤20000000):FC (E k) 106 [.agg [Cb n1,c1],.agg [Cb n2,c2]] z fun v z'=>IV (zd z z') v (kN (n1,l1) * kN (n2,l2)):=by
 refine cX (bBH) (by omega) (aU O) fun B j hj=>?_
 refine xR ?_
 refine iJ O fun b2=>?_
 refine iJ O fun b3=>?_
 refine nJ fun b4=>?_
 refine lN (gX (J3 O O (.inr Y2) O ?_))
 refine gC z (Bh (by omega) hx) O O O O fun v8 z8 hz8 hv8=>?_
 obtain ⟨c8,rfl,hq8⟩:=hv8
 have h8:=hq8 _ (hx.mono (zJ z8))
 refine J3 O O (.inr Y1) O ?_
 refine gC z8 (Bh (by omega) hy.m) O O O O fun v10 z10 hz10 hv10=>?_
 obtain ⟨c10,rfl,hq10⟩:=hv10
 have h10:=hq10 _ (hy.mono (zJ z10))
 refine gA O O (fun b5 hT5=>?_)
 refine gA O O (fun b6 hT6=>?_)
 refine gS O O O (iE O O P1 (lN (gS O O O (iE O O iP (lN (mQ (gX (G1 4 O (wH O O (.inr Y1) O (G1 4 O (wH O O Ht O (gP O O F ?_))))))))))))
 refine I3 O O (aDY _ _) (lN ?_)
 refine G1 4 O (wH O O (.inr Y1) O (G1 4 O (wH O O Ht O ?_)))
 refine gC z10 (bCf (by omega) h8.m h10 (by have:=Es (n:=n1) (l:=l1);omega) (by have:=Es (n:=n2) (l:=l2);omega)) O O O O fun v24 z24 _ hr24=>?_
 rw [gI,gI] at hr24
 obtain ⟨c24,rfl,_⟩:=hr24.one
 have hr24:=hr24.mono (zA (hz8.trans hz10))
 refine gE z24 (qL (by omega) (hr24.mono gU)) O O O O fun z25 _=>?_
 refine gS O O O (iE O O P2 (lN (mQ (xT (rQ (.inl O) (rc2 O Y2 rn) ?_)))))
 rw [aZP]
 refine ⟨_,O,?_⟩
 have hq:=(hr24.mono (mX (zJ z25)))
 rwa [← Int.natAbs_mul] at hq
theorem aUE {k:Nat} (hk:3≤k) {z:dE} {n:Bool} {c:C} {l:List UInt32} (hx:CZ 1 RW z c l) (h1:l.length≤20000000):FC (E k) 81 [.agg [Cb n,c]] z fun v z'=>IV (zd z z') v (-kN (n,l)):=by
 refine cX (bIn) (by omega) (aU O) fun B j hj=>?_
 refine xR ?_
 refine iJ O fun b1=>?_
 refine nJ fun b2=>?_
 refine lN (xR (jB O Y1 O ?_))
 refine lZ z (Bh (by omega) hx) O O fun v5 z5 hz5 hv5=>?_
 obtain ⟨c5,rfl,hq5⟩:=hv5
 have h5:=hq5 _ (hx.mono (zJ z5))
 refine lE z5 (Sr (by omega) h5) O O fun z6 hz6=>?_
 refine nJ fun b3=>?_
 refine iE O O iP (lN (gX (G1 4 O (wH O O Ht O (G1 4 O (wH O O Ht O ?_))))))
 refine gC z6 (aCl (by omega) h5.m (by have:=Es (n:=n) (l:=l);omega)) O O O O fun v13 z13 _ hr13=>?_
 obtain ⟨c13,rfl,_⟩:=hr13.one
 have hr13:=hr13.mono (zA (hz5.trans hz6))
 refine gP O O F ?_
 refine iU (cs:=[_,_]) O (lN ?_)
 refine gS O O O (iE O O P1 (lN (mQ (xT (rQ (.inl O) (rc2 O Y1 rn) ?_)))))
 refine ⟨_,O,?_⟩
 rw [Int.natAbs_neg]
 exact hr13
theorem bAo {k:Nat} (hk:3≤k) {z:dE} {n:Bool} {c:C} {l:List UInt32} (hx:CZ 1 RW z c l) (h1:l.length≤20000000):FC (E k) 82 [.agg [Cb n,c]] z fun v z'=>IV (zd z z') v ((kN (n,l)).natAbs):=by
  refine cX (bEK) (by omega) (aU O) fun B j hj=>?_
  refine xR ?_
  refine iJ O fun b1=>?_
  refine nJ fun b2=>?_
  refine lN (xR (jB O Y1 O ?_))
  refine lZ z (Bh (by omega) hx) O O fun v4 z4 hz4 hv4=>?_
  obtain ⟨c4,rfl,hq4⟩:=hv4
  have h4:=hq4 _ (hx.mono (zJ z4))
  refine aM8 O O (aDI O O ?_)
  refine lZ z4 (aCl (by omega) h4 (by have:=Es (n:=n) (l:=l);omega)) O O fun v7 z7 _ hr7=>?_
  obtain ⟨c7,rfl,_⟩:=hr7.one
  have hr7:=hr7.mono (zA (hz4))
  refine iU (cs:=[_,_]) O (iE O O iP (lN (xT (rQ (.inl O) (rc2 O mem0 rn) ?_))))
  refine ⟨c7,?_,?_⟩
  · rw [decide_eq_false (by omega)]
    rfl
  · exact hr7
theorem Wm {k:Nat} (hk:3≤k) {z:dE} {n:Bool} {c:C} {l:List UInt32} (hx:CZ 1 RW z c l):FC (E k) 103 [.agg [Cb n,c]] z fun v _=>v=.c (.v (.int .i64 (kN (n,l)).sign)):=by
 refine cX (bCi) (by omega) (aU O) fun B j hj=>?_
 refine xR ?_
 refine iJ O fun b1=>?_
 refine R2 8 O (jB O mem0 O ?_)
 refine lZ z (Bh (by omega) hx) O O fun v5 z5 _ hv5=>?_
 obtain ⟨c5,rfl,hq5⟩:=hv5
 have h5:=hq5 _ (hx.mono (zJ z5))
 refine nJ fun b3=>?_
 refine iE O O iP (lN ?_)
 refine aT (aQ ?_)
 refine R4 8 O (bQ O mem0 O (R0 2 O ?_))
 refine iO O (fun hc6=>?_) (fun hc6=>?_)
 ·refine R5 4 O (xT (lS (rI O ?_)))
  rw [aYH,if_pos (of_decide_eq_true hc6)]
  rfl
 refine R4 8 O (bQ O mem0 O (aS O h5 (R0 4 O ?_)))
 refine xD O (fun hc10=>?_) (fun hc10=>?_)
 ·refine R5 4 O (xT (lS (rI O ?_)))
  rw [aYH,if_neg (of_decide_eq_false hc6),if_pos (aJH (by omega))]
  rfl
 refine iF (dN (R5 4 O (xT (rI O ?_))))
 rw [aYH,if_neg (of_decide_eq_false hc6),if_neg (by have:=aAd (n:=(kN (n,l)).natAbs) (by omega);omega)]
 rfl
theorem aSl {k:Nat} (hk:7≤k) {z:dE} {n1:Bool} {c1:C} {l1:List UInt32} (hx:CZ 1 RW z c1 l1) {n2:Bool} {c2:C} {l2:List UInt32} (hy:CZ 1 RW z c2 l2) (h1:l1.length≤20000000) (h2:l2.length≤20000000):FC (E k) 107 [.agg [Cb n1,c1],.agg [Cb n2,c2]] z fun v _=>v=.c (.v (.int .i64 (kN (n1,l1) - kN (n2,l2)).sign)):=by
 refine cX (bBw) (by omega) (aU O) fun B j hj=>?_
 refine xR ?_
 refine iJ O fun b2=>?_
 refine iJ O fun b3=>?_
 refine R2 4 O (jB O Y1 O (jB O mem0 O ?_))
 refine lZ z (bBp (by omega) hx hy h1 h2) O O fun v7 z7 _ hv7=>?_
 obtain ⟨c7,rfl,h7⟩:=hv7
 have hb7:(toL (kN (n1,l1) - kN (n2,l2)).natAbs).length≤40000001:=bOG (k:=20000000) (j:=20000000) (Nat.le_trans Es h1) (Nat.le_trans Es h2)
 refine lZ z7 (Wm (by omega) (h7.mono gU)) O O fun v8 z8 _ hv8=>?_
 rw [hZ] at hv8
 refine R0 3 O (xT ?_)
 exact rI O hv8
open Go.CE Go.RowKit Go.Num
open Go.Eng (oH)
theorem bRg {n:Nat} (h:(0:Int)<(n:Int)):0<n:=by omega
theorem bPT {n:Nat} (h:¬ (0:Int)<(n:Int)):n=0:=by omega
theorem bT8 {a b:Int} (h:¬ decide (a<0)=decide (b<0)) (h2:(0:Int)<(((toL (a.natAbs % b.natAbs)).length:Nat):Int)) (hb:b≠0):sgn (!decide (decide (a<0)=decide (b<0))) (a.natAbs / b.natAbs+1)=a.fdiv b∧sgn (decide (b<0)) (b.natAbs - a.natAbs % b.natAbs)=a.fmod b:=bIf h (aJH (bRg h2)) hb
theorem bSq {a b:Int} (h2:¬ (0:Int)<(((toL (a.natAbs % b.natAbs)).length:Nat):Int)) (hb:b≠0):sgn (!decide (decide (a<0)=decide (b<0))) (a.natAbs / b.natAbs)=a.fdiv b∧sgn (decide (b<0)) (a.natAbs % b.natAbs)=a.fmod b:=aXW (.inr (aAd (bPT h2))) hb
theorem bUo {a b:Int} (h:decide (a<0)=decide (b<0)) (hb:b≠0):sgn (!decide (decide (a<0)=decide (b<0))) (a.natAbs / b.natAbs)=a.fdiv b∧sgn (decide (b<0)) (a.natAbs % b.natAbs)=a.fmod b:=aXW (.inl h) hb
theorem aEN {z:dE} {v:AV} {c:C} {b:Bool} {m:Nat} {y:Int} (e:sgn b m=y) (h:v=.agg [Cb (decide (sgn b m<0)),c]) (hq:CZ 1 RW z c (toL m)):IV z v y:=by
 subst e
 exact ⟨c,h,by rwa [aC0]⟩
theorem La {k:Nat} (hk:6≤k) {z:dE} {n1:Bool} {c1:C} {l1:List UInt32} (hx:CZ 1 RW z c1 l1) {n2:Bool} {c2:C} {l2:List UInt32} (hy:CZ 1 RW z c2 l2) (h1:l1.length≤20000000) (h2:l2.length≤20000000) (hb:kN (n2,l2)≠0):FC (E k) 101 [.agg [Cb n1,c1],.agg [Cb n2,c2]] z fun v z'=>∃ v1 v2,v=.tup [v1,v2,Ai 0]∧IV (zd z z') v1 ((kN (n1,l1)).fdiv (kN (n2,l2)))∧IV (zd z z') v2 ((kN (n1,l1)).fmod (kN (n2,l2))):=by
 have hla:=Es (n:=n1) (l:=l1)
 have hlb:=Es (n:=n2) (l:=l2)
 have hbp:0<(kN (n2,l2)).natAbs:=by omega
 have hml:=Nat.le_of_lt (Nat.mod_lt (kN (n1,l1)).natAbs hbp)
 have hlr:=D1 hml
 have hlq:=D1 (Nat.div_le_self (kN (n1,l1)).natAbs (kN (n2,l2)).natAbs)
 refine cX (bBM) (by omega) (aU O) fun B j hj=>?_
 refine xR ?_
 refine iJ O fun b2=>?_
 refine iJ O fun b3=>?_
 refine nJ fun b4=>?_
 refine nJ fun b5=>?_
 refine R0 2 O (gX (J3 O O (.inr Y3) O ?_))
 refine gC z (Bh (by omega) hx) O O O O fun v12 z12 hz12 hv12=>?_
 obtain ⟨c12,rfl,hq12⟩:=hv12
 have h12:=hq12 _ (hx.mono (zJ z12))
 refine J3 O O (.inr Y2) O ?_
 refine gC z12 (Bh (by omega) hy.m) O O O O fun v14 z14 hz14 hv14=>?_
 obtain ⟨c14,rfl,hq14⟩:=hv14
 have h14:=hq14 _ (hy.mono (zJ z14))
 refine gA O O (fun b7 hT7=>?_)
 refine gA O O (fun b8 hT8=>?_)
 refine gS O O O (iE O O P1 (lN (gS O O O (iE O O iP (lN (mQ (R4 8 O (bQ O Y1 O (R1 4 O (bQ O mem0 O ?_))))))))))
 refine lZ z14 (aMu (by omega) h12.m h14 (by have:=Es (n:=n1) (l:=l1);omega) (by have:=Es (n:=n2) (l:=l2);omega)) O O fun v22 z22 hz22 ⟨_,hv22⟩=>?_
 rw [gI,gI] at hv22
 obtain ⟨wq,wr,rfl,hq22,hr22⟩:=hv22 (by omega)
 obtain ⟨cq,rfl,_⟩:=hq22.one
 obtain ⟨cr,rfl,_⟩:=hr22.one
 have hq22:=hq22.mono (zA (hz12.trans hz14))
 have hr22:=hr22.mono (zA (hz12.trans hz14))
 refine R3 4721 O ?_
 refine uG O (fun hc27=>?_) (fun hc27=>?_)
 ·exact absurd rfl hc27
 refine R4 32 O (bQ O Y1 O (R1 4 O (bQ O mem0 O (I3 O O (aDY _ _) (lC O ?_)))))
 refine qZ 37 O (fun hg37=>?_) (fun hg37=>?_)
 ·refine lD O (lM O (lD O (aS O (hr22.mono gU) (R3 8 O ?_))))
  refine xD O (fun hc41=>?_) (fun hc41=>?_)
  ·refine R4 12 O ?_
   refine bAa (n:=1) O (by decide) O fun b43=>?_
   refine Bo (n:=1) z z22 (p:=[]) O O zI (O) (by omega) fun zf43 hzf43 hf43=>?_
   refine lZ zf43 (aTA (by omega) hq22.m (hf43.mono gU) (by omega) (by simp)) O O fun v44 z44 hz44 ha44=>?_
   rw [gI,aZV (by decide)] at ha44
   obtain ⟨ca,rfl,_⟩:=ha44.one
   have ha44:=ha44.mono (zA (hz12.trans (hz14.trans (hz22.trans hzf43))))
   refine R2 17 O (bQ O mem0 O (lM O ?_))
   refine lZ z44 (aJ6 (by omega) h14.m hr22.m (by omega) (by omega)) O O fun v50 z50 _ ⟨_,hv50⟩=>?_
   rw [gI,gI] at hv50
   have hv50:=hv50 hml
   obtain ⟨w50,hw50,hs50⟩:=hv50
   subst hw50
   obtain ⟨cs50,rfl,_⟩:=hs50.one
   have hs50:=hs50.mono (zA (hz12.trans (hz14.trans (hz22.trans (hzf43.trans hz44)))))
   refine R0 25 O (gX (G1 4 O (wH O O (.inr Y1) O (G1 4 O (wH O O Ht O (gP O O F ?_))))))
   refine I3 O O (aDY _ _) (lN ?_)
   refine G1 3 O ?_
   refine gE z50 (qL (by omega) ha44.m) O O O O fun z61 hz61=>?_
   refine G1 4 O (wH O O Ht O (G1 3 O ?_))
   refine gE z61 (qL (by omega) hs50.m) O O O O fun z66 hz66=>?_
   refine gS O O O (iE O O P3 (lN (gS O O O (iE O O P2 (lN (G0 2 O (xT (rQ (.inl O) (rc2 O Y3 (rc2 O Y2 (rt O rn))) ?_))))))))
   have he:=bT8 hg37 hc41 hb
   exact ⟨_,_,rfl,aEN he.1 rfl (ha44.mono (mX zI)),aEN he.2 rfl (hs50.mono (mX zI))⟩
  refine dA (gX (G1 4 O (wH O O (.inr Y1) O (G1 4 O (wH O O Ht O (gP O O F ?_))))))
  refine I3 O O (aDY _ _) (lN ?_)
  refine G1 3 O ?_
  refine gE z22 (qL (by omega) (hq22.mono gU)) O O O O fun z61 hz61=>?_
  refine G1 4 O (wH O O Ht O (G1 3 O ?_))
  refine gE z61 (qL (by omega) hr22.m) O O O O fun z66 hz66=>?_
  refine gS O O O (iE O O P3 (lN (gS O O O (iE O O P2 (lN (G0 2 O (xT (rQ (.inl O) (rc2 O Y3 (rc2 O Y2 (rt O rn))) ?_))))))))
  have he:=bSq hc41 hb
  exact ⟨_,_,rfl,aEN he.1 rfl (hq22.mono (mX zI)),aEN he.2 rfl (hr22.mono (mX zI))⟩
 refine R3 128 O (gX (G1 4 O (wH O O (.inr Y1) O (G1 4 O (wH O O Ht O (gP O O F ?_))))))
 refine I3 O O (aDY _ _) (lN ?_)
 refine G1 3 O ?_
 refine gE z22 (qL (by omega) (hq22.mono gU)) O O O O fun z61 hz61=>?_
 refine G1 4 O (wH O O Ht O (G1 3 O ?_))
 refine gE z61 (qL (by omega) hr22.m) O O O O fun z66 hz66=>?_
 refine gS O O O (iE O O P3 (lN (gS O O O (iE O O P2 (lN (G0 2 O (xT (rQ (.inl O) (rc2 O Y3 (rc2 O Y2 (rt O rn))) ?_))))))))
 have he:=bUo hg37 hb
 exact ⟨_,_,rfl,aEN he.1 rfl (hq22.mono (mX zI)),aEN he.2 rfl (hr22.mono (mX zI))⟩
theorem aUB {k:Nat} (hk:7≤k) {z:dE} {n1:Bool} {c1:C} {l1:List UInt32} (hx:CZ 1 RW z c1 l1) {n2:Bool} {c2:C} {l2:List UInt32} (hy:CZ 1 RW z c2 l2) (h1:l1.length≤20000000) (h2:l2.length≤20000000):FC (E k) 167 [.agg [Cb n1,c1],.agg [Cb n2,c2]] z fun v z'=>IV (zd z z') v (Int.gcd (kN (n1,l1)) (kN (n2,l2))):=by
 refine cX (bCx) (by omega) (aU O) fun B j hj=>?_
 refine xR ?_
 refine iJ O fun b2=>?_
 refine iJ O fun b3=>?_
 refine nJ fun b4=>?_
 refine lN (gX (J3 O O (.inr Y2) O ?_))
 refine gC z (Bh (by omega) hx) O O O O fun v6 z6 hz6 hv6=>?_
 obtain ⟨c6,rfl,hq6⟩:=hv6
 have h6:=hq6 _ (hx.mono (zJ z6))
 refine gP O O F ?_
 refine aM8 O O (lN ?_)
 refine gP O O F ?_
 refine aDI O O (lN ?_)
 refine J3 O O (.inr Y1) O ?_
 refine gC z6 (Bh (by omega) hy.m) O O O O fun v10 z10 hz10 hv10=>?_
 obtain ⟨c10,rfl,hq10⟩:=hv10
 have h10:=hq10 _ (hy.mono (zJ z10))
 refine gP O O F ?_
 refine aM8 O O (lN ?_)
 refine gP O O F ?_
 refine aDI O O (lN ?_)
 refine qT (k:=.cells 22 [c6,c10]) (w:=fun b=>Aw b 2) rfl F rfl (fun _=>rfl) (fun st hst=>?_) (fun b13 hT13=>?_)
 ·simp only [eE,uZ,AS.ev,hst 8 (by simp [jM.sl,Od.sls,Od.sl]),hst 12 (by simp [jM.sl,Od.sls,Od.sl])];rfl
 refine zW z10 (p:=[]) O O O (fun _ h=>h) fun zfg13 hzfg13 g13=>?_
 have hrow:=bWc h6.m h10.m g13
 refine gC zfg13 (bAZ (by omega) hrow (by intro l hl;rcases List.mem_cons.1 hl with rfl | hl;exact (by have:=Es (n:=n1) (l:=l1);omega);rcases List.mem_cons.1 hl with rfl | hl;exact (by have:=Es (n:=n2) (l:=l2);omega);cases hl)) O O O O fun v14 z14 _ hr14=>?_
 rw [bRv,gI,gI] at hr14
 obtain ⟨c14,rfl,_⟩:=hr14.one
 have hr14:=hr14.mono (zA (hz6.trans (hz10.trans hzfg13)))
 refine gE z14 (qL (by omega) (hr14.mono gU)) O O O O fun z15 _=>?_
 refine gS O O O (iE O O iP (lN (mQ (xT (rQ (.inl O) (rc2 O mem0 rn) ?_)))))
 rw [show sgn false (Nat.gcd (kN (n1,l1)).natAbs (kN (n2,l2)).natAbs)=((Int.gcd (kN (n1,l1)) (kN (n2,l2)):Nat):Int) from rfl]
 exact ⟨_,rfl,(hr14.mono (mX zI))⟩
open Go.CE Go.RowKit Go.Num
open Go.Eng (oH)
theorem bKb {a b:Int} {k:Nat} (h1:(toL a.natAbs).length≤k) (h2:(toL b.natAbs).length≤k):(toL ((Int.gcd a b:Nat):Int).natAbs).length≤k:=by
  rw [Int.natAbs_natCast]
  rcases Nat.eq_zero_or_pos b.natAbs with h | h
  · have e : Int.gcd a b = a.natAbs := by unfold Int.gcd; rw [h, Nat.gcd_zero_right]
    rw [e];exact h1
  · exact Nat.le_trans (D1 (Nat.gcd_le_right _ h)) h2
theorem bPJ:(toL (1:Int).natAbs).length≤20000000:=Nat.le_trans (m:=1) (mV.2 (by decide)) (by decide)
theorem bRX {x y:aRS} (h:yN x=false):false=vP (x,y):=by simp [vP,h]
theorem bRO {x y:aRS} (h:yN y=false):false=vP (x,y):=by simp [vP,h]
theorem aB6 {a:Int}:0<a.sign↔0<a:=by
 rcases Int.lt_trichotomy a 0 with h | h | h
 ·rw [Int.sign_eq_neg_one_of_neg h];omega
 ·rw [h];decide
 rw [Int.sign_eq_one_of_pos h];omega
theorem aBJ {a:Int}:a.sign<0↔a<0:=by
 rcases Int.lt_trichotomy a 0 with h | h | h
 ·rw [Int.sign_eq_neg_one_of_neg h];omega
 ·rw [h];decide
 rw [Int.sign_eq_one_of_pos h];omega
theorem aX4 {a:Int} (h:a.sign<0):a<0:=aBJ.1 h
theorem aUM {a:Int} (h:¬ a.sign<0):¬ a<0:=fun k=>h (aBJ.2 k)
theorem bRt {x y:aRS} (h:¬ 0<(kN y).sign):false=vP (x,y):=by
 have:¬ 0<kN y:=fun k=>h (aB6.2 k)
 simp [vP,this]
theorem bTW {x y:aRS} (h1:yN x=true) (h2:yN y=true) (h3:0<(kN y).sign):decide ((((Int.gcd (kN x) (kN y):Nat):Int) - 1).sign=0)=vP (x,y):=by
 have h4:=aB6.1 h3
 have e:((((Int.gcd (kN x) (kN y):Nat):Int) - 1).sign=0)↔Int.gcd (kN x) (kN y)=1:=by
  rw [Int.sign_eq_zero_iff_zero];omega
 simp [vP,h1,h2,h4,e]
theorem aFr {z:dE} {c d:C} {x y:Int} {q:Rat} (e1:x=q.num) (e2:y=(q.den:Int)) (h1:CZ 1 RW z c (toL x.natAbs)) (h2:CZ 1 RW z d (toL y.natAbs)):QV z (.agg [Cb (decide (x<0)),c,Cb (decide (y<0)),d]) q:=by
 subst e1
 subst e2
 exact ⟨c,d,rfl,h1,h2⟩
theorem bJi {z:dE} {c:C} {x:Ni} (hr:vP x=false) (h:CZ 1 RW z c (toL (1:Int).natAbs)):QV z (.agg [Cb false,Cz,Cb (decide ((1:Int)<0)),c]) (valR x):=by
 have e:valR x=0:=by simp [Num.valR,hr]
 rw [e]
 exact aFr (x:=0) (y:=1) rfl rfl (by rw [show toL (0:Int).natAbs=[] from uO];exact .nil) h
theorem aWo {z:dE} {n1 n2:Bool} {c1 c2:C} {l1 l2:List UInt32} (hr:vP ((n1,l1),(n2,l2))=true) (hx:CZ 1 RW z c1 l1) (hy:CZ 1 RW z c2 l2):QV z (.agg [Cb n1,c1,Cb n2,c2]) (valR ((n1,l1),(n2,l2))):=by
 obtain ⟨e1,e2⟩:=S5 hr
 obtain ⟨r1,r2,_⟩:=aC3 hr
 obtain ⟨a1,a2⟩:=aWq (n:=n1) (l:=l1) r1
 obtain ⟨b1,b2⟩:=aWq (n:=n2) (l:=l2) r2
 have hq:=aFr (c:=c1) (d:=c2) e1.symm e2.symm (by rw [← a2];exact hx) (by rw [← b2];exact hy)
 rwa [← a1,← b1] at hq
theorem aZ8 {a b g:Int} (hb:b≠0) (hg:g=if b<0 then -((Int.gcd a b:Nat):Int) else ((Int.gcd a b:Nat):Int)):a.fdiv g=(Rat.divInt a b).num∧b.fdiv g=((Rat.divInt a b).den:Int):=by
 have h:=aYQ hb hg
 have d1:g ∣ a:=by rw [hg];split;exact Int.neg_dvd.2 (Int.gcd_dvd_left a b);exact Int.gcd_dvd_left a b
 have d2:g ∣ b:=by rw [hg];split;exact Int.neg_dvd.2 (Int.gcd_dvd_right a b);exact Int.gcd_dvd_right a b
 rw [Int.fdiv_eq_ediv_of_dvd d1,Int.fdiv_eq_ediv_of_dvd d2]
 exact ⟨congrArg Prod.fst h,congrArg Prod.snd h⟩
theorem aOj {k:Nat} (hk:4≤k) {z:dE}  : FC (E k) 104 [] z fun v z'=>IV (zd z z') v 1:=by
 refine cX (bBO) (by omega) (aU O) fun B j hj=>?_
 refine xR ?_
 refine nJ fun b0=>?_
 refine lN (xR ?_)
 refine lZ z (aTQ (n:=1) (by omega) (by decide) (by decide)) O O fun v1 z1 _ hv1=>?_
 obtain ⟨c1,rfl,h1⟩:=hv1
 refine iE O O iP (lN (xT (rQ (.inl O) (rc2 O mem0 rn) ?_)))
 exact ⟨_,rfl,h1⟩
theorem aFS {k:Nat} (hk:8≤k) {z:dE} {n1 n2:Bool} {c1 c2:C} {l1 l2:List UInt32} (hx:CZ 1 RW z c1 l1) (hy:CZ 1 RW z c2 l2) (h1:l1.length≤20000000) (h2:l2.length≤20000000):FC (E k) 100 [.agg [Cb n1,c1,Cb n2,c2]] z fun v _=>v=Ab (vP ((n1,l1),(n2,l2))):=by
 have hla:=Es (n:=n1) (l:=l1)
 have hlb:=Es (n:=n2) (l:=l2)
 have hlg:=bKb (Nat.le_trans hla h1) (Nat.le_trans hlb h2)
 refine cX (bCL) (by omega) (aU O) fun B j hj=>?_
 refine xR ?_
 refine iJ O fun b1=>?_
 refine R2 8 O (jB O mem0 O ?_)
 refine lE z (aFW (by omega) hx) O O fun z5 hz5=>?_
 refine lM O ?_
 refine jI 6 O (fun hg6=>?_) (fun hg6=>?_)
 ·refine lD O (lF O (lD O (jB O mem0 O (lD O ?_))))
  refine lE z5 (aFW (by omega) hy.m) O O fun z9 hz9=>?_
  refine R1 6 O ?_
  refine jI 11 O (fun hg11=>?_) (fun hg11=>?_)
  ·refine lD O (lF O (lD O (jB O mem0 O (lD O ?_))))
   refine lE z9 (Wm (by omega) hy.m) O O fun z14 hz14=>?_
   refine R1 12 O ?_
   refine iW 17 O (fun hg17=>?_) (fun hg17=>?_)
   ·refine lD O (lF O (lD O (jB O mem0 O (lD O (lF O (lD O (jB O mem0 O (lD O ?_))))))))
    refine lZ z14 (aUB (by omega) hx.m hy.m h1 h2) O O fun v22 z22 hz22 hv22=>?_
    obtain ⟨c22,rfl,h22⟩:=hv22
    have h22:=h22.mono (zA (hz5.trans (hz9.trans hz14)))
    refine lD O ?_
    refine lZ z22 (aOj (by omega)) O O fun v23 z23 _ hv23=>?_
    obtain ⟨c23,rfl,h23⟩:=hv23
    have h23:=h23.mono (zA (hz5.trans (hz9.trans (hz14.trans hz22))))
    refine lD O ?_
    refine lZ z23 (aSl (by omega) h22.m (h23.mono gU) hlg bPJ) O O fun v24 z24 _ hv24=>?_
    rw [hZ,hZ] at hv24
    subst hv24
    refine R0 12 O (xT ?_)
    exact rI O (cQ (bTW hg6 hg11 hg17))
   refine R0 1536 O (xT ?_)
   exact rI O (cQ (bRt hg17))
  refine R0 98336 O (xT ?_)
  exact rI O (cQ (bRO hg11))
 refine R0 3146768 O (xT ?_)
 exact rI O (cQ (bRX hg6))
theorem B0 {k:Nat} (hk:9≤k) {z:dE} {n1 n2:Bool} {c1 c2:C} {l1 l2:List UInt32} (hx:CZ 1 RW z c1 l1) (hy:CZ 1 RW z c2 l2) (h1:l1.length≤20000000) (h2:l2.length≤20000000):FC (E k) 80 [.agg [Cb n1,c1,Cb n2,c2]] z fun v z'=>∀ zz,CZ 1 RW zz c1 l1→CZ 1 RW zz c2 l2→zle (zd z z') zz→QV zz v (valR ((n1,l1),(n2,l2))):=by
 refine cX (bDX) (by omega) (aU O) fun B j hj=>?_
 refine xR ?_
 refine iJ O fun b1=>?_
 refine vO fun b2=>?_
 refine lN (R4 4 O (kJ O Y1 O ?_))
 refine lE z (aFS (by omega) hx hy h1 h2) O O fun z4 hz4=>?_
 refine R3 4 O ?_
 refine iO O (fun hc5=>?_) (fun hc5=>?_)
 ·refine R4 4 O (iU (cs:=[_,_]) O ?_)
  refine lZ z4 (aOj (by omega)) O O fun v7 z7 _ hv7=>?_
  obtain ⟨c7,rfl,h7⟩:=hv7
  have h7:=h7.mono (zA (hz4))
  refine iU (cs:=[_,_,_,_]) O (nN O O iP (lN (mN (rQ (.inl O) (rc4 O mem0 rn) ?_))))
  exact fun zz _ _ hz=>bJi (by simpa using hc5) ((h7).mono hz)
 refine R4 4 O (kJ O Y1 O (nN O O iP (lN (xT (rQ (.inl O) (rc4 O mem0 rn) ?_)))))
 exact fun zz hx hy _=>aWo (by simpa using hc5) hx hy
theorem aAB {k:Nat} (hk:8≤k) {z:dE} {a b:Int} {c1 c2:C} (hx:CZ 1 RW z c1 (toL a.natAbs)) (hy:CZ 1 RW z c2 (toL b.natAbs)) (h1:(toL a.natAbs).length≤20000000) (h2:(toL b.natAbs).length≤20000000) (hb:b≠0):FC (E k) 105 [.agg [Cb (decide (a<0)),c1],.agg [Cb (decide (b<0)),c2]] z fun v z'=>QV (zd z z') v (Rat.divInt a b):=by
 have hlg:=bKb h1 h2
 have hgn:((Int.gcd a b:Nat):Int)≠0:=by have:=Int.gcd_pos_of_ne_zero_right a hb;omega
 refine cX (bBo) (by omega) (aU O) fun B j hj=>?_
 refine xR ?_
 refine iJ O fun b2=>?_
 refine iJ O fun b3=>?_
 refine vO fun b4=>?_
 refine lN (xR (jB O Y2 O (jB O Y1 O ?_)))
 refine lZ z (aUB (by omega) hx hy h1 h2) O O fun v14 z14 hz14 hv14=>?_
 rw [hZ,hZ] at hv14
 obtain ⟨c14,rfl,h14⟩:=hv14
 refine nJ fun b5=>?_
 refine iE O O iP (lN (R4 4 O (jB O Y2 O ?_)))
 refine lZ z14 (Wm (by omega) hy.m) O O fun v16 z16 hz16 hv16=>?_
 rw [hZ] at hv16
 subst hv16
 refine R3 4 O ?_
 refine xD O (fun hc17=>?_) (fun hc17=>?_)
 ·refine xR (jB O mem0 O ?_)
  refine lZ z16 (aUE (by omega) h14.m hlg) O O fun v19 z19 hz19 hv19=>?_
  rw [hZ] at hv19
  obtain ⟨c19,rfl,h19⟩:=hv19
  have h19:=h19.mono (zA (hz14.trans hz16))
  refine iE O O iP (lN (xR (jB O Y3 O (jB O mem0 O ?_))))
  refine lZ z19 (La (by omega) hx.m (h19.mono gU) h1 (by first | exact hlg | (rw [Int.natAbs_neg];exact hlg)) (by rw [hZ];omega)) O O fun v23 z23 hz23 hv23=>?_
  rw [hZ,hZ] at hv23
  obtain ⟨v1,v2,hv,hp23,hr23⟩:=hv23
  subst hv
  obtain ⟨c23,hv,h23⟩:=hp23
  subst hv
  obtain ⟨d23,hv,_⟩:=hr23
  subst hv
  have h23:=h23.mono (zA (hz14.trans (hz16.trans hz19)))
  refine R1 17 O ?_
  refine nJ fun b6=>?_
  refine nJ fun b7=>?_
  refine iE O O P1 (iE O O iP (R2 5 O (jB O Y4 O (jB O Y2 O ?_))))
  refine lZ z23 (La (by omega) hy.m h19.m h2 (by first | exact hlg | (rw [Int.natAbs_neg];exact hlg)) (by rw [hZ];omega)) O O fun v30 z30 hz30 hv30=>?_
  rw [hZ,hZ] at hv30
  obtain ⟨v1,v2,hv,hp30,hr30⟩:=hv30
  subst hv
  obtain ⟨c30,hv,h30⟩:=hp30
  subst hv
  obtain ⟨d30,hv,_⟩:=hr30
  subst hv
  have h30:=h30.mono (zA (hz14.trans (hz16.trans (hz19.trans hz23))))
  refine R1 17 O ?_
  refine nJ fun b9=>?_
  refine nJ fun b10=>?_
  refine iE O O P1 (iE O O iP (R2 5 O (jB O Y3 O (jB O Y1 O (iU (cs:=[_,_,_,_]) O (nN O O (D5 (D5 P3)) (lN (xT (rQ (.inl O) (rc4 O (uD Y4) rn) ?_)))))))))
  have he:=aZ8 (a:=a) hb (if_pos (aX4 hc17)).symm
  exact aFr he.1 he.2 (h23.mono (mX zI)) h30
 refine R4 4 O (jB O Y3 O (jB O mem0 O ?_))
 refine lZ z16 (La (by omega) hx.m h14.m h1 (by first | exact hlg | (rw [Int.natAbs_neg];exact hlg)) (by rw [hZ];omega)) O O fun v23 z23 hz23 hv23=>?_
 rw [hZ,hZ] at hv23
 obtain ⟨v1,v2,hv,hp23,hr23⟩:=hv23
 subst hv
 obtain ⟨c23,hv,h23⟩:=hp23
 subst hv
 obtain ⟨d23,hv,_⟩:=hr23
 subst hv
 have h23:=h23.mono (zA (hz14.trans hz16))
 refine R1 17 O ?_
 refine nJ fun b6=>?_
 refine nJ fun b7=>?_
 refine iE O O P1 (iE O O iP (R2 5 O (jB O Y4 O (jB O Y2 O ?_))))
 refine lZ z23 (La (by omega) hy.m h14.m h2 (by first | exact hlg | (rw [Int.natAbs_neg];exact hlg)) (by rw [hZ];omega)) O O fun v30 z30 hz30 hv30=>?_
 rw [hZ,hZ] at hv30
 obtain ⟨v1,v2,hv,hp30,hr30⟩:=hv30
 subst hv
 obtain ⟨c30,hv,h30⟩:=hp30
 subst hv
 obtain ⟨d30,hv,_⟩:=hr30
 subst hv
 have h30:=h30.mono (zA (hz14.trans (hz16.trans hz23)))
 refine R1 17 O ?_
 refine nJ fun b9=>?_
 refine nJ fun b10=>?_
 refine iE O O P1 (iE O O iP (R2 5 O (jB O Y3 O (jB O Y1 O (iU (cs:=[_,_,_,_]) O (nN O O (D5 (D5 P3)) (lN (xT (rQ (.inl O) (rc4 O (uD Y4) rn) ?_)))))))))
 have he:=aZ8 (a:=a) hb (if_neg (aUM hc17)).symm
 exact aFr he.1 he.2 (h23.mono (mX zI)) h30
theorem Pg {k:Nat} (hk:5≤k) {z:dE} {n:Int} (h1 : -9223372036854775808≤n) (h2:n<9223372036854775808):FC (E k) 38 [Ai n] z fun v z'=>QV (zd z z') v (n:Rat):=by
 refine cX (bDY) (by omega) (aU O) fun B j hj=>?_
 refine xR ?_
 refine vO fun b2=>?_
 refine lN (R4 4 O ?_)
 refine lZ z (aTQ (by omega) h1 h2) O O fun v4 z4 hz4 hv4=>?_
 obtain ⟨c4,rfl,h4⟩:=hv4
 refine lZ z4 (aOj (by omega)) O O fun v5 z5 _ hv5=>?_
 obtain ⟨c5,rfl,h5⟩:=hv5
 have h5:=h5.mono (zA (hz4))
 refine iU (cs:=[_,_,_,_]) O (nN O O iP (lN (xT (rQ (.inl O) (rc4 O mem0 rn) ?_))))
 exact aFr (Rat.num_intCast n).symm rfl (h4.mono (mX zI)) h5
theorem aI8 {k:Nat} (hk:10≤k) {z:dE} {n1 n2:Bool} {c1 c2:C} {l1 l2:List UInt32} (hx:CZ 1 RW z c1 l1) (hy:CZ 1 RW z c2 l2) (h1:l1.length≤20000000) (h2:l2.length≤20000000):FC (E k) 46 [.agg [Cb n1,c1,Cb n2,c2]] z fun v _=>v=.c (.v (.int .i64 (valR ((n1,l1),(n2,l2))).num.sign)):=by
 refine cX (bF2) (by omega) (aU O) fun B j hj=>?_
 refine xR ?_
 refine iJ O fun b1=>?_
 refine R2 4 O (kJ O mem0 O ?_)
 refine lZ z (B0 (by omega) hx hy h1 h2) O O fun v4 z4 _ hv4=>?_
 have hw4:=hv4 _ hx.m hy.m gU
 obtain ⟨c4,d4,hv,hm4,hn4⟩:=hw4
 subst hv
 refine aM8 O O ?_
 refine lZ z4 (Wm (by omega) hm4) O O fun v6 z6 _ hv6=>?_
 rw [hZ] at hv6
 refine R0 3 O (xT ?_)
 exact rI O hv6
open Go.CE Go.RowKit Go.Num
open Go.Eng (oH)
theorem vR {z:dE} {v:AV} {q:Rat} (h:QV z v q):∃ c d,v=.agg [Cb (decide (q.num<0)),c,Cb (decide ((q.den:Int)<0)),d]∧CZ 1 RW z c (toL q.num.natAbs)∧CZ 1 RW z d (toL (q.den:Int).natAbs):=h
theorem Jg {a b:Int} {k j:Nat} (h1:(toL a.natAbs).length≤k) (h2:(toL b.natAbs).length≤j):(toL (a * b).natAbs).length≤k+j:=by
 refine mV.2 ?_
 rw [Int.natAbs_mul,Nat.pow_add]
 exact Nat.mul_lt_mul'' (mV.1 h1) (mV.1 h2)
theorem aVo {a b:Int} {k:Nat} (h1:(toL a.natAbs).length≤k) (h2:(toL b.natAbs).length≤k):(toL (a+b).natAbs).length≤k+1:=by
 refine mV.2 ?_
 have h3:=mV.1 h1
 have h4:=mV.1 h2
 have h7:Num.W ^ k * 2≤Num.W ^ k * Num.W:=Nat.mul_le_mul_left _ (by decide)
 rw [Nat.pow_succ]
 generalize Num.W ^ k * Num.W=X at *
 generalize Num.W ^ k=Y at *
 omega
theorem aEi {x:Ni}:(toL (Num.valR x).num.natAbs).length≤x.1.2.length:=by
 cases h:vP x with
 | true=>rw [(S5 h).1];exact Es
 | false=>rw [show Num.valR x=0 by simp [Num.valR,h]];rw [show toL (0:Rat).num.natAbs=[] from uO];simp
theorem aEn {x:Ni}:(toL ((Num.valR x).den:Int).natAbs).length≤x.2.2.length+1:=by
 cases h:vP x with
 | true=>rw [(S5 h).2];exact Nat.le_succ_of_le Es
 | false =>
  rw [show Num.valR x=0 by simp [Num.valR,h]]
  exact Nat.le_trans (m:=1) (mV.2 (by decide)) (by omega)
theorem bCh (p:Rat):(p.den:Int)≠0:=by have:=p.den_nz;omega
theorem bGg (p q:Rat):(p.den:Int) * (q.den:Int)≠0:=Int.mul_ne_zero (bCh p) (bCh q)
theorem bSe {p q:Rat}:Rat.divInt (p.num * q.num) ((p.den:Int) * (q.den:Int))=p * q:=by
 rw [← Rat.divInt_mul_divInt,Rat.num_divInt_den,Rat.num_divInt_den]
theorem bKD {p q:Rat}:Rat.divInt (p.num * (q.den:Int)+q.num * (p.den:Int)) ((p.den:Int) * (q.den:Int))=p+q:=by
 rw [← Rat.divInt_add_divInt _ _ (bCh p) (bCh q),Rat.num_divInt_den,Rat.num_divInt_den]
theorem bXg {p q:Rat} (h:((p.den:Int) - (q.den:Int)).sign=0):Rat.divInt (p.num+q.num) (p.den:Int)=p+q:=by
 have e:(q.den:Int)=(p.den:Int):=by rw [Int.sign_eq_zero_iff_zero] at h;omega
 rw [← bKD,e,← Int.add_mul,Rat.divInt_mul_right (bCh p)]
theorem aGu {k:Nat} (hk:10≤k) {z:dE} {n1 n2:Bool} {c1 c2:C} {l1 l2:List UInt32} (hx:CZ 1 RW z c1 l1) (hy:CZ 1 RW z c2 l2) (h1:l1.length≤9000000) (h2:l2.length≤9000000) {n3 n4:Bool} {c3 c4:C} {l3 l4:List UInt32} (hu:CZ 1 RW z c3 l3) (hw:CZ 1 RW z c4 l4) (h3:l3.length≤9000000) (h4:l4.length≤9000000):FC (E k) 40 [.agg [Cb n1,c1,Cb n2,c2],.agg [Cb n3,c3,Cb n4,c4]] z fun v _=>v=.c (.v (.int .i64 ((valR ((n1,l1),(n2,l2))).num * ((valR ((n3,l3),(n4,l4))).den:Int) - (valR ((n3,l3),(n4,l4))).num * ((valR ((n1,l1),(n2,l2))).den:Int)).sign)):=by
 have em1:=Nat.le_trans (aEi (x:=((n1,l1),(n2,l2)))) h1
 have en1:=Nat.le_trans (aEn (x:=((n1,l1),(n2,l2)))) (Nat.succ_le_succ h2)
 have em2:=Nat.le_trans (aEi (x:=((n3,l3),(n4,l4)))) h3
 have en2:=Nat.le_trans (aEn (x:=((n3,l3),(n4,l4)))) (Nat.succ_le_succ h4)
 have om1:=Nat.le_trans em1 (show 9000000≤20000000 by decide)
 have om2:=Nat.le_trans em2 (show 9000000≤20000000 by decide)
 have on1:=Nat.le_trans en1 (show 9000000+1≤20000000 by decide)
 have on2:=Nat.le_trans en2 (show 9000000+1≤20000000 by decide)
 have p1:=Jg em1 en2
 have p2:=Jg em2 en1
 have p1:=Nat.le_trans p1 (show 9000000+(9000000+1)≤20000000 by decide)
 have p2:=Nat.le_trans p2 (show 9000000+(9000000+1)≤20000000 by decide)
 refine cX (bIJ) (by omega) (aU O) fun B j hj=>?_
 refine xR ?_
 refine iJ O fun b2=>?_
 refine iJ O fun b3=>?_
 refine R0 2 O (gX (Qr O O (.inr Y1) O ?_))
 refine gC z (B0 (by omega) hx hy (Nat.le_trans h1 (show 9000000≤20000000 by decide)) (Nat.le_trans h2 (show 9000000≤20000000 by decide))) O O O O fun v6 z6 hz6 hv6=>?_
 have hw6:=vR (hv6 _ hx.m hy.m gU)
 obtain ⟨c6,d6,hv,hm6,hn6⟩:=hw6
 subst hv
 refine Qr O O Ht O ?_
 refine gC z6 (B0 (by omega) hu.m hw.m (Nat.le_trans h3 (show 9000000≤20000000 by decide)) (Nat.le_trans h4 (show 9000000≤20000000 by decide))) O O O O fun v8 z8 hz8 hv8=>?_
 have hw8:=vR (hv8 _ hu.m hw.m gU)
 obtain ⟨c8,d8,hv,hm8,hn8⟩:=hw8
 subst hv
 refine gS O O O (nN O O P1 (lN (gS O O O (nN O O iP (lN (mQ (gX (G1 2 O (J3 O O (.inr Y1) O (G1 2 O (J3 O O Ht O ?_)))))))))))
 refine gC z8 (N3 (by omega) hm6.m hn8 om1 on2) O O O O fun v13 z13 hz13 hv13=>?_
 rw [hZ,hZ] at hv13
 obtain ⟨c13,hv,h13⟩:=hv13
 subst hv
 have h13:=h13.mono (zA (hz6.trans hz8))
 refine G1 2 O (J3 O O Ht O (G1 2 O (J3 O O (.inr Y1) O ?_)))
 refine gC z13 (N3 (by omega) hm8.m hn6.m om2 on1) O O O O fun v18 z18 _ hv18=>?_
 rw [hZ,hZ] at hv18
 obtain ⟨c18,hv,h18⟩:=hv18
 subst hv
 have h18:=h18.mono (zA (hz6.trans (hz8.trans hz13)))
 refine gC z18 (aSl (by omega) h13.m (h18.mono gU) p1 p2) O O O O fun v19 z19 _ hv19=>?_
 rw [hZ,hZ] at hv19
 subst hv19
 refine G0 3 O (xT (rI O ?_))
 rfl
theorem bAm {k:Nat} (hk:10≤k) {z:dE} {n1 n2:Bool} {c1 c2:C} {l1 l2:List UInt32} (hx:CZ 1 RW z c1 l1) (hy:CZ 1 RW z c2 l2) (h1:l1.length≤9000000) (h2:l2.length≤9000000) {n3 n4:Bool} {c3 c4:C} {l3 l4:List UInt32} (hu:CZ 1 RW z c3 l3) (hw:CZ 1 RW z c4 l4) (h3:l3.length≤9000000) (h4:l4.length≤9000000):FC (E k) 39 [.agg [Cb n1,c1,Cb n2,c2],.agg [Cb n3,c3,Cb n4,c4]] z fun v z'=>QV (zd z z') v ((valR ((n1,l1),(n2,l2))) * (valR ((n3,l3),(n4,l4)))):=by
 have em1:=Nat.le_trans (aEi (x:=((n1,l1),(n2,l2)))) h1
 have en1:=Nat.le_trans (aEn (x:=((n1,l1),(n2,l2)))) (Nat.succ_le_succ h2)
 have em2:=Nat.le_trans (aEi (x:=((n3,l3),(n4,l4)))) h3
 have en2:=Nat.le_trans (aEn (x:=((n3,l3),(n4,l4)))) (Nat.succ_le_succ h4)
 have om1:=Nat.le_trans em1 (show 9000000≤20000000 by decide)
 have om2:=Nat.le_trans em2 (show 9000000≤20000000 by decide)
 have on1:=Nat.le_trans en1 (show 9000000+1≤20000000 by decide)
 have on2:=Nat.le_trans en2 (show 9000000+1≤20000000 by decide)
 have p1:=Jg em1 em2
 have p2:=Jg en1 en2
 have p1:=Nat.le_trans p1 (show 9000000+9000000≤20000000 by decide)
 have p2:=Nat.le_trans p2 (show 9000000+1+(9000000+1)≤20000000 by decide)
 have d0:=bGg (valR ((n1,l1),(n2,l2))) (valR ((n3,l3),(n4,l4)))
 refine cX (bIp) (by omega) (aU O) fun B j hj=>?_
 refine xR ?_
 refine iJ O fun b2=>?_
 refine iJ O fun b3=>?_
 refine vO fun b4=>?_
 refine lN (gX (Qr O O (.inr Y2) O ?_))
 refine gC z (B0 (by omega) hx hy (Nat.le_trans h1 (show 9000000≤20000000 by decide)) (Nat.le_trans h2 (show 9000000≤20000000 by decide))) O O O O fun v6 z6 hz6 hv6=>?_
 have hw6:=vR (hv6 _ hx.m hy.m gU)
 obtain ⟨c6,d6,hv,hm6,hn6⟩:=hw6
 subst hv
 refine Qr O O (.inr Y1) O ?_
 refine gC z6 (B0 (by omega) hu.m hw.m (Nat.le_trans h3 (show 9000000≤20000000 by decide)) (Nat.le_trans h4 (show 9000000≤20000000 by decide))) O O O O fun v8 z8 hz8 hv8=>?_
 have hw8:=vR (hv8 _ hu.m hw.m gU)
 obtain ⟨c8,d8,hv,hm8,hn8⟩:=hw8
 subst hv
 refine gS O O O (nN O O P2 (lN (gS O O O (nN O O P1 (lN (mQ (gX (G1 2 O (J3 O O (.inr Y2) O (G1 2 O (J3 O O (.inr Y1) O ?_)))))))))))
 refine gC z8 (N3 (by omega) hm6.m hm8 om1 om2) O O O O fun v13 z13 hz13 hv13=>?_
 rw [hZ,hZ] at hv13
 obtain ⟨c13,hv,h13⟩:=hv13
 subst hv
 have h13:=h13.mono (zA (hz6.trans hz8))
 refine G1 2 O (J3 O O (.inr Y2) O (G1 2 O (J3 O O (.inr Y1) O ?_)))
 refine gC z13 (N3 (by omega) hn6.m hn8.m on1 on2) O O O O fun v18 z18 hz18 hv18=>?_
 rw [hZ,hZ] at hv18
 obtain ⟨c18,hv,h18⟩:=hv18
 subst hv
 have h18:=h18.mono (zA (hz6.trans (hz8.trans hz13)))
 refine gC z18 (aAB (by omega) h13.m (h18.mono gU) p1 p2 d0) O O O O fun v19 z19 _ hv19=>?_
 rw [bSe] at hv19
 obtain ⟨c19,d19,hv,hm19,hn19⟩:=hv19
 subst hv
 have hm19:=hm19.mono (zA (hz6.trans (hz8.trans (hz13.trans hz18))))
 have hn19:=hn19.mono (zA (hz6.trans (hz8.trans (hz13.trans hz18))))
 refine gS O O O (nN O O iP (lN (mQ (xT (rQ (.inl O) (rc4 O mem0 rn) ?_)))))
 exact ⟨_,_,rfl,hm19,hn19⟩
theorem bCS {k:Nat} (hk:10≤k) {z:dE} {n1 n2:Bool} {c1 c2:C} {l1 l2:List UInt32} (hx:CZ 1 RW z c1 l1) (hy:CZ 1 RW z c2 l2) (h1:l1.length≤9000000) (h2:l2.length≤9000000):FC (E k) 28 [.agg [Cb n1,c1,Cb n2,c2]] z fun v z'=>QV (zd z z') v (-(valR ((n1,l1),(n2,l2)))):=by
 have em1:=Nat.le_trans (aEi (x:=((n1,l1),(n2,l2)))) h1
 have en1:=Nat.le_trans (aEn (x:=((n1,l1),(n2,l2)))) (Nat.succ_le_succ h2)
 have om1:=Nat.le_trans em1 (show 9000000≤20000000 by decide)
 have on1:=Nat.le_trans en1 (show 9000000+1≤20000000 by decide)
 refine cX (bER) (by omega) (aU O) fun B j hj=>?_
 refine xR ?_
 refine iJ O fun b1=>?_
 refine vO fun b2=>?_
 refine lN (xR (kJ O Y1 O ?_))
 refine lZ z (B0 (by omega) hx hy (Nat.le_trans h1 (show 9000000≤20000000 by decide)) (Nat.le_trans h2 (show 9000000≤20000000 by decide))) O O fun v4 z4 hz4 hv4=>?_
 have hw4:=vR (hv4 _ hx.m hy.m gU)
 obtain ⟨c4,d4,hv,hm4,hn4⟩:=hw4
 subst hv
 refine nN O O P1 (lN (gX (G1 2 O (J3 O O (.inr Y1) O ?_))))
 refine gC z4 (aUE (by omega) hm4 om1) O O O O fun v7 z7 hz7 hv7=>?_
 rw [hZ] at hv7
 obtain ⟨c7,hv,h7⟩:=hv7
 subst hv
 have h7:=h7.mono (zA (hz4))
 refine G1 2 O (J3 O O (.inr Y1) O ?_)
 refine gC z7 (bAo (by omega) hn4.m on1) O O O O fun v10 z10 _ hv10=>?_
 rw [hZ] at hv10
 obtain ⟨c10,hv,h10⟩:=hv10
 subst hv
 have h10:=h10.mono (zA (hz4.trans hz7))
 refine gP O O F ?_
 refine iU (cs:=[_,_,_,_]) O (lN ?_)
 refine gS O O O (nN O O iP (lN (mQ (xT (rQ (.inl O) (rc4 O mem0 rn) ?_)))))
 exact aFr (Rat.neg_num _).symm (by rw [Rat.neg_den];rfl) (h7.mono (mX zI)) h10
theorem aUs {k:Nat} (hk:9≤k) {z:dE} {p q:Rat} {c1 c2 c3 c4:C} (hx:CZ 1 RW z c1 (toL p.num.natAbs)) (hy:CZ 1 RW z c2 (toL (p.den:Int).natAbs)) (hu:CZ 1 RW z c3 (toL q.num.natAbs)) (hw:CZ 1 RW z c4 (toL (q.den:Int).natAbs)) (h1:(toL p.num.natAbs).length≤9000001) (h2:(toL (p.den:Int).natAbs).length≤9000001) (h3:(toL q.num.natAbs).length≤9000001) (h4:(toL (q.den:Int).natAbs).length≤9000001):FC (E k) 79 [.agg [Cb (decide (p.num<0)),c1,Cb (decide ((p.den:Int)<0)),c2],.agg [Cb (decide (q.num<0)),c3,Cb (decide ((q.den:Int)<0)),c4]] z fun v z'=>QV (zd z z') v (p+q):=by
 have o1:=Nat.le_trans h1 (show 9000001≤20000000 by decide)
 have o2:=Nat.le_trans h2 (show 9000001≤20000000 by decide)
 have o3:=Nat.le_trans h3 (show 9000001≤20000000 by decide)
 have o4:=Nat.le_trans h4 (show 9000001≤20000000 by decide)
 have m1:=Jg h1 h4
 have m2:=Jg h3 h2
 have m3:=Nat.le_trans (Jg h2 h4) (show 9000001+9000001≤20000000 by decide)
 have m4:=Nat.le_trans (aVo m1 m2) (show 9000001+9000001+1≤20000000 by decide)
 have m5:=Nat.le_trans (aVo h1 h3) (show 9000001+1≤20000000 by decide)
 have m1:=Nat.le_trans m1 (show 9000001+9000001≤20000000 by decide)
 have m2:=Nat.le_trans m2 (show 9000001+9000001≤20000000 by decide)
 have d0:=bGg p q
 have d1:=bCh p
 refine cX (bDh) (by omega) (aU O) fun B j hj=>?_
 refine xR ?_
 refine iJ O fun b2=>?_
 refine iJ O fun b3=>?_
 refine vO fun b4=>?_
 refine lN (R4 8 O (jB O Y2 O (lF O (jB O Y1 O ?_))))
 refine lZ z (aSl (by omega) hy hw o2 o4) O O fun v9 z9 hz9 hv9=>?_
 rw [hZ,hZ] at hv9
 subst hv9
 refine R3 4 O ?_
 refine xD O (fun hc10=>?_) (fun hc10=>?_)
 ·refine aGM (gX (G1 2 O (J3 O O (.inr Y2) O (G1 2 O (J3 O O (.inr Y1) O ?_)))))
  refine gC z9 (aU8 (by omega) hx.m hu.m o1 o3) O O O O fun v15 z15 hz15 hv15=>?_
  rw [hZ,hZ] at hv15
  obtain ⟨c15,hv,h15⟩:=hv15
  subst hv
  have h15:=h15.mono (zA (hz9))
  refine G1 2 O (J3 O O (.inr Y2) O ?_)
  refine gC z15 (aAB (by omega) (h15.mono gU) hy.m m5 o2 d1) O O O O fun v18 z18 _ hv18=>?_
  rw [bXg hc10] at hv18
  obtain ⟨c18,d18,hv,hm18,hn18⟩:=hv18
  subst hv
  have hm18:=hm18.mono (zA (hz9.trans hz15))
  have hn18:=hn18.mono (zA (hz9.trans hz15))
  refine gS O O O (nN O O iP (lN (mQ (mN (rQ (.inl O) (rc4 O mem0 rn) ?_)))))
  exact ⟨_,_,rfl,hm18,hn18⟩
 refine dA (gX (G1 2 O (J3 O O (.inr Y2) O (G1 2 O (J3 O O (.inr Y1) O ?_)))))
 refine gC z9 (N3 (by omega) hx.m hw.m o1 o4) O O O O fun v23 z23 hz23 hv23=>?_
 rw [hZ,hZ] at hv23
 obtain ⟨c23,hv,h23⟩:=hv23
 subst hv
 have h23:=h23.mono (zA (hz9))
 refine G1 2 O (J3 O O (.inr Y1) O (G1 2 O (J3 O O (.inr Y2) O ?_)))
 refine gC z23 (N3 (by omega) hu.m hy.m o3 o2) O O O O fun v28 z28 hz28 hv28=>?_
 rw [hZ,hZ] at hv28
 obtain ⟨c28,hv,h28⟩:=hv28
 subst hv
 have h28:=h28.mono (zA (hz9.trans hz23))
 refine gC z28 (aU8 (by omega) h23.m (h28.mono gU) m1 m2) O O O O fun v29 z29 hz29 hv29=>?_
 rw [hZ,hZ] at hv29
 obtain ⟨c29,hv,h29⟩:=hv29
 subst hv
 have h29:=h29.mono (zA (hz9.trans (hz23.trans hz28)))
 refine G1 2 O (J3 O O (.inr Y2) O (G1 2 O (J3 O O (.inr Y1) O ?_)))
 refine gC z29 (N3 (by omega) hy.m hw.m o2 o4) O O O O fun v34 z34 hz34 hv34=>?_
 rw [hZ,hZ] at hv34
 obtain ⟨c34,hv,h34⟩:=hv34
 subst hv
 have h34:=h34.mono (zA (hz9.trans (hz23.trans (hz28.trans hz29))))
 refine gC z34 (aAB (by omega) h29.m (h34.mono gU) m4 m3 d0) O O O O fun v35 z35 _ hv35=>?_
 rw [bKD] at hv35
 obtain ⟨c35,d35,hv,hm35,hn35⟩:=hv35
 subst hv
 have hm35:=hm35.mono (zA (hz9.trans (hz23.trans (hz28.trans (hz29.trans hz34)))))
 have hn35:=hn35.mono (zA (hz9.trans (hz23.trans (hz28.trans (hz29.trans hz34)))))
 refine gS O O O (nN O O iP (lN (mQ (xT (rQ (.inl O) (rc4 O mem0 rn) ?_)))))
 exact ⟨_,_,rfl,hm35,hn35⟩
end Go.Proofs.YtcnpoojdochapaaGreatDoor
