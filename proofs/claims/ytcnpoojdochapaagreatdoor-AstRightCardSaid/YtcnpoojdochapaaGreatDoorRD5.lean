/- Sums of money, shares and limits, walked. -/
import Derived.WalkKit
import Derived.Orders
import Derived.Test.YtcnpoojdochapaaGreatDoorRD4
set_option linter.unusedVariables false
set_option linter.unusedSimpArgs false
set_option maxRecDepth 100000
set_option maxHeartbeats 1000000
namespace Go.Proofs.YtcnpoojdochapaaGreatDoor
open Go.CE Go.RowKit Go.Num
open Go.Eng (oH)
theorem bXP {n d:Int} (hd:d≠0) (h1 : -9223372036854775808≤n) (h2:n<9223372036854775808):(toL (Rat.divInt n d).num.natAbs).length≤1000000000:=Nat.le_trans (D1 (aPc hd).1) (Nat.le_trans (aZB h1 h2) (by decide))
theorem bWs {n d:Int} (hd:d≠0) (h1 : -9223372036854775808≤d) (h2:d<9223372036854775808):(toL ((Rat.divInt n d).den:Int).natAbs).length≤1000000000:=Nat.le_trans (D1 (b:=d.natAbs) (by rw [Int.natAbs_natCast];exact (aPc hd).2)) (Nat.le_trans (aZB h1 h2) (by decide))
def RQ:RT Ni:=fun z cs x=>∃ c d,cs=[Cb x.1.1,c,Cb x.2.1,d]∧CZ 1 RW z c x.1.2∧CZ 1 RW z d x.2.2
instance:RMono RQ:=⟨fun hz ⟨c,d,h,g0,g1⟩=>⟨c,d,h,g0.mono hz,g1.mono hz⟩⟩
theorem bKH {call:jO} {B:sY} {fs:Sf} {l:List I} {Q:Sf→Prop} {d:Nat} {x:Go.Eng.Od} {b p:Nat} {c0 c1 c2 c3:C} (hx:fs.ev x=.c (.ptr b p)) (ha:At fs.z b p [c0,c1,c2,c3]) (hw:FL call B l (fs.put d (.agg [c0,c1,c2,c3])) Q):FL call B (⟨some d,none,.load true 4 x⟩::l) fs Q:=oP (off:=0) hx ha rfl (by simp) rfl hw
theorem bP8 {z:dE} {b ty:Nat} {n1 n2:Bool} {c1 c2:C} {l1 l2:List UInt32} (h:z b (.cells ty [Cb n1,c1,Cb n2,c2])) (hx:CZ 1 RW z c1 l1) (hy:CZ 1 RW z c2 l2):SZ 4 RQ z (.c (.sl b 0 1 4)) [((n1,l1),(n2,l2))]:=CL.sz (CL.one rfl ⟨c1,c2,rfl,hx,hy⟩) rfl (by decide) h
def aSS (q:Rat) (l:List Rat):Rat:=l.foldl (fun o y=>if o<y then y else o) q
theorem aUQ {q:Rat} {l:List Rat} {i:Nat} (h:i<l.length):aSS q (l.take (i+1))=if aSS q (l.take i)<l[i] then l[i] else aSS q (l.take i):=by
 unfold aSS
 rw [List.take_add_one,List.getElem?_eq_getElem h,List.foldl_append]
 rfl
theorem bUb {q v:Rat} {xs:List Ni} {i:Nat} (h:i<xs.length) (hq:q=aSS v ((xs.map Num.valR).take i)) (hc:q<Num.valR xs[i]):Num.valR xs[i]=aSS v ((xs.map Num.valR).take (i+1)):=by
 rw [aUQ (by rw [List.length_map];exact h),← hq,List.getElem_map,if_pos hc]
theorem bR3 {q v:Rat} {xs:List Ni} {i:Nat} (h:i<xs.length) (hq:q=aSS v ((xs.map Num.valR).take i)) (hc:¬ q<Num.valR xs[i]):q=aSS v ((xs.map Num.valR).take (i+1)):=by
 rw [aUQ (by rw [List.length_map];exact h),← hq,List.getElem_map,if_neg hc]
theorem bMQ {p q:Rat}:(p.num * (q.den:Int) - q.num * (p.den:Int)).sign<0↔p<q:=aBJ.trans (by rw [Rat.lt_iff];omega)
theorem bPC {p q:Rat}:(p.num * (q.den:Int) - q.num * (p.den:Int)).sign > 0↔q<p:=aB6.trans (by rw [Rat.lt_iff];omega)
theorem W3 {p q:Rat}:(p.num * (q.den:Int) - q.num * (p.den:Int)).sign≤0↔p≤q:=by
 have h:=aB6 (a:=p.num * (q.den:Int) - q.num * (p.den:Int))
 rw [Rat.le_iff];omega
theorem bLO:(toL ((0:Int):Rat).num.natAbs).length≤9000001:=by rw [show toL ((0:Int):Rat).num.natAbs=[] from uO];decide
theorem bLN:(toL (((0:Int):Rat).den:Int).natAbs).length≤9000001:=Nat.le_trans (m:=1) (mV.2 (by decide)) (by decide)
theorem bTa (q:Rat):q+((0:Int):Rat)=q:=Rat.add_zero q
theorem Ym {k:Nat} (hk:1≤k) {z:dE} {v:AV} {l:List UInt32} (hx:SZ 1 RW z v l) (hl:l.length≤1000000000):FC (E k) 31 [v] z fun v' z'=>SZ 1 RW (zd z z') v' l:=by
 refine cX (bFO) (by omega) (aU O) fun B j hj=>?_
 refine R4 32 O (wM 221 1 (R1 6 O ?_))
 refine aVU (r:=[]) O O hx (fun _=>iP) (by simp only [List.length_nil];omega) (by simp only [List.length_nil];omega) fun c6 hc6=>?_
 refine Fq z z (p:=[]) O O zI (by simp only [List.length_append,List.length_nil];omega) fun zf6 _ hf6=>?_
 refine R0 2 O (xT ?_)
 exact rI O hf6
theorem aVO {k:Nat} (hk:2≤k) {z:dE} {n1 n2:Bool} {c1 c2:C} {l1 l2:List UInt32} (hx:CZ 1 RW z c1 l1) (hy:CZ 1 RW z c2 l2) (h1:l1.length≤1000000000) (h2:l2.length≤1000000000):FC (E k) 8 [.agg [Cb n1,c1,Cb n2,c2]] z fun v z'=>∃ c d,v=.agg [Cb n1,c,Cb n2,d]∧CZ 1 RW (zd z z') c l1∧CZ 1 RW (zd z z') d l2:=by
 refine cX (bJt) (by omega) (aU O) fun B j hj=>?_
 refine xR ?_
 refine iJ O fun b1=>?_
 refine vO fun b2=>?_
 refine lN (gX (G1 4 O (wH O O (.inr Y1) O (G1 4 O (wH O O (.inr Y1) O ?_)))))
 refine gC z (Ym (by omega) hx h1) O O O O fun v9 z9 hz9 h9=>?_
 obtain ⟨c9,rfl,_⟩:=h9.one
 have h9:CZ 1 RW _ c9 _:=h9
 refine gP O O F ?_
 refine iU (cs:=[_,_]) O (lN ?_)
 refine G1 4 O (wH O O (.inr Y1) O (G1 4 O (wH O O (.inr Y1) O ?_)))
 refine gC z9 (Ym (by omega) hy.m h2) O O O O fun v17 z17 _ h17=>?_
 obtain ⟨c17,rfl,_⟩:=h17.one
 have h17:=h17.mono (zA (hz9))
 have h17:CZ 1 RW _ c17 _:=h17
 refine gP O O F ?_
 refine iU (cs:=[_,_]) O (lN ?_)
 refine gP O O F ?_
 refine iU (cs:=[_,_,_,_]) O (lN ?_)
 refine gS O O O (nN O O iP (lN (mQ (xT (rQ (.inl O) (rc4 O mem0 rn) ?_)))))
 exact ⟨_,_,rfl,(h9.mono (mX zI)),h17⟩
theorem aYf {k:Nat} (hk:2≤k) {z:dE} {n1 n2:Bool} {c1 c2:C} {l1 l2:List UInt32} (hx:CZ 1 RW z c1 l1) (hy:CZ 1 RW z c2 l2) (h1:l1.length≤1000000000) (h2:l2.length≤1000000000):FC (E k) 24 [.agg [Cb n1,c1,Cb n2,c2]] z fun v z'=>∃ c d,v=.agg [Cb n1,c,Cb n2,d]∧CZ 1 RW (zd z z') c l1∧CZ 1 RW (zd z z') d l2:=by
 refine cX (bGT) (by omega) (aU O) fun B j hj=>?_
 refine xR ?_
 refine iJ O fun b1=>?_
 refine vO fun b2=>?_
 refine lN (gX (G1 4 O (wH O O (.inr Y1) O (G1 4 O (wH O O (.inr Y1) O ?_)))))
 refine gC z (Ym (by omega) hx h1) O O O O fun v9 z9 hz9 h9=>?_
 obtain ⟨c9,rfl,_⟩:=h9.one
 have h9:CZ 1 RW _ c9 _:=h9
 refine gP O O F ?_
 refine iU (cs:=[_,_]) O (lN ?_)
 refine G1 4 O (wH O O (.inr Y1) O (G1 4 O (wH O O (.inr Y1) O ?_)))
 refine gC z9 (Ym (by omega) hy.m h2) O O O O fun v17 z17 _ h17=>?_
 obtain ⟨c17,rfl,_⟩:=h17.one
 have h17:=h17.mono (zA (hz9))
 have h17:CZ 1 RW _ c17 _:=h17
 refine gP O O F ?_
 refine iU (cs:=[_,_]) O (lN ?_)
 refine gP O O F ?_
 refine iU (cs:=[_,_,_,_]) O (lN ?_)
 refine gS O O O (nN O O iP (lN (mQ (xT (rQ (.inl O) (rc4 O mem0 rn) ?_)))))
 exact ⟨_,_,rfl,(h9.mono (mX zI)),h17⟩
theorem aND {k:Nat} (hk:10≤k) {z:dE} {n d:Int} (h1 : -9223372036854775808≤n) (h2:n<9223372036854775808) (h3 : -9223372036854775808≤d) (h4:d<9223372036854775808) (hd:d≠0):FC (E k) 26 [Ai n,Ai d] z fun v z'=>QV (zd z z') v (Rat.divInt n d):=by
 refine cX (bFC) (by omega) (aU O) fun B j hj=>?_
 refine xR ?_
 refine vO fun b4=>?_
 refine lN (R4 8 O ?_)
 refine lZ z (aZn (by omega) h1 h2 h3 h4 hd) O O fun v10 z10 hz10 hv10=>?_
 obtain ⟨w10,hv,hq10⟩:=hv10
 subst hv
 have hq10:=vR hq10
 obtain ⟨c10,d10,hv,hm10,hn10⟩:=hq10
 subst hv
 refine R1 9 O ?_
 refine vO fun b5=>?_
 refine nN O O iP (R2 5 O (kJ O mem0 O ?_))
 refine lZ z10 (aYf (by omega) (hm10.mono gU) (hn10.mono gU) (bXP hd h1 h2) (bWs hd h3 h4)) O O fun v14 z14 _ hv14=>?_
 obtain ⟨c14,d14,hv,hm14,hn14⟩:=hv14
 subst hv
 have hm14:=hm14.mono (zA (hz10))
 have hn14:=hn14.mono (zA (hz10))
 refine nN O O P1 (lN (xT (rQ (.inl O) (rc4 O Y1 rn) ?_)))
 exact aUv rfl rfl hm14 hn14
theorem aXY {k:Nat} (hk:11≤k) {z:dE} {n:Int} (h1 : -9223372036854775808≤n) (h2:n<9223372036854775808):FC (E k) 84 [Ai n] z fun v z'=>QV (zd z z') v (Rat.divInt n 100):=by
 refine cX (bHo) (by omega) (aU O) fun B j hj=>?_
 refine xR ?_
 refine vO fun b2=>?_
 refine lN (R4 4 O ?_)
 refine lZ z (aND (d:=100) (by omega) h1 h2 (by decide) (by decide) (by decide)) O O fun v4 z4 _ hv4=>?_
 have hv4:=vR hv4
 obtain ⟨c4,d4,hv,hm4,hn4⟩:=hv4
 subst hv
 refine nN O O iP (lN (xT (rQ (.inl O) (rc4 O mem0 rn) ?_)))
 exact aUv rfl rfl hm4 hn4
theorem aYc {k:Nat} (hk:11≤k) {z:dE} {n:Int} (h1 : -9223372036854775808≤n) (h2:n<9223372036854775808):FC (E k) 85 [Ai n] z fun v z'=>QV (zd z z') v (Rat.divInt n 10000):=by
 refine cX (bF3) (by omega) (aU O) fun B j hj=>?_
 refine xR ?_
 refine vO fun b2=>?_
 refine lN (R4 4 O ?_)
 refine lZ z (aND (d:=10000) (by omega) h1 h2 (by decide) (by decide) (by decide)) O O fun v4 z4 _ hv4=>?_
 have hv4:=vR hv4
 obtain ⟨c4,d4,hv,hm4,hn4⟩:=hv4
 subst hv
 refine nN O O iP (lN (xT (rQ (.inl O) (rc4 O mem0 rn) ?_)))
 exact aUv rfl rfl hm4 hn4
theorem aSW {k:Nat} (hk:11≤k) {z:dE} {n1 n2:Bool} {c1 c2:C} {l1 l2:List UInt32} (hx:CZ 1 RW z c1 l1) (hy:CZ 1 RW z c2 l2) (h1:l1.length≤2000000) (h2:l2.length≤2000000) {n3 n4:Bool} {c3 c4:C} {l3 l4:List UInt32} (hu:CZ 1 RW z c3 l3) (hw:CZ 1 RW z c4 l4) (h3:l3.length≤2000000) (h4:l4.length≤2000000):FC (E k) 110 [.agg [Cb n1,c1,Cb n2,c2],.agg [Cb n3,c3,Cb n4,c4]] z fun v _=>v=Ab (decide ((valR ((n1,l1),(n2,l2)))<(valR ((n3,l3),(n4,l4))))):=by
 refine cX (bCm) (by omega) (aU O) fun B j hj=>?_
 refine xR ?_
 refine iJ O fun b2=>?_
 refine iJ O fun b3=>?_
 refine R2 4 O (kJ O mem0 O (lF O (kJ O Y1 O ?_)))
 refine lE z (aGu (by omega) hu hw (Nat.le_trans h3 (show 2000000≤9000000 by decide)) (Nat.le_trans h4 (show 2000000≤9000000 by decide)) hx hy (Nat.le_trans h1 (show 2000000≤9000000 by decide)) (Nat.le_trans h2 (show 2000000≤9000000 by decide))) O O fun z8 _=>?_
 refine R0 4 O (xT ?_)
 exact rI O (cQ (decide_eq_decide.2 bPC))
theorem aW8 {k:Nat} (hk:1≤k) {z:dE} {n1 n2:Bool} {c1 c2:C}:FC (E k) 109 [.agg [Cb n1,c1,Cb n2,c2]] z fun v _=>v=.c (.fn 110 [(true,[Cb n1,c1,Cb n2,c2])] []):=by
 refine cX (bBf) (by omega) (aU O) fun B j hj=>?_
 refine xR ?_
 refine iJ O fun b1=>?_
 refine R2 4 O (kJ O mem0 O (bO2 O O (R0 3 O (xT (rI O ?_)))))
 rfl
theorem aYY {k:Nat} (hk:12≤k) {z:dE} {n1 n2:Bool} {c1 c2:C} {l1 l2:List UInt32} (hx:CZ 1 RW z c1 l1) (hy:CZ 1 RW z c2 l2) (h1:l1.length≤1000000) (h2:l2.length≤1000000) {w:AV} {xs:List Ni} (hr:SZ 4 RQ z w xs) (hxs:∀ x,x∈xs→x.1.2.length≤1000000∧x.2.2.length≤1000000):FC (E k) 108 [.agg [Cb n1,c1,Cb n2,c2],w,.c (.fn 109 [] [])] z fun v z'=>QV z' v (aSS (valR ((n1,l1),(n2,l2))) (xs.map Num.valR)):=by
 have hxl:=hr.le
 have em1:(toL (valR ((n1,l1),(n2,l2))).num.natAbs).length≤1000000+1:=Nat.le_succ_of_le (Nat.le_trans aEi h1)
 have en1:(toL ((valR ((n1,l1),(n2,l2))).den:Int).natAbs).length≤1000000+1:=Nat.le_trans aEn (Nat.succ_le_succ h2)
 refine cX (bCj) (by omega) (aU O) fun B j hj=>?_
 refine xR ?_
 refine iJ O fun b3=>?_
 refine vO fun b6=>?_
 refine lN (xR (kJ O Y1 O ?_))
 refine lZ z (B0 (by omega) hx hy (Nat.le_trans h1 (show 1000000≤20000000 by decide)) (Nat.le_trans h2 (show 1000000≤20000000 by decide))) O O fun v11 z11 hz11 hv11=>?_
 have hw11:=vR (hv11 _ hx.m hy.m gU)
 obtain ⟨c11,d11,hv,hm11,hn11⟩:=hw11
 subst hv
 refine lZ z11 (Pg (n:=0) (by omega) (by decide) (by decide)) O O fun v12 z12 hz12 hv12=>?_
 have hv12:=vR hv12
 obtain ⟨c12,d12,hv,hm12,hn12⟩:=hv12
 subst hv
 have hm12:=hm12.mono (zA (hz11))
 have hn12:=hn12.mono (zA (hz11))
 refine lZ z12 (aUs (by omega) hm11.m hn11.m (hm12.mono gU) (hn12.mono gU) (Nat.le_trans em1 (show 1000000+1≤9000001 by decide)) (Nat.le_trans en1 (show 1000000+1≤9000001 by decide)) bLO bLN) O O fun v13 z13 hz13 hv13=>?_
 rw [bTa] at hv13
 have hv13:=vR hv13
 obtain ⟨c13,d13,hv,hm13,hn13⟩:=hv13
 subst hv
 have hm13:=hm13.mono (zA (hz11.trans hz12))
 have hn13:=hn13.mono (zA (hz11.trans hz12))
 refine vO fun b7=>?_
 refine nN O O iP (lN (R4 12 O (aS O hr (R0 2 O ?_))))
 refine aT (aQ ?_)
 refine eA (fun n fs=>∃ (i:Nat) (q:Rat) (cq:C) (dq:C) (zi:dE),LZ z13 zi [.blk b7 (.cells 26 [Cb (decide ((q).num<0)),cq,Cb (decide ((((q).den:Nat):Int)<0)),dq]),.blk b6 (.cells 26 [Cb false,Cz,Cb false,Cz]),.blk b3 (.cells 26 [Cb n1,c1,Cb n2,c2])] [(2,.c (.fn 109 [] [])),(6,Ap b6),(7,Ap b7),(14,w),(15,Az xs.length),(16,Az i)] fs∧n=xs.length - i∧(i≤xs.length)∧(CZ 1 RW zi cq (toL q.num.natAbs))∧(CZ 1 RW zi dq (toL (q.den:Int).natAbs))∧((toL q.num.natAbs).length≤1000000+1)∧((toL (q.den:Int).natAbs).length≤1000000+1)∧(q=(aSS (valR ((n1,l1),(n2,l2))) ((xs.map Num.valR).take i)))) ?_ _ ⟨0,(valR ((n1,l1),(n2,l2))),_,_,_,LZ.m [] O,rfl,Nat.zero_le _,(hm13.mono gU),(hn13.mono gU),em1,en1,rfl⟩ (kK (by omega))
 intro n fs ⟨i,q,cq,dq,zi,hL0,hmz0,hi,hcq,hdq,hl1,hl2,hqm⟩
 refine hL0.open fun e hzi=>?_
 refine R5 8 O ?_
 refine xD O (fun hc17=>?_) (fun hc17=>?_)
 ·refine dA ?_
  refine aT (aQ ?_)
  refine xR ?_
  refine dH (zz:=zi) O O hr.m i O _ (List.getElem?_eq_getElem (by omega)) fun b18 p18 cs18 at18 hR18=>?_
  obtain ⟨ci,di,hcs,hci,hdi⟩:=hR18
  subst hcs
  refine bKH O at18 ?_
  have hxi:=hxs _ (List.getElem_mem (show i<xs.length by omega))
  refine vO fun b9=>?_
  refine nN O O iP (lN (gX ?_))
  have lv1:(toL (valR xs[i]).num.natAbs).length≤1000000+1:=Nat.le_succ_of_le (Nat.le_trans aEi hxi.1)
  have lv2:(toL ((valR xs[i]).den:Int).natAbs).length≤1000000+1:=Nat.le_trans aEn (Nat.succ_le_succ hxi.2)
  refine G1 2 O (Qr O O (.inr Y1) O (gP O O F ?_))
  refine iU (cs:=[_,_,_,_]) O (lN ?_)
  refine aB3 zi (i:=⟨_,_,.callv _ _⟩) O (aW8 (by omega)) O O F O O O O fun v23 z23 hz23 hv23=>?_
  subst hv23
  refine Qr O O Ht O ?_
  refine aB3 z23 (i:=⟨_,_,.callv _ _⟩) O (aSW (by omega) hcq.m hdq.m (Nat.le_trans hl1 (by decide)) (Nat.le_trans hl2 (by decide)) hci.m hdi.m (Nat.le_trans hxi.1 (by decide)) (Nat.le_trans hxi.2 (by decide))) O O F O O O O fun v25 z25 hz25 hv25=>?_
  rw [Jm] at hv25
  subst hv25
  refine mQ ?_
  refine xD O (fun hc25=>?_) (fun hc25=>?_)
  ·refine xG (kJ O mem0 O ?_)
   refine lZ z25 (B0 (by omega) hci.m hdi.m (Nat.le_trans hxi.1 (show 1000000≤20000000 by decide)) (Nat.le_trans hxi.2 (show 1000000≤20000000 by decide))) O O fun v27 z27 hz27 hv27=>?_
   have hw27:=vR (hv27 _ hci.m hdi.m gU)
   obtain ⟨c27,d27,hv,hm27,hn27⟩:=hw27
   subst hv
   refine lZ z27 (Pg (n:=0) (by omega) (by decide) (by decide)) O O fun v28 z28 hz28 hv28=>?_
   have hv28:=vR hv28
   obtain ⟨c28,d28,hv,hm28,hn28⟩:=hv28
   subst hv
   have hm28:=hm28.mono (zA (hz11.trans (hz12.trans (hz13.trans (hzi.trans (hz23.trans (hz25.trans hz27)))))))
   have hn28:=hn28.mono (zA (hz11.trans (hz12.trans (hz13.trans (hzi.trans (hz23.trans (hz25.trans hz27)))))))
   refine lZ z28 (aUs (by omega) hm27.m hn27.m (hm28.mono gU) (hn28.mono gU) (Nat.le_trans lv1 (show 1000000+1≤9000001 by decide)) (Nat.le_trans lv2 (show 1000000+1≤9000001 by decide)) bLO bLN) O O fun v29 z29 _ hv29=>?_
   rw [bTa] at hv29
   have hv29:=vR hv29
   obtain ⟨c29,d29,hv,hm29,hn29⟩:=hv29
   subst hv
   have hm29:=hm29.mono (zA (hz11.trans (hz12.trans (hz13.trans (hzi.trans (hz23.trans (hz25.trans (hz27.trans hz28))))))))
   have hn29:=hn29.mono (zA (hz11.trans (hz12.trans (hz13.trans (hzi.trans (hz23.trans (hz25.trans (hz27.trans hz28))))))))
   refine nN O O P1 (lN (dN (xG (lB O O (eP (n:=i+1) (by omega) (by omega)) (R0 2 O ?_)))))
   exact lQ (by omega) ⟨i+1,(valR xs[i]),c29,d29,_,LZ.m [_] O,rfl,by omega,(hm29.mono gU),(hn29.mono gU),lv1,lv2,bUb (by omega) hqm hc25⟩
  refine iF (dN (xG (lB O O (eP (n:=i+1) (by omega) (by omega)) (R0 2 O ?_))))
  exact lQ (by omega) ⟨i+1,q,cq,dq,_,LZ.m [_] O,rfl,by omega,hcq.m,hdq.m,hl1,hl2,bR3 (by omega) hqm hc25⟩
 refine dK (nQ (dN (xR (kJ O mem0 O (nN O O P1 (lN (xT (rQ (.inl O) (rc4 O Y1 rn) ?_))))))))
 rw [List.take_of_length_le (by rw [List.length_map];omega)] at hqm
 exact aUv hqm rfl hcq hdq
theorem bAI {k:Nat} (hk:13≤k) {z:dE} {n1 n2:Bool} {c1 c2:C} {l1 l2:List UInt32} (hx:CZ 1 RW z c1 l1) (hy:CZ 1 RW z c2 l2) (h1:l1.length≤1000000) (h2:l2.length≤1000000) {w:AV} {xs:List Ni} (hr:SZ 4 RQ z w xs) (hxs:∀ x,x∈xs→x.1.2.length≤1000000∧x.2.2.length≤1000000):FC (E k) 41 [.agg [Cb n1,c1,Cb n2,c2],w] z fun v z'=>QV z' v (aSS (valR ((n1,l1),(n2,l2))) (xs.map Num.valR)):=by
 refine cX (bG1) (by omega) (aU O) fun B j hj=>?_
 refine xR ?_
 refine iJ O fun b2=>?_
 refine vO fun b4=>?_
 refine lN (xR (kJ O Y1 O (lM O ?_)))
 refine lZ z (aYY (by omega) hx hy h1 h2 hr hxs) O O fun v7 z7 _ hv7=>?_
 have hv7:=vR hv7
 obtain ⟨c7,d7,hv,hm7,hn7⟩:=hv7
 subst hv
 refine nN O O iP (lN (xT (rQ (.inl O) (rc4 O mem0 rn) ?_)))
 exact aUv rfl rfl hm7 hn7
open Go.CE Go.RowKit Go.Num
open Go.Eng (oH)
def D6 (x:Ni) (m:Nat):Bool:=vP x && decide (m % (Num.valR x).den=0)
abbrev aPb:Rat:=((1000000000000000:Int):Rat) * ((1000000000000000:Int):Rat)
def nP (x:Ni):Bool:=D6 x 100 && (decide (Num.valR x<aPb) && decide (-Num.valR x<aPb))
def fV (x:Ni):Bool:=D6 x 1000000 && (decide (0≤Num.valR x) && decide (Num.valR x≤1))
theorem aUp {x y:aRS} (h:vP (x,y)=true):kN y≠0:=by
 obtain ⟨_,_,h3,_⟩:=aC3 h
 show kN y≠0
 have:0<kN y:=h3
 omega
theorem aTl {x:Ni} {m:Nat} (h:vP x=false):false=D6 x m:=by simp [D6,h]
theorem aX0 {x y:aRS} {m:Nat} (h:vP (x,y)=true):decide ((((m:Nat):Int).fmod (kN y)).sign=0)=D6 (x,y) m:=by
 have e:=(S5 h).2
 have e2:kN y=((Num.valR (x,y)).den:Int):=e.symm
 rw [D6,h,Bool.true_and,e2]
 refine decide_eq_decide.2 ?_
 rw [Int.sign_eq_zero_iff_zero,Int.fmod_eq_emod_of_nonneg _ (Int.natCast_nonneg _)]
 omega
theorem bKj:(toL ((1000000000000000:Int):Rat).num.natAbs).length≤9000000:=Nat.le_trans (m:=2) (mV.2 (by decide)) (by decide)
theorem bKL:(toL (((1000000000000000:Int):Rat).den:Int).natAbs).length≤9000000:=Nat.le_trans (m:=2) (mV.2 (by decide)) (by decide)
theorem bS4:(toL ((1:Int):Rat).num.natAbs).length≤9000000:=Nat.le_trans (m:=2) (mV.2 (by decide)) (by decide)
theorem bTH:(toL (((1:Int):Rat).den:Int).natAbs).length≤9000000:=Nat.le_trans (m:=2) (mV.2 (by decide)) (by decide)
theorem aZH:aPb=((1000000000000000000000000000000:Int):Rat):=by rw [aPb,← Rat.intCast_mul];rfl
theorem tt1:(toL aPb.num.natAbs).length≤9000000:=by rw [aZH];exact Nat.le_trans (m:=4) (mV.2 (by decide)) (by decide)
theorem tt2:(toL (aPb.den:Int).natAbs).length≤9000000:=by rw [aZH];exact Nat.le_trans (m:=2) (mV.2 (by decide)) (by decide)
theorem bSo {a b:Rat}:aSS a [b]=if a<b then b else a:=rfl
theorem bS1 {q:Rat} {k:Nat} (h:(toL q.num.natAbs).length≤k):(toL (if q < -q then -q else q).num.natAbs).length≤k:=by
 split
 ·rw [Rat.neg_num,Int.natAbs_neg];exact h
 exact h
theorem bUr {q:Rat} {k:Nat} (h:(toL (q.den:Int).natAbs).length≤k):(toL ((if q < -q then -q else q).den:Int).natAbs).length≤k:=by
 split
 ·rw [Rat.neg_den];exact h
 exact h
theorem rlt {a b c:Rat} (h1:a≤b) (h2:b<c):a<c:=Rat.not_le.1 fun h=>Rat.not_le.2 h2 (Rat.le_trans h h1)
theorem bPm {q t:Rat}:(if q < -q then -q else q)<t↔q<t∧-q<t:=by
 split
 ·rename_i h
  exact ⟨fun g=>⟨rlt (Rat.le_of_lt h) g,g⟩,fun g=>g.2⟩
 rename_i h
 exact ⟨fun g=>⟨g,rlt (Rat.not_lt.1 h) g⟩,fun g=>g.1⟩
theorem aX9 {x:Ni} (h:D6 x 100=false):false=nP x:=by simp [nP,h]
theorem bDw {x:Ni} (h:D6 x 100=true):decide (((if Num.valR x < -Num.valR x then -Num.valR x else Num.valR x).num * (aPb.den:Int) - aPb.num * ((if Num.valR x < -Num.valR x then -Num.valR x else Num.valR x).den:Int)).sign<0)=nP x:=by
 rw [nP,h,Bool.true_and,← Bool.decide_and]
 exact decide_eq_decide.2 (bMQ.trans bPm)
theorem aY8 {p q:Rat}:(p - q).num.sign<0↔p<q:=by
 rw [aBJ,← Rat.not_le,Rat.le_iff_sub_nonneg q p,← Rat.num_nonneg]
 omega
theorem sub_le {p q:Rat}:(p - q).num.sign≤0↔p≤q:=by
 have h:=aB6 (a:=(p - q).num)
 have e:(q - p).num = -(p - q).num:=by rw [← Rat.neg_num,Rat.neg_sub]
 rw [Rat.le_iff_sub_nonneg p q,← Rat.num_nonneg,e]
 omega
theorem bHj {x:Ni} (h:¬ (Num.valR x - aPb).num.sign<0):false=nP x:=by
 rw [aY8] at h
 simp [nP,h]
theorem bE8 {x:Ni} (h:D6 x 100=true) (h2:(Num.valR x - aPb).num.sign<0):decide ((-Num.valR x - aPb).num.sign<0)=nP x:=by
 rw [aY8] at h2
 rw [nP,h,Bool.true_and,decide_eq_true h2,Bool.true_and]
 exact decide_eq_decide.2 aY8
theorem zQ {q:Rat}:q.num.sign ≥ 0↔0≤q:=by
 have:=aBJ (a:=q.num)
 rw [← Rat.num_nonneg]
 omega
theorem aWt {x:Ni} (h:D6 x 1000000=false):false=fV x:=by simp [fV,h]
theorem aX5 {x:Ni} (h:¬ (Num.valR x).num.sign ≥ 0):false=fV x:=by
 rw [zQ] at h
 simp [fV,h]
theorem aXc {x:Ni} {y:Int} (h:D6 x 1000000=true) (h2:(Num.valR x).num.sign ≥ 0) (h3:y≤0↔Num.valR x≤((1:Int):Rat)):decide (y≤0)=fV x:=by
 rw [zQ] at h2
 rw [fV,h,Bool.true_and,decide_eq_true h2,Bool.true_and]
 exact decide_eq_decide.2 h3
theorem bPH {n:Int} (h1 : -9223372036854775808≤n) (h2:n<9223372036854775808):(toL n.natAbs).length≤2:=mV.2 (by show _<4294967296 ^ 2;omega)
theorem bGc {a b:Int} (hb:b≠0):(toL (a.fmod b).natAbs).length≤(toL b.natAbs).length:=by
 refine D1 ?_
 rcases Int.lt_or_gt_of_ne hb with h | h
 ·have e:=Int.neg_fmod_neg a b
  have h1:=Int.fmod_nonneg_of_pos (-a) (show 0 < -b by omega)
  have h2:=Int.fmod_lt_of_pos (-a) (show 0 < -b by omega)
  omega
 have h1:=Int.fmod_nonneg_of_pos a h
 have h2:=Int.fmod_lt_of_pos a h
 omega
theorem aET {k:Nat} (hk:9≤k) {z:dE} {n1 n2:Bool} {c1 c2:C} {l1 l2:List UInt32} (hx:CZ 1 RW z c1 l1) (hy:CZ 1 RW z c2 l2) (h1:l1.length≤1000) (h2:l2.length≤1000) {m:Nat} (hm:m<1000000000):FC (E k) 37 [.agg [Cb n1,c1,Cb n2,c2],Az m] z fun v _=>v=Ab (D6 ((n1,l1),(n2,l2)) m):=by
 refine cX (bEF) (by omega) (aU O) fun B j hj=>?_
 refine xR ?_
 refine iJ O fun b2=>?_
 refine R2 8 O (kJ O mem0 O ?_)
 refine lE z (aFS (by omega) hx hy (Nat.le_trans h1 (show 1000≤20000000 by decide)) (Nat.le_trans h2 (show 1000≤20000000 by decide))) O O fun z9 hz9=>?_
 refine R3 4 O ?_
 refine iO O (fun hc10=>?_) (fun hc10=>?_)
 ·refine R5 8 O (mN ?_)
  exact rI O (cQ (aTl (by simpa using hc10)))
 refine dA (gX ?_)
 have hrr:vP ((n1,l1),(n2,l2))=true:=by simpa using hc10
 have hb:=aUp hrr
 refine G1 2 O ?_
 refine gC z9 (aTQ (n:=(m:Nat)) (by omega) (by omega) (by omega)) O O O O fun v13 z13 hz13 hv13=>?_
 obtain ⟨c13,hv,h13⟩:=hv13
 subst hv
 have h13:=h13.mono (zA (hz9))
 refine G1 2 O (J3 O O Ht O ?_)
 refine gC z13 (La (by omega) (h13.mono gU) hy.m (Nat.le_trans (bPH (n:=(m:Nat)) (by omega) (by omega)) (by decide)) (Nat.le_trans h2 (by decide)) hb) O O O O fun v16 z16 _ hv16=>?_
 rw [hZ] at hv16
 obtain ⟨v1,v2,hv,hp16,hr16⟩:=hv16
 subst hv
 obtain ⟨c16,hv,h16⟩:=hp16
 subst hv
 obtain ⟨d16,hv,g16⟩:=hr16
 subst hv
 have h16:=h16.mono (zA (hz9.trans hz13))
 have g16:=g16.mono (zA (hz9.trans hz13))
 refine G1 17 O ?_
 refine gA O O (fun b5 hT5=>?_)
 refine gA O O (fun b6 hT6=>?_)
 refine gS O O O (iE O O P1 (lN (gS O O O (iE O O iP (lN (G0 3 O (R4 18 O ?_)))))))
 refine iW 22 O (fun hg22=>?_) (fun hg22=>?_)
 ·refine lD O (jB O mem0 O (lD O ?_))
  refine lZ z16 (Wm (by omega) (g16.mono gU)) O O fun v24 z24 _ hv24=>?_
  rw [hZ] at hv24
  subst hv24
  refine R0 12 O (xT ?_)
  exact rI O (cQ (aX0 hrr))
 exact absurd rfl hg22
theorem aT9 {k:Nat} (hk:14≤k) {z:dE} {n1 n2:Bool} {c1 c2:C} {l1 l2:List UInt32} (hx:CZ 1 RW z c1 l1) (hy:CZ 1 RW z c2 l2) (h1:l1.length≤1000) (h2:l2.length≤1000):FC (E k) 11 [.agg [Cb n1,c1,Cb n2,c2]] z fun v _=>v=Ab (nP ((n1,l1),(n2,l2))):=by
 have em1:=Nat.le_trans (aEi (x:=((n1,l1),(n2,l2)))) h1
 have en1:=Nat.le_trans (aEn (x:=((n1,l1),(n2,l2)))) (Nat.succ_le_succ h2)
 refine cX (bDA) (by omega) (aU O) fun B j hj=>?_
 refine xR ?_
 refine iJ O fun b1=>?_
 refine R2 8 O (kJ O mem0 O ?_)
 refine lE z (aET (m:=100) (by omega) hx hy h1 h2 (by decide)) O O fun z5 hz5=>?_
 refine R3 4 O ?_
 refine iO O (fun hc6=>?_) (fun hc6=>?_)
 ·refine R5 8 O (mN ?_)
  exact rI O (cQ (aX9 (by simpa using hc6)))
 refine R4 4 O ?_
 refine lZ z5 (Pg (n:=1000000000000000) (by omega) (by decide) (by decide)) O O fun v7 z7 hz7 hv7=>?_
 have hv7:=vR hv7
 obtain ⟨c7,d7,hv,hm7,hn7⟩:=hv7
 subst hv
 have hm7:=hm7.mono (zA (hz5))
 have hn7:=hn7.mono (zA (hz5))
 refine vO fun b3=>?_
 refine nN O O iP (lN (xR (kJ O mem0 O (kJ O mem0 O ?_))))
 refine lZ z7 (bAm (by omega) (hm7.mono gU) (hn7.mono gU) bKj bKL (hm7.mono gU) (hn7.mono gU) bKj bKL) O O fun v10 z10 hz10 hv10=>?_
 rw [Jm] at hv10
 have hv10:=vR hv10
 obtain ⟨c10,d10,hv,hm10,hn10⟩:=hv10
 subst hv
 have hm10:=hm10.mono (zA (hz5.trans hz7))
 have hn10:=hn10.mono (zA (hz5.trans hz7))
 refine nN O O iP (lN (gX (Qr O O (.inr Y1) O (Qr O O (.inr Y1) O ?_))))
 refine gC z10 (bCS (by omega) hx.m hy.m (Nat.le_trans h1 (show 1000≤9000000 by decide)) (Nat.le_trans h2 (show 1000≤9000000 by decide))) O O O O fun v13 z13 _ hv13=>?_
 have hv13:=vR hv13
 obtain ⟨c13,d13,hv,hm13,hn13⟩:=hv13
 subst hv
 have hm13:=hm13.mono (zA (hz5.trans (hz7.trans hz10)))
 have hn13:=hn13.mono (zA (hz5.trans (hz7.trans hz10)))
 refine qT (k:=.cells 26 [Cb (decide ((-(Num.valR ((n1,l1),(n2,l2)))).num<0)),c13,Cb (decide ((((-(Num.valR ((n1,l1),(n2,l2)))).den:Nat):Int)<0)),d13]) (w:=fun b=>.c (.sl b 0 1 4)) rfl F rfl (fun _=>rfl) (fun st hst=>?_) (fun b14 hT14=>?_)
 ·simp only [eE,uZ,AS.ev,hst 13 (by simp [jM.sl,Od.sls,Od.sl])];rfl
 refine zW z13 (p:=[]) O O O (fun _ h=>h) fun zfg14 _ g14=>?_
 have hrow:=bP8 (n1:=decide ((-(Num.valR ((n1,l1),(n2,l2)))).num<0)) (n2:=decide (((-(Num.valR ((n1,l1),(n2,l2)))).den:Int)<0)) g14 hm13.m hn13.m
 have nn1:(toL (-(Num.valR ((n1,l1),(n2,l2)))).num.natAbs).length≤1000000:=by rw [Rat.neg_num,Int.natAbs_neg];exact Nat.le_trans em1 (by decide)
 have nn2:(toL ((-(Num.valR ((n1,l1),(n2,l2)))).den:Int).natAbs).length≤1000000:=by rw [Rat.neg_den];exact Nat.le_trans en1 (by decide)
 refine gC zfg14 (bAI (by omega) hx.m hy.m (Nat.le_trans h1 (show 1000≤1000000 by decide)) (Nat.le_trans h2 (show 1000≤1000000 by decide)) hrow (by intro x hx;rw [List.mem_singleton.1 hx];exact ⟨nn1,nn2⟩)) O O O O fun v15 z15 _ hv15=>?_
 rw [show List.map Num.valR [((decide ((-(Num.valR ((n1,l1),(n2,l2)))).num<0),toL (-(Num.valR ((n1,l1),(n2,l2)))).num.natAbs),(decide (((-(Num.valR ((n1,l1),(n2,l2)))).den:Int)<0),toL ((-(Num.valR ((n1,l1),(n2,l2)))).den:Int).natAbs))]=[-(Num.valR ((n1,l1),(n2,l2)))] from by rw [List.map_singleton,Jm],bSo] at hv15
 have hv15:=vR hv15
 obtain ⟨c15,d15,hv,hm15,hn15⟩:=hv15
 subst hv
 have mx1:=bS1 (q:=(Num.valR ((n1,l1),(n2,l2)))) (k:=9000000) (Nat.le_trans em1 (by decide))
 have mx2:=bUr (q:=(Num.valR ((n1,l1),(n2,l2)))) (k:=9000000) (Nat.le_trans en1 (by decide))
 refine Qr O O Ht O ?_
 refine gC z15 (aGu (by omega) hm15 hn15 mx1 mx2 hm10.m hn10.m tt1 tt2) O O O O fun v17 z17 _ hv17=>?_
 rw [Jm,Jm] at hv17
 subst hv17
 refine G0 4 O (xT ?_)
 exact rI O (cQ (bDw (by simpa using hc6)))
theorem aUi {k:Nat} (hk:11≤k) {z:dE} {n1 n2:Bool} {c1 c2:C} {l1 l2:List UInt32} (hx:CZ 1 RW z c1 l1) (hy:CZ 1 RW z c2 l2) (h1:l1.length≤1000) (h2:l2.length≤1000):FC (E k) 13 [.agg [Cb n1,c1,Cb n2,c2]] z fun v _=>v=Ab (fV ((n1,l1),(n2,l2))):=by
 refine cX (bH8) (by omega) (aU O) fun B j hj=>?_
 refine xR ?_
 refine iJ O fun b1=>?_
 refine R0 2 O (gX (Qr O O Ht O ?_))
 refine gE z (aET (m:=1000000) (by omega) hx hy h1 h2 (by decide)) O O O O fun z4 hz4=>?_
 refine G1 3 O ?_
 refine Np 5 O (fun hg5=>?_) (fun hg5=>?_)
 ·refine Qr O O Ht O ?_
  refine gE z4 (aI8 (by omega) hx.m hy.m (Nat.le_trans h1 (show 1000≤20000000 by decide)) (Nat.le_trans h2 (show 1000≤20000000 by decide))) O O O O fun z7 hz7=>?_
  refine G1 12 O ?_
  refine uW 10 O (fun hg10=>?_) (fun hg10=>?_)
  ·refine Qr O O Ht O ?_
   refine gC z7 (Pg (n:=1) (by omega) (by decide) (by decide)) O O O O fun v12 z12 _ hv12=>?_
   have hv12:=vR hv12
   obtain ⟨c12,d12,hv,hm12,hn12⟩:=hv12
   subst hv
   have hm12:=hm12.mono (zA (hz4.trans hz7))
   have hn12:=hn12.mono (zA (hz4.trans hz7))
   refine gC z12 (aGu (by omega) hx.m hy.m (Nat.le_trans h1 (show 1000≤9000000 by decide)) (Nat.le_trans h2 (show 1000≤9000000 by decide)) (hm12.mono gU) (hn12.mono gU) bS4 bTH) O O O O fun v13 z13 _ hv13=>?_
   rw [Jm] at hv13
   subst hv13
   refine G0 12 O (xT ?_)
   exact rI O (cQ (aXc hg5 hg10 W3))
  refine G0 96 O (xT ?_)
  exact rI O (cQ (aX5 hg10))
 refine G0 3088 O (xT ?_)
 exact rI O (cQ (aWt hg5))
theorem aZl {k:Nat} (hk:8≤k) {z:dE} {n1 n2:Bool} {c1 c2:C} {l1 l2:List UInt32} (hx:CZ 1 RW z c1 l1) (hy:CZ 1 RW z c2 l2) (h1:l1.length≤1000) (h2:l2.length≤1000) {m:Nat} (hm:m<1000000000) (hb:kN (n2,l2)≠0):FC (E k) 43 [.agg [Cb n1,c1,Cb n2,c2],Az m] z fun v _=>v=Ab (D6 ((n1,l1),(n2,l2)) m):=by
 refine cX (aXh) (by omega) (aU O) fun B j hj=>?_
 refine xR ?_
 refine iJ O fun b2=>?_
 refine R0 2 O (gX (G1 2 O ?_))
 refine gC z (A8 (n:=(m:Nat)) (by omega) (by omega) (by omega)) O O O O fun v10 z10 hz10 hv10=>?_
 obtain ⟨c10,hv,h10⟩:=hv10
 subst hv
 refine G1 2 O (J3 O O Ht O ?_)
 refine gC z10 (Ew (by omega) (h10.mono gU) hy.m (Nat.le_trans (bPH (n:=(m:Nat)) (by omega) (by omega)) (by decide)) (Nat.le_trans h2 (by decide)) hb) O O O O fun v13 z13 _ hv13=>?_
 rw [hZ] at hv13
 obtain ⟨v1,v2,hv,hp13,hr13⟩:=hv13
 subst hv
 obtain ⟨c13,hv,h13⟩:=hp13
 subst hv
 obtain ⟨d13,hv,g13⟩:=hr13
 subst hv
 have h13:=h13.mono (zA (hz10))
 have g13:=g13.mono (zA (hz10))
 refine G1 17 O ?_
 refine gA O O (fun b5 hT5=>?_)
 refine gA O O (fun b6 hT6=>?_)
 refine gS O O O (iE O O P1 (lN (gS O O O (iE O O iP (lN (G0 3 O (xR (kJ O Y2 O ?_))))))))
 refine lE z13 (O0 (by omega) hx.m hy.m (Nat.le_trans h1 (show 1000≤40000000 by decide)) (Nat.le_trans h2 (show 1000≤40000000 by decide))) O O fun z18 _=>?_
 refine lM O ?_
 refine jI 19 O (fun hg19=>?_) (fun hg19=>?_)
 ·refine R1 25 O ?_
  refine iW 23 O (fun hg23=>?_) (fun hg23=>?_)
  ·refine lD O (jB O mem0 O (lD O ?_))
   refine lZ z18 (Ae (by omega) g13.m (Nat.le_trans (bGc hb) (Nat.le_trans Es (Nat.le_trans h2 (by decide))))) O O fun v25 z25 _ hv25=>?_
   rw [hZ] at hv25
   subst hv25
   refine R0 12 O (xT ?_)
   exact rI O (cQ (aX0 hg19))
  exact absurd rfl hg23
 refine R0 776 O (xT ?_)
 exact rI O (cQ (aTl hg19))
theorem aZb {k:Nat} (hk:8≤k) {z:dE} {n1 n2:Bool} {c1 c2:C} {l1 l2:List UInt32} (hx:CZ 1 RW z c1 l1) (hy:CZ 1 RW z c2 l2) (h1:l1.length≤1000) (h2:l2.length≤1000) {m:Nat} (hm:m<1000000000) (hb:kN (n2,l2)=0):FC (E k) 43 [.agg [Cb n1,c1,Cb n2,c2],Az m] z fun v _=>v=Ab (D6 ((n1,l1),(n2,l2)) m):=by
 refine cX (aXh) (by omega) (aU O) fun B j hj=>?_
 refine xR ?_
 refine iJ O fun b2=>?_
 refine R0 2 O (gX (G1 2 O ?_))
 refine gC z (A8 (n:=(m:Nat)) (by omega) (by omega) (by omega)) O O O O fun v10 z10 _ hv10=>?_
 obtain ⟨c10,hv,h10⟩:=hv10
 subst hv
 refine G1 2 O (J3 O O Ht O ?_)
 refine gE z10 (aSR (by omega) (h10.mono gU) hy.m (Nat.le_trans (bPH (n:=(m:Nat)) (by omega) (by omega)) (by decide)) (Nat.le_trans h2 (by decide)) hb) O O O O fun z13 _=>?_
 refine G1 17 O ?_
 refine gA O O (fun b5 hT5=>?_)
 refine gA O O (fun b6 hT6=>?_)
 refine gS O O O (iE O O P1 (lN (gS O O O (iE O O iP (lN (G0 3 O (xR (kJ O Y2 O ?_))))))))
 refine lE z13 (O0 (by omega) hx.m hy.m (Nat.le_trans h1 (show 1000≤40000000 by decide)) (Nat.le_trans h2 (show 1000≤40000000 by decide))) O O fun z18 _=>?_
 refine lM O ?_
 refine jI 19 O (fun hg19=>?_) (fun hg19=>?_)
 ·exact absurd hb (aUp hg19)
 refine R0 776 O (xT ?_)
 exact rI O (cQ (aTl hg19))
theorem aAU {k:Nat} (hk:8≤k) {z:dE} {n1 n2:Bool} {c1 c2:C} {l1 l2:List UInt32} (hx:CZ 1 RW z c1 l1) (hy:CZ 1 RW z c2 l2) (h1:l1.length≤1000) (h2:l2.length≤1000) {m:Nat} (hm:m<1000000000):FC (E k) 43 [.agg [Cb n1,c1,Cb n2,c2],Az m] z fun v _=>v=Ab (D6 ((n1,l1),(n2,l2)) m):=by
 by_cases hb:kN (n2,l2)=0
 ·exact aZb hk hx hy h1 h2 hm hb
 exact aZl hk hx hy h1 h2 hm hb
theorem aSQ {k:Nat} (hk:12≤k) {z:dE} {n1 n2:Bool} {c1 c2:C} {l1 l2:List UInt32} (hx:CZ 1 RW z c1 l1) (hy:CZ 1 RW z c2 l2) (h1:l1.length≤1000) (h2:l2.length≤1000):FC (E k) 12 [.agg [Cb n1,c1,Cb n2,c2]] z fun v _=>v=Ab (nP ((n1,l1),(n2,l2))):=by
 have em1:=Nat.le_trans (aEi (x:=((n1,l1),(n2,l2)))) h1
 have en1:=Nat.le_trans (aEn (x:=((n1,l1),(n2,l2)))) (Nat.succ_le_succ h2)
 refine cX (bHy) (by omega) (aU O) fun B j hj=>?_
 refine xR ?_
 refine iJ O fun b1=>?_
 refine R2 4 O ?_
 refine lZ z (aAC (n:=1000000000000000) (by omega) (by decide) (by decide)) O O fun v4 z4 hz4 hv4=>?_
 have hv4:=vR hv4
 obtain ⟨c4,d4,hv,hm4,hn4⟩:=hv4
 subst hv
 refine vO fun b3=>?_
 refine nN O O iP (lN (xR (kJ O mem0 O (kJ O mem0 O ?_))))
 refine lZ z4 (aXf (by omega) (hm4.mono gU) (hn4.mono gU) (Nat.le_trans bKj (by decide)) (Nat.le_trans bKL (by decide)) (hm4.mono gU) (hn4.mono gU) (Nat.le_trans bKj (by decide)) (Nat.le_trans bKL (by decide))) O O fun v7 z7 _ hv7=>?_
 rw [Jm] at hv7
 have hv7:=vR hv7
 obtain ⟨c7,d7,hv,hm7,hn7⟩:=hv7
 subst hv
 have hm7:=hm7.mono (zA (hz4))
 have hn7:=hn7.mono (zA (hz4))
 refine nN O O iP (lN (gX (Qr O O (.inr Y1) O ?_)))
 refine gE z7 (aAU (m:=100) (by omega) hx.m hy.m h1 h2 (by decide)) O O O O fun z9 _=>?_
 refine G1 3 O ?_
 refine Np 10 O (fun hg10=>?_) (fun hg10=>?_)
 ·refine Qr O O (.inr Y1) O (Qr O O Ht O ?_)
  refine gC z9 (Z6 (by omega) hx.m hy.m (Nat.le_trans h1 (show 1000≤19000000 by decide)) (Nat.le_trans h2 (show 1000≤19000000 by decide)) hm7.m hn7.m (Nat.le_trans tt1 (by decide)) (Nat.le_trans tt2 (by decide))) O O O O fun v13 z13 _ hv13=>?_
  rw [Jm] at hv13
  subst hv13
  refine G1 12 O ?_
  refine uW 16 O (fun hg16=>?_) (fun hg16=>?_)
  ·refine Qr O O (.inr Y1) O ?_
   refine gC z13 (aSF (by omega) hx.m hy.m (Nat.le_trans h1 (show 1000≤40000000 by decide)) (Nat.le_trans h2 (show 1000≤40000000 by decide))) O O O O fun v18 z18 _ hv18=>?_
   have hw18:=vR (hv18 _ hx.m hy.m gU)
   obtain ⟨c18,d18,hv,hm18,hn18⟩:=hw18
   subst hv
   refine Qr O O Ht O ?_
   have nn1:(toL (-(Num.valR ((n1,l1),(n2,l2)))).num.natAbs).length≤19000000:=by rw [Rat.neg_num,Int.natAbs_neg];exact Nat.le_trans em1 (by decide)
   have nn2:(toL ((-(Num.valR ((n1,l1),(n2,l2)))).den:Int).natAbs).length≤19000000:=by rw [Rat.neg_den];exact Nat.le_trans en1 (by decide)
   refine gC z18 (Z6 (by omega) hm18 hn18 nn1 nn2 hm7.m hn7.m (Nat.le_trans tt1 (by decide)) (Nat.le_trans tt2 (by decide))) O O O O fun v20 z20 _ hv20=>?_
   rw [Jm,Jm] at hv20
   subst hv20
   refine G0 12 O (xT ?_)
   exact rI O (cQ (bE8 hg10 hg16))
  refine G0 192 O (xT ?_)
  exact rI O (cQ (bHj hg16))
 refine G0 12320 O (xT ?_)
 exact rI O (cQ (aX9 hg10))
theorem aST {k:Nat} (hk:12≤k) {z:dE} {n1 n2:Bool} {c1 c2:C} {l1 l2:List UInt32} (hx:CZ 1 RW z c1 l1) (hy:CZ 1 RW z c2 l2) (h1:l1.length≤1000) (h2:l2.length≤1000):FC (E k) 14 [.agg [Cb n1,c1,Cb n2,c2]] z fun v _=>v=Ab (fV ((n1,l1),(n2,l2))):=by
 refine cX (bGN) (by omega) (aU O) fun B j hj=>?_
 refine xR ?_
 refine iJ O fun b1=>?_
 refine R0 2 O (gX (Qr O O Ht O ?_))
 refine gE z (aAU (m:=1000000) (by omega) hx hy h1 h2 (by decide)) O O O O fun z4 hz4=>?_
 refine G1 3 O ?_
 refine Np 5 O (fun hg5=>?_) (fun hg5=>?_)
 ·refine Qr O O Ht O ?_
  refine gE z4 (Tz (by omega) hx.m hy.m (Nat.le_trans h1 (show 1000≤40000000 by decide)) (Nat.le_trans h2 (show 1000≤40000000 by decide))) O O O O fun z7 hz7=>?_
  refine G1 12 O ?_
  refine uW 10 O (fun hg10=>?_) (fun hg10=>?_)
  ·refine Qr O O Ht O ?_
   refine gC z7 (aAC (n:=1) (by omega) (by decide) (by decide)) O O O O fun v12 z12 _ hv12=>?_
   have hv12:=vR hv12
   obtain ⟨c12,d12,hv,hm12,hn12⟩:=hv12
   subst hv
   have hm12:=hm12.mono (zA (hz4.trans hz7))
   have hn12:=hn12.mono (zA (hz4.trans hz7))
   refine gC z12 (Z6 (by omega) hx.m hy.m (Nat.le_trans h1 (show 1000≤19000000 by decide)) (Nat.le_trans h2 (show 1000≤19000000 by decide)) (hm12.mono gU) (hn12.mono gU) (Nat.le_trans bS4 (by decide)) (Nat.le_trans bTH (by decide))) O O O O fun v13 z13 _ hv13=>?_
   rw [Jm] at hv13
   subst hv13
   refine G0 12 O (xT ?_)
   exact rI O (cQ (aXc hg5 hg10 sub_le))
  refine G0 96 O (xT ?_)
  exact rI O (cQ (aX5 hg10))
 refine G0 3088 O (xT ?_)
 exact rI O (cQ (aWt hg5))
end Go.Proofs.YtcnpoojdochapaaGreatDoor
