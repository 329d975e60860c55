/- The reference's digits, walked. -/
import Derived.WalkKit
import Derived.Orders
import Derived.Test.YtlceligcgelbdaaGreatKD1
set_option linter.unusedVariables false
set_option linter.unusedSimpArgs false
set_option maxRecDepth 100000
set_option maxHeartbeats 1000000
namespace Go.Proofs.YtlceligcgelbdaaGreat
open Go.CE Go.RowKit Go.Num
open Go.Eng (kN)
theorem Io {l:List Nat} {i:Nat} (h:l.length≤i):fV l i=0:=by
 simp [fV,List.getD_eq_getElem?_getD,List.getElem?_eq_none h]
theorem aUP {l:List Nat} {m i:Nat} (h:i<m):fV (l.take m) i=fV l i:=by
 simp [fV,List.getD_eq_getElem?_getD,List.getElem?_take,h]
theorem aXA {l:List Nat} (h:Ni l) (m:Nat):Ni (l.take m):=fun x hx=>h x (List.mem_of_mem_take hx)
theorem aS7 {l:List Nat} {m:Nat} (h0:0<m) (hm:m≤l.length) (h:fV (l.take m) (m - 1)=0):hv (l.take (m - 1))=hv (l.take m):=by
 obtain ⟨k,rfl⟩:∃ k,m=k+1:=⟨m - 1,by omega⟩
 rw [Nat.add_sub_cancel] at h ⊢
 rw [aUP (by omega)] at h
 rw [rS,h]
 simp
theorem aZL {l:List Nat} (h:l.length=0∨fV l (l.length - 1)≠0):aFy l:=by
 by_cases hl:l=[]
 ·exact .inl hl
 have hp:0<l.length:=List.length_pos_iff.2 hl
 rcases h with h | h
 ·omega
 refine .inr ⟨l.dropLast,l.getLast hl,(List.dropLast_concat_getLast hl).symm,fun e=>h ?_⟩
 rw [fV,List.getD_eq_getElem?_getD,List.getElem?_eq_getElem (by omega),Option.getD_some,← List.getLast_eq_getElem hl,e]
theorem Zx {l:List Nat} {m:Nat} (ok:Ni l) (hm:m≤l.length) (hq:hv (l.take m)=hv l) (h:m=0∨fV (l.take m) (m - 1)≠0):l.take m=qB (hv l):=by
 rw [← hq,bNI (aXA ok m)]
 apply aZL
 rcases h with rfl | h
 ·exact .inl (by simp)
 rw [nP hm];exact .inr h
theorem Jl {k:Nat} (hk:1≤k) {z:dA} {v:AV} {l:List Nat} {i:Nat} (hx:SZ 1 RN z v l):FC (E k) 270 [v,Az i] z fun w _=>w=Az (fV l i):=by
 refine eA (bB3) (by omega) (aU O) fun B j hj=>?_
 refine R4 96 O (aS O hx (R3 4 O ?_))
 refine xD O (fun hc8=>?_) (fun hc8=>?_)
 ·refine R4 20 O ?_
  refine yR O O hx (i) (O) (by omega) fun p11 hp11=>?_
  refine uO O hp11 (R0 2 O (jX (rI O ?_)))
  rfl
 refine R5 8 O (xT (rI O ?_))
 rw [Io (by omega)]
 rfl
theorem aMH {k:Nat} (hk:1≤k) {z:dA} {v:AV} {l:List Nat} (ok:Ni l) (hx:SZ 1 RN z v l):FC (E k) 299 [v] z fun v' _=>∀ zz,SZ 1 RN zz v l→SZ 1 RN zz v' (qB (hv l)):=by
 have hxl:=hx.le
 refine eA (bCa) (by omega) (aU O) fun B j hj=>?_
 refine R5 4 O ?_
 refine aT (aQ ?_)
 refine dX (fun n fs=>∃ (v':AV) (m:Nat),LI z [] [(0,v')] fs∧n=m∧(m≤l.length)∧(hv (l.take m)=hv l)∧(∀ zz,SZ 1 RN zz v l→SZ 1 RN zz v' (l.take m))) ?_ _ ⟨v,l.length,LI.m [] O,rfl,Nat.le_refl _,by rw [List.take_length],fun zz h=>by rw [List.take_length];exact h⟩ (kK (by omega))
 intro n fs ⟨v',m,hL0,hmz0,hm,hq,ht⟩
 refine hL0.open fun e zl0 hzl0=>?_
 refine R4 12 O (Lu O (ht _ (hx.mono (hzl0))) (nP hm) (R1 4 O ?_))
 refine fR 6 O (fun hg6=>?_) (fun hg6=>?_)
 ·refine R1 7 O (lD O (Lu O (ht _ (hx.mono (hzl0))) (nP hm) (lD O (lB O O (vO (n:=m - 1) (by omega) (by omega)) (lD O ?_)))))
  refine yR O O (ht _ (hx.mono (hzl0))) (m - 1) (O) (by rw [nP hm];omega) fun p11 hp11=>?_
  refine lD O (uO O hp11 (R3 8 O ?_))
  refine xD O (fun hc14=>?_) (fun hc14=>?_)
  ·refine cP (aQ (xG (R1 7 O (Lu O (ht _ (hx.mono (hzl0))) (nP hm) (lB O O (vO (n:=m - 1) (by omega) (by omega)) ?_)))))
   refine aOt (i:=0) (j:=m - 1) O (ht _ (hx.mono (hzl0))) O ⟨_,O⟩ (by omega) (by rw [nP hm];omega) ?_
   refine R0 3 O ?_
   exact mK (by omega) ⟨aXf v' 0 (m - 1),m - 1,LI.m [] O,rfl,by omega,(aS7 (by omega) hm (by omega)).trans hq,fun zz h=>by have:=(ht zz h).sub (i:=0) (j:=m - 1) (by omega) (by rw [nP hm];omega);rwa [List.drop_zero,List.take_take,Nat.min_eq_left (by omega)] at this⟩
  refine dH (nF (eT (R5 14 O (xT (rI O ?_)))))
  intro zz h
  rw [← Zx ok hm hq (.inr (by omega))]
  exact ht zz h
 refine R3 1024 O (dH (nF (eT (R5 14 O (xT (rI O ?_))))))
 intro zz h
 rw [← Zx ok hm hq (.inl (by omega))]
 exact ht zz h
end Go.Proofs.YtlceligcgelbdaaGreat
namespace Go.Num
def I1:List Nat→List UInt32
 | []=>[]
 | [a]=>[UInt32.ofNat a]
 | a::b::r=>UInt32.ofNat (a+65536 * b)::I1 r
theorem Yy {a:Nat} {l:List Nat} (h:Ni (a::l)):Ni l:=fun x hx=>h x (List.mem_cons_of_mem _ hx)
theorem Xn {a:Nat} {l:List Nat} (h:Ni (a::l)):a<65536:=h a (List.mem_cons_self ..)
theorem aTA:∀ {l:List Nat},Ni l→val (I1 l)=hv l
 | [],_=>rfl
 | [a],ok=>by
  have ha:=Xn ok
  show (UInt32.ofNat a).toNat+W * 0=a+H * 0
  rw [ofNat_toNat (by show a<4294967296;omega)]
  rfl
 | a::b::r,ok=>by
  have ha:=Xn ok
  have hb:=Xn (Yy ok)
  show (UInt32.ofNat (a+65536 * b)).toNat+W * val (I1 r)=a+H * (b+H * hv r)
  rw [ofNat_toNat (by show _<4294967296;omega),aTA (Yy (Yy ok))]
  show a+65536 * b+4294967296 * hv r=a+65536 * (b+65536 * hv r)
  omega
theorem Nn:∀ (l:List Nat),(I1 l).length=(l.length+1) / 2
 | []=>rfl
 | [a]=>by simp [I1]
 | a::b::r=>by
  simp only [I1,List.length_cons,Nn r]
  omega
theorem aDV:∀ {l:List Nat} (j:Nat),Ni l→nJ (I1 l) j=fV l (2 * j)+65536 * fV l (2 * j+1)
 | [],j,_=>by simp [I1,nJ,fV]
 | [a],0,ok=>by
  have ha:=Xn ok
  show (UInt32.ofNat a).toNat=a+65536 * 0
  rw [ofNat_toNat (by show a<4294967296;omega)]
  rfl
 | [a],j+1,ok=>by simp [I1,nJ,fV]
 | a::b::r,0,ok=>by
  have ha:=Xn ok
  have hb:=Xn (Yy ok)
  show (UInt32.ofNat (a+65536 * b)).toNat=a+65536 * b
  rw [ofNat_toNat (by show _<4294967296;omega)]
 | a::b::r,j+1,ok=>aDV (l:=r) j (Yy (Yy ok))
theorem bIl {l:List Nat} (h:aFy l) (hl:0<l.length):fV l (l.length - 1)≠0:=by
 rcases h with rfl | ⟨r,x,rfl,hx⟩
 ·simp at hl
 intro e
 rw [fV,List.getD_eq_getElem?_getD] at e
 simp at e
 exact hx e
theorem Jc (n:Nat):I1 (qB n)=toL n:=by
  have ok:=wR n
  have hc:=aUF n
  have e:val (I1 (qB n))=n:=by rw [aTA ok,wM]
  conv=>rhs;rw [← e]
  apply bH7
  apply aUr
  rcases Nat.eq_zero_or_pos (qB n).length with h | h
  · left;rw [List.eq_nil_of_length_eq_zero h];rfl
  · right
    rw [aDV _ ok,Nn]
    have ht:=bIl hc h
    rcases Nat.mod_two_eq_zero_or_one (qB n).length with hm | hm
    · rw [show 2 * (((qB n).length + 1) / 2 - 1) + 1 = (qB n).length - 1 by omega]
      omega
    · rw [show 2 * (((qB n).length + 1) / 2 - 1) = (qB n).length - 1 by omega]
      omega
end Go.Num
namespace Go.Proofs.YtlceligcgelbdaaGreat
open Go.CE Go.RowKit Go.Num
open Go.Eng (kN)
theorem rA {l:List Nat} (ok:Ni l) (i:Nat):fV l i<65536:=aWY ok i
theorem aXH {x:Nat} (h:x<65536):pS .mul (.int .u32 65536) (.int .u32 (x:Nat))=some (.int .u32 ((65536 * x:Nat):Int)):=by
 rw [bLH,bRW ⟨by omega,by omega⟩,Int.natCast_mul]
 rfl
theorem aYO {x y:Nat} (h:x<65536) (h2:y<65536):pS .add (.int .u32 (x:Nat)) (.int .u32 ((65536 * y:Nat):Int))=some (.int .u32 ((x+65536 * y:Nat):Int)):=bGe (by omega) (by omega)
theorem aZy {c:List Nat} {i:Nat} {o:List UInt32} (ok:Ni c) (h:o=(I1 c).take i) (hi:i<(I1 c).length):o++[UInt32.ofNat (fV c (2 * i)+65536 * fV c (2 * i+1))]=(I1 c).take (i+1):=by
 rw [h,List.take_add_one,List.getElem?_eq_getElem hi,← aDV i ok]
 simp [nJ,List.getD_eq_getElem?_getD,List.getElem?_eq_getElem hi]
theorem U8 {k:Nat} (hk:2≤k) {z:dA} {v:AV} {l:List Nat} (ok:Ni l) (hx:SZ 1 RN z v l) (hl:l.length≤10000000000):FC (E k) 271 [v] z fun v' z'=>SZ 1 RW (zd z z') v' (toL (hv l)):=by
 have okc:=wR (hv l)
 have hcl:(qB (hv l)).length≤l.length:=Ib.2 (aSB ok)
 have hpl:=Nn (qB (hv l))
 have hol:(toL (hv l)).length=((qB (hv l)).length+1) / 2:=by rw [← Jc,Nn]
 refine eA (bDU) (by omega) (aU O) fun B j hj=>?_
 refine R4 96 O ?_
 refine lZ z (aMH (by omega) ok hx) O O fun v7 z7 hz7 ht7=>?_
 have hs7:=ht7 _ (hx.mono (hz7))
 refine R2 9 O (oW 117 1 (R0 2 O ?_))
 refine aT (aQ ?_)
 refine dX (fun n fs=>∃ (i:Nat) (o:List UInt32) (u:AV),LI z7 [Ed eW u 117 o] [(0,v7),(3,u),(4,Az (2 * i))] fs∧n=(I1 (qB (hv l))).length - i∧(i≤(I1 (qB (hv l))).length)∧(o=(I1 (qB (hv l))).take i)) ?_ _ ⟨0,[],rC,LI.m [] O,rfl,Nat.zero_le _,rfl⟩ (kK (by omega))
 intro n fs ⟨i,o,u,hL0,hmz0,hi,ho⟩
 refine hL0.open fun e zl0 _=>?_
 refine R4 24 O (aS O hs7 (R3 4 O ?_))
 refine xD O (fun hc11=>?_) (fun hc11=>?_)
 ·refine cP ?_
  refine aT (aQ ?_)
  refine R4 32 O (lB O O (gI (n:=2 * i+1) (by omega) (by omega)) (lM O (aS O hs7 (R0 2 O ?_))))
  refine Ik (fun fs=>LI zl0 [Ed eW u 117 o] [(0,v7),(3,u),(4,Az (2 * i)),(5,Az (fV (qB (hv l)) (2 * i+1)))] fs) ?_ fun fs hJ=>?_
  ·refine xD O (fun hc18=>?_) (fun hc18=>?_)
   ·refine xG (R1 5 O (lB O O (gI (n:=2 * i+1) (by omega) (by omega)) ?_))
    refine yR (zz:=zl0) O O hs7.m (2 * i+1) (O) (by omega) fun p22 hp22=>?_
    refine uO O hp22 (R0 2 O ?_)
    exact eT (LI.m [] O)
   refine oC ?_
   rw [show fV (qB (hv l)) (2 * i+1)=0 from Io (by omega)]
   exact eT (LI.m [] O)
  have hJ18:=hJ
  refine hJ18.open fun e zj18 _=>?_
  refine xG (R1 11 O ?_)
  refine yR (zz:=zj18) O O hs7.m (2 * i) (O) (by omega) fun p27 hp27=>?_
  refine uO O hp27 ?_
  refine mX O (wD (O) (by have:=rA okc (2 * i);omega)) ?_
  refine lC O ?_
  refine mX O (wD (O) (by have:=rA okc (2 * i+1);omega)) ?_
  refine lB O O ((aXH (rA okc (2 * i+1)))) (lB O O ((aYO (rA okc (2 * i)) (rA okc (2 * i+1)))) ?_)
  have hoi:o.length=i:=by rw [ho];exact nP hi
  refine aAU (e:=eW) (a:=(UInt32.ofNat (fV (qB (hv l)) (2 * i)+65536 * fV (qB (hv l)) (2 * i+1)))) O (by have h8:=rA okc (2 * i);have h9:=rA okc (2 * i+1);rw [eW,Go.Num.ofNat_toNat (by show _<4294967296;omega)]) O (fun _=>rfl) (fun _=>iW) (by omega) (by omega) fun b34 c35 hc35=>?_
  refine R0 2 O (eT (xG (lC O (lB O O (gI (n:=2 * (i+1)) (by omega) (by omega)) (oW 117 1 (R0 2 O ?_))))))
  exact mK (by omega) ⟨i+1,_,_,LI.m [_,_] O,rfl,by omega,aZy okc ho (by omega)⟩
 refine dH (nF (eT (R4 6 O ?_)))
 obtain rfl:o=toL (hv l):=by rw [ho,List.take_of_length_le (by omega),Jc]
 refine Dx z zl0 (p:=[]) O O zI (by omega) fun zfo _ hfo=>?_
 refine R0 3 O (xT ?_)
 exact rI O hfo
open Go.CE Go.RowKit Go.Num
open Go.Eng (kN Od)
theorem bLy (l:List UInt32) (i:Nat):nJ l i / 65536<9223372036854775808:=by
 have:nJ l i<4294967296:=qO l i
 omega
theorem aXx {a:Nat} (h:a<4294967296):pS .rem (.int .u32 (a:Nat)) (.int .u32 65536)=some (.int .u32 ((a % 65536:Nat):Int)):=aS9 (by omega) (by omega) (by omega)
theorem aYF {a:Nat} (h:a<4294967296):pS .quo (.int .u32 (a:Nat)) (.int .u32 65536)=some (.int .u32 ((a / 65536:Nat):Int)):=aS0 (by omega) (by omega) (wD (by omega) (by omega))
theorem aBU (l:List UInt32):(aBm l).length=2 * l.length:=by
 induction l with
 | nil=>rfl
 | cons x l ih=>simp only [aBm,List.length_cons,ih];omega
theorem bHu (a b:List UInt32):aBm (a++b)=aBm a++aBm b:=by
 induction a with
 | nil=>rfl
 | cons x a ih=>simp [aBm,ih]
theorem aU3 {l:List UInt32} {i:Nat} {o:List Nat} (h:o=aBm (l.take i)) (hi:i<l.length):o++[nJ l i % 65536,nJ l i / 65536]=aBm (l.take (i+1)):=by
 rw [h,List.take_add_one,List.getElem?_eq_getElem hi,bHu]
 simp [aBm,nJ,List.getD_eq_getElem?_getD,List.getElem?_eq_getElem hi]
theorem aYS {call:eE} {B:pK} {fs:Sf} {l:List I} {Q:Sf→Prop} {d:Nat} {α:Type} {e:α→Value} {ty ty' bytes b:Nat} {zero:List Value} {x y:Od} {u:AV} {r s:List α} {H':AV→List HA} (hx:fs.ev x=u) (hy:fs.ev y=Aw b s.length) (hm:HA.blk b (.cells ty' (cE e s))∈fs.H) (hr:∀ u',By fs.H (Ed e u ty r) (Ed e u' ty (r++s)) (H' u')) (hb:(r.length+s.length) * bytes≤140737488355328) (hn:r.length+s.length≤9223372036854775807)
  (hw:∀ c':C,pO c' c'=true→FL call B l (fs.res d (.c c') fs.z (H' (.c c'))) Q):FL call B (⟨some d,none,.app ty 1 bytes zero x y⟩::l) fs Q:=
 mV (n:=r.length) (cs:=cE e r) (news:=cE e s) hx hy hm (by rw [aDH,Nat.mul_one]) (fun u'=>by have h:=hr u';simp only [Ed,List.length_append,← aWc] at h;exact h) hb hn hw
theorem xJ {k:Nat} (hk:2≤k) {z:dA} {v:AV} {l:List UInt32} (hx:SZ 1 RW z v l) (hl:l.length≤10000000000):FC (E k) 269 [v] z fun v' z'=>SZ 1 RN (zd z z') v' (qB (val l)):=by
 refine eA (bBH) (by omega) (aU O) fun B j hj=>?_
 refine R4 64 O (oW 3 1 (R0 2 O ?_))
 refine aT (aQ ?_)
 refine dX (fun n fs=>∃ (i:Nat) (o:List Nat) (u:AV),LI z [Ed eN u 3 o] [(0,v),(3,u),(4,Az i)] fs∧n=l.length - i∧(i≤l.length)∧(o=aBm (l.take i))) ?_ _ ⟨0,[],rC,LI.m [] O,rfl,Nat.zero_le _,rfl⟩ (kK (by omega))
 intro n fs ⟨i,o,u,hL0,hmz0,hi,ho⟩
 refine hL0.open fun e zl0 _=>?_
 refine R4 24 O (aS O hx (R3 4 O ?_))
 refine xD O (fun hc8=>?_) (fun hc8=>?_)
 ·refine cP ?_
  refine aT (aQ ?_)
  refine wC ?_
  have hoi:o.length=2 * i:=by rw [ho,aBU,nP hi]
  refine G1 11 O (gP O O F ?_)
  refine sJ (zz:=zl0) O O hx.m (i) (O) (by omega) fun p14 hp14=>lN ?_
  refine glP O O hp14 ti (gP O O F ?_)
  refine lB O O ((aXx (qO l i))) (lN ?_)
  refine gP O O F ?_
  refine mX O (wI (O) (by omega)) (lN ?_)
  refine G1 5 O (gP O O F ?_)
  refine sJ (zz:=zl0) O O hx.m (i) (O) (by omega) fun p20 hp20=>lN ?_
  refine glP O O hp20 ti (gP O O F ?_)
  refine lB O O ((aYF (qO l i))) (lN ?_)
  refine gP O O F ?_
  refine mX O (wI (O) (bLy l i)) (lN ?_)
  refine wE (k:=.cells 3 (cE eN [nJ l i % 65536,nJ l i / 65536])) (w:=fun b=>Aw b 2) rfl F rfl (fun _=>rfl) (fun st hst=>?_) (fun b24 hT24=>?_)
  ·simp only [eP,zB,AS.ev,hst 17 (by simp [lS.sl,Od.sls,Od.sl]),hst 23 (by simp [lS.sl,Od.sls,Od.sl])];rfl
  refine Dm (i:=⟨_,_,.app _ _ _ _ _ _⟩) O F O O O O ?_
  refine aYS (e:=eN) (s:=[nJ l i % 65536,nJ l i / 65536]) O O mem0 (fun _=>mR iW) (by simp only [List.length_cons,List.length_nil];omega) (by simp only [List.length_cons,List.length_nil];omega) fun c25 hc25=>?_
  refine lN (G0 2 O (eT (xG (lC O (lB O O (gI (n:=i+1) (by omega) (by omega)) (oW 3 1 (R0 2 O ?_)))))))
  exact mK (by omega) ⟨i+1,_,_,LI.m [_,_] O,rfl,by omega,aU3 ho (by omega)⟩
 refine dH (nF (eT (xR ?_)))
 obtain rfl:o=aBm l:=by rw [ho,List.take_of_length_le (by omega)]
 have hhl:=aBU l
 refine Dx z zl0 (p:=[]) O O zI (by omega) fun zfo _ hfo=>?_
 refine lM O ?_
 refine lZ zfo (aMH (by omega) (aWU l) (hfo.mono jF)) O O fun v27 z27 hz27 ht27=>?_
 refine R0 3 O (xT (rI O ?_))
 have hr:=ht27 _ (hfo.mono (jO (hz27)))
 rwa [aWZ] at hr
end Go.Proofs.YtlceligcgelbdaaGreat
namespace Go.Num
open Go.Proofs.YtlceligcgelbdaaGreat
theorem aDE (l:List Nat) (i:Nat):hv l=hv (l.take i)+H ^ i * hv (l.drop i):=by
 rcases Nat.le_total i l.length with h | h
 ·conv=>lhs;rw [← List.take_append_drop i l,V9,List.length_take,Nat.min_eq_left h]
 rw [List.take_of_length_le h,List.drop_eq_nil_of_le h];simp [hv]
theorem aTL (l:List Nat) (i j:Nat):fV (l.drop i) j=fV l (i+j):=by
 simp [fV,List.getD_eq_getElem?_getD]
theorem aZ8 {y:List Nat} (h:∀ j,fV y j=0):hv y=0:=by
 induction y with
 | nil=>rfl
 | cons a r ih =>
  have h0:a=0:=h 0
  have h1:=ih fun j=>h (j+1)
  simp only [hv,h0,h1,Nat.mul_zero]
theorem bHY {x y:List Nat} (h:∀ j,fV x j=fV y j):hv x=hv y:=by
 induction x generalizing y with
 | nil=>exact (aZ8 fun j=>(h j).symm).symm
 | cons a r ih =>
  cases y with
  | nil=>exact aZ8 h
  | cons b s =>
   have h0:a=b:=h 0
   have h1:=ih fun j=>h (j+1)
   simp only [hv,h0,h1]
theorem aM1 {x y:List Nat} {i:Nat} (h:∀ j,i≤j→fV x j=fV y j):hv (x.drop i)=hv (y.drop i):=bHY fun j=>by
 rw [aTL,aTL];exact h _ (by omega)
theorem bGj {l:List Nat} (ok:Ni l) (i:Nat):hv (l.take i)<H ^ i:=by
 refine Nat.lt_of_lt_of_le (aSB (aXA ok i)) (Nat.pow_le_pow_right (by decide) ?_)
 rw [List.length_take];omega
theorem Cm {l:List Nat} {m:Nat} (h:l.length≤m):hv (l.take m)=hv l:=by rw [List.take_of_length_le h]
theorem bJB {x y:List Nat} (ok:Ni x) {i:Nat} (he:∀ j,i+1≤j→fV x j=fV y j) (hd:fV x i<fV y i):hv x<hv y:=by
 have e:=aM1 he
 have h1:=bGj ok i
 rw [aDE x (i+1),aDE y (i+1),e,rS,rS]
 have h2:H ^ i * (fV x i+1)≤H ^ i * fV y i:=Nat.mul_le_mul_left _ hd
 rw [Nat.mul_add,Nat.mul_one] at h2
 omega
theorem Wb {o:List Nat} {x:Nat} (ok:Ni o) (h:x<65536):Ni (o++[x]):=fun y hy=>by
 rcases List.mem_append.1 hy with hy | hy
 ·exact ok y hy
 rw [List.mem_singleton.1 hy];exact h
theorem aPa:Ni []:=fun y hy=>absurd hy List.not_mem_nil
theorem Ff {l:List Nat}:Ni l→(qB (hv l)).length≤l.length:=fun ok=>Ib.2 (aSB ok)
theorem aTX {x y o:List Nat} {i c n:Nat} (hl:o.length=i) (h:hv o+H ^ i * c=hv (x.take i)+hv (y.take i)) (hn:n=fV x i+fV y i+c):hv (o++[n % 65536])+H ^ (i+1) * (n / 65536)=hv (x.take (i+1))+hv (y.take (i+1)):=by
 rw [aOC,hl,rS,rS]
 have e:n=n % 65536+65536 * (n / 65536):=by omega
 have e2:H ^ i * n=H ^ i * (n % 65536)+H ^ (i+1) * (n / 65536):=by
  conv=>lhs;rw [e,Nat.mul_add,← Nat.mul_assoc]
  rw [Nat.pow_succ]
 rw [hn,Nat.mul_add,Nat.mul_add,← hn] at e2
 omega
theorem aUH {x y o:List Nat} {i c c' d:Nat} (hl:o.length=i) (h:hv o+hv (y.take i)=hv (x.take i)+H ^ i * c) (hd:d+fV y i+c=fV x i+65536 * c'):hv (o++[d])+hv (y.take (i+1))=hv (x.take (i+1))+H ^ (i+1) * c':=by
 rw [aOC,hl,rS,rS,Nat.pow_succ,Nat.mul_assoc]
 have e:H ^ i * (d+fV y i+c)=H ^ i * (fV x i+65536 * c'):=by rw [hd]
 rw [Nat.mul_add,Nat.mul_add,Nat.mul_add] at e
 show _=_+H ^ i * (65536 * c')
 omega
theorem aY2 {o x y L c:Nat} (ho:o<L) (hle:y≤x) (h:o+y=x+L * c):o=x - y:=by
 rcases Nat.eq_zero_or_pos c with rfl | hc
 ·rw [Nat.mul_zero] at h;omega
 have:L * 1≤L * c:=Nat.mul_le_mul_left _ hc
 omega
theorem aX4 {b:List Nat} {L:Nat} (h:hv b<H ^ L):hv (b.take L)=hv b:=by
 have e:=aDE b L
 rcases Nat.eq_zero_or_pos (hv (b.drop L)) with h0 | h0
 ·rw [h0,Nat.mul_zero] at e;omega
 have:H ^ L * 1≤H ^ L * hv (b.drop L):=Nat.mul_le_mul_left _ h0
 omega
theorem bKD {a b:Nat} (h:(qB a).length<(qB b).length):a<b:=by
 rcases Nat.lt_or_ge a b with h1 | h1
 ·exact h1
 have:=Ib.2 (Nat.lt_of_le_of_lt h1 (Ib.1 (Nat.le_refl (qB a).length)))
 omega
theorem bGl {a b o:List Nat} {i c c' n d:Nat} (hl:o.length=i) (h:hv o+n * hv (b.take i)=hv (a.take i)+H ^ i * c) (hd:d+n * fV b i+c=fV a i+65536 * c'):hv (o++[d])+n * hv (b.take (i+1))=hv (a.take (i+1))+H ^ (i+1) * c':=by
 rw [aOC,hl,rS,rS,Nat.pow_succ,Nat.mul_assoc,Nat.mul_add]
 have e:H ^ i * (d+n * fV b i+c)=H ^ i * (fV a i+65536 * c'):=by rw [hd]
 rw [Nat.mul_add,Nat.mul_add,Nat.mul_add] at e
 have e2:n * (H ^ i * fV b i)=H ^ i * (n * fV b i):=by rw [← Nat.mul_assoc,Nat.mul_comm n,Nat.mul_assoc]
 show _=_+H ^ i * (65536 * c')
 omega
theorem bJ1 {a b o:List Nat} {n c:Nat} (oka:Ni a) (oko:Ni o) (hl:o.length=a.length) (hle:n * hv b≤hv a) (h:hv o+n * hv (b.take a.length)=hv (a.take a.length)+H ^ a.length * c):hv o=hv a - n * hv b:=by
 rw [Cm (Nat.le_refl _)] at h
 have ho:=aSB oko
 rw [hl] at ho
 have e:n * hv (b.take a.length)=n * hv b:=by
  rcases Nat.eq_zero_or_pos n with rfl | hn
  ·rw [Nat.zero_mul,Nat.zero_mul]
  rw [aX4]
  have:1 * hv b≤n * hv b:=Nat.mul_le_mul_right _ hn
  have:=aSB oka
  omega
 rw [e] at h
 exact aY2 ho hle h
theorem aGi {l:List Nat} {i j n:Nat} (hj:j<l.length):fV (l.set j n) i=if i=j then n else fV l i:=by
 simp only [fV,List.getD_eq_getElem?_getD,List.getElem?_set]
 by_cases h:j=i
 ·subst h;simp [hj]
 rw [if_neg h,if_neg (fun e=>h e.symm)]
theorem bBl {l:List Nat} {i x:Nat} (h:i<l.length):(l.set i x).take (i+1)=l.take i++[x]:=by
 rw [List.take_set,List.set_eq_take_append_cons_drop,if_pos (by rw [List.length_take];omega),List.take_take,Nat.min_eq_left (by omega),List.drop_eq_nil_of_le (by rw [List.length_take];omega)]
theorem aW0 {l:List Nat} {i x:Nat} (ok:Ni l) (h:x<65536):Ni (l.set i x):=fun y hy=>by
 rcases List.mem_or_eq_of_mem_set hy with hy | rfl
 ·exact ok y hy
 exact h
theorem bBf (n:Nat):Ni (List.replicate n 0):=fun y hy=>by rw [(List.mem_replicate.1 hy).2];decide
theorem bOt (n:Nat):hv (List.replicate n 0)=0:=by
 induction n with
 | zero=>rfl
 | succ n ih=>rw [List.replicate_succ,hv,ih,Nat.mul_zero]
theorem bHd (n j:Nat):fV (List.replicate n 0) j=0:=by
 simp only [fV,List.getD_eq_getElem?_getD,List.getElem?_replicate]
 split<;>rfl
structure Mr (x:Nat) (b o0 o:List Nat) (i k c:Nat):Prop where
 len:o.length=o0.length
 ok:Ni o
 same:∀ j,i+k≤j→fV o j=fV o0 j
 cl:c<65536
 val:hv (o.take (i+k))+H ^ (i+k) * c=hv (o0.take (i+k))+H ^ i * (x * hv (b.take k))
 kc:b.length<k→c=0∧k=b.length+1
theorem Mr.init {x i:Nat} {b o:List Nat} (ok:Ni o):Mr x b o o i 0 0:=⟨rfl,ok,fun _ _=>rfl,by decide,by simp [hv],fun h=>absurd h (Nat.not_lt_zero _)⟩
theorem bH8 {x i k c n:Nat} {b o0 o:List Nat} (h:Mr x b o0 o i k c) (hi:i+k<o.length) (hn:n=fV o (i+k)+c+x * fV b k):hv ((o.set (i+k) (n % 65536)).take (i+(k+1)))+H ^ (i+(k+1)) * (n / 65536)=hv (o0.take (i+(k+1)))+H ^ i * (x * hv (b.take (k+1))):=by
 have hs:=h.same (i+k) (Nat.le_refl _)
 have hv0:=h.val
 rw [← Nat.add_assoc,bBl hi,aOC,List.length_take,Nat.min_eq_left (by omega),rS,rS,← hs]
 have e:n=n % 65536+65536 * (n / 65536):=by omega
 have e2:H ^ (i+k) * n=H ^ (i+k) * (n % 65536)+H ^ (i+k+1) * (n / 65536):=by
  conv=>lhs;rw [e,Nat.mul_add,← Nat.mul_assoc]
  rw [Nat.pow_succ]
 rw [hn,Nat.mul_add,Nat.mul_add,← hn] at e2
 have e3:H ^ i * (x * (hv (b.take k)+H ^ k * fV b k))=H ^ i * (x * hv (b.take k))+H ^ (i+k) * (x * fV b k):=by
  rw [Nat.mul_add,Nat.mul_add,Nat.pow_add,Nat.mul_assoc,Nat.mul_left_comm x]
 rw [e3]
 omega
theorem Mr.step {x i k c n:Nat} {b o0 o:List Nat} (h:Mr x b o0 o i k c) (okb:Ni b) (hx:x<65536) (hi:i+k<o.length) (hn:n=fV o (i+k)+c+x * fV b k) (hk:k<b.length):Mr x b o0 (o.set (i+k) (n % 65536)) i (k+1) (n / 65536):=by
 refine ⟨by rw [List.length_set];exact h.len,aW0 h.ok (Nat.mod_lt _ (by decide)),fun j hj=>?_,?_,bH8 h hi hn,fun hk2=>absurd hk2 (by omega)⟩
 ·rw [aGi hi,if_neg (by omega)];exact h.same j (by omega)
 have h1:=aWY h.ok (i+k)
 have h2:x * fV b k≤65535 * 65535:=Nat.mul_le_mul (by omega) (by have:fV b k<65536:=aWY okb k;omega)
 have h3:=h.cl
 have h1':fV o (i+k)<65536:=h1
 omega
theorem Mr.last {x i k c n:Nat} {b o0 o:List Nat} (h:Mr x b o0 o i k c) (hi:i+k<o.length) (hz:∀ j,i+b.length≤j→fV o0 j=0) (hn:n=fV o (i+k)+c) (hk:¬ k<b.length) (hc:0<c):Mr x b o0 (o.set (i+k) (n % 65536)) i (k+1) (n / 65536)∧k=b.length:=by
 have hkb:k=b.length:=by
  rcases Nat.lt_or_ge b.length k with h1 | h1
  ·have:=(h.kc h1).1;omega
  omega
 have h0:fV o (i+k)=0:=by rw [h.same _ (Nat.le_refl _)];exact hz _ (by omega)
 have hc2:=h.cl
 have hb0:fV b k=0:=Io (by omega)
 refine ⟨⟨by rw [List.length_set];exact h.len,aW0 h.ok (Nat.mod_lt _ (by decide)),fun j hj=>?_,by omega,bH8 h hi (by rw [hn,hb0,Nat.mul_zero,Nat.add_zero]),fun _=>⟨by omega,by omega⟩⟩,hkb⟩
 rw [aGi hi,if_neg (by omega)];exact h.same j (by omega)
structure Mt (a b o:List Nat) (i:Nat):Prop where
 ok:Ni o
 z:∀ j,i+b.length≤j→fV o j=0
 val:hv o=hv (a.take i) * hv b
theorem Mt.init {a b:List Nat} (n:Nat):Mt a b (List.replicate n 0) 0:=⟨bBf n,fun j _=>bHd n j,by rw [bOt,List.take_zero,hv,Nat.zero_mul]⟩
theorem Mt.next {a b o0 o:List Nat} {i k:Nat} (h0:Mt a b o0 i) (h:Mr (fV a i) b o0 o i k 0) (hk:¬ k<b.length):Mt a b o (i+1):=by
 refine ⟨h.ok,fun j hj=>?_,?_⟩
 ·have hk2:k≤b.length+1:=by
   rcases Nat.lt_or_ge b.length k with h1 | h1
   ·have:=(h.kc h1).2;omega
   omega
  rw [h.same j (by omega)];exact h0.z j (by omega)
 have hv1:=h.val
 rw [Nat.mul_zero,Nat.add_zero,Cm (l:=b) (by omega)] at hv1
 rw [aDE o (i+k),aM1 h.same,hv1,rS,Nat.add_mul,← h0.val,aDE o0 (i+k),Nat.mul_assoc]
 omega
theorem bDA {A B lo hi:Nat} (h1:lo * B≤A) (h2:A<hi * B) (h3:¬ 1<hi - lo):A / B=lo:=by
 have hlt:lo<hi:=by
  rcases Nat.lt_or_ge lo hi with h | h
  ·exact h
  have:=Nat.mul_le_mul_right B h;omega
 have e:hi=lo+1:=by omega
 subst e
 exact Nat.div_eq_of_lt_le h1 h2
theorem bI2 {x r B:Nat} (hx:x<65536) (hr:r<B):x+65536 * r<65536 * B:=by
 have:65536 * (r+1)≤65536 * B:=Nat.mul_le_mul_left _ hr
 omega
theorem aSZ {l:List Nat} {i:Nat} (h0:0<i) (hi:i≤l.length):hv (l.drop (i - 1))=fV l (i - 1)+H * hv (l.drop i):=by
 obtain ⟨k,rfl⟩:∃ k,i=k+1:=⟨i - 1,by omega⟩
 rw [Nat.add_sub_cancel,List.drop_eq_getElem_cons (by omega),hv]
 simp [fV,List.getD_eq_getElem?_getD,List.getElem?_eq_getElem (show k<l.length by omega)]
theorem bCw {l:List Nat} {i q:Nat} (h0:0<i) (hi:i≤l.length):hv ((l.set (i - 1) q).drop (i - 1))=q+H * hv (l.drop i):=by
 rw [aSZ h0 (by rw [List.length_set];exact hi),aGi (by omega),if_pos rfl,List.drop_set_of_lt (by omega)]
theorem aZi {a o:List Nat} {i r B x:Nat} (h0:0<i) (hi:i≤a.length) (hio:i≤o.length) (h:hv (a.drop i)=hv (o.drop i) * B+r) (hx:x=fV a (i - 1)+65536 * r):hv (a.drop (i - 1))=hv ((o.set (i - 1) (x / B)).drop (i - 1)) * B+x % B:=by
 rw [aSZ h0 hi,bCw h0 hio,h,Nat.add_mul,Nat.mul_assoc]
 have:=Nat.div_add_mod' x B
 show fV a (i - 1)+65536 * (hv (o.drop i) * B+r)=x / B * B+65536 * (hv (o.drop i) * B)+x % B
 omega
theorem bCW {a o B r:Nat} (hr:r<B) (h:a=o * B+r):a / B=o∧a % B=r:=by
 rw [h,Nat.add_comm,Nat.add_mul_div_right _ _ (by omega),Nat.div_eq_of_lt hr,Nat.add_mul_mod_self_right,Nat.mod_eq_of_lt hr]
 exact ⟨by omega,rfl⟩
end Go.Num
namespace Go.Proofs.YtlceligcgelbdaaGreat
open Go.CE Go.RowKit Go.Num
open Go.Eng (kN)
theorem bIj {call:eE} {B:pK} {fs:Sf} {l:List I} {Q:Sf→Prop} {d:Nat} {x y:Go.Eng.Od} {k:IntKind} {a b:Nat} (hx:fs.ev x=.c (.v (.int k (a:Nat)))) (hy:fs.ev y=.c (.v (.int k (b:Nat)))) (hw:FL call B l (fs.put d (.c (.v (.int k ((max a b:Nat):Int))))) Q):FL call B (⟨some d,none,.mx false x y⟩::l) fs Q:=aY1 hx hy (by simp only;split<;>omega) hw
theorem N8 {l:List UInt32}:(qB (val l)).length≤2 * l.length:=by rw [← aBU,← aWZ];exact Ff (aWU l)
theorem aGp {a b:Nat} (h:a≤b):(qB a).length≤(qB b).length:=Ib.2 (Nat.lt_of_le_of_lt h (Ib.1 (Nat.le_refl _)))
theorem aG8 {n m i:Nat} (he:∀ j,i≤j→fV (qB n) j=fV (qB m) j) (h0:0<i) (hd:((fV (qB n) (i - 1):Nat):Int)<(fV (qB m) (i - 1):Nat)):n<m:=by
 have:=bJB (wR n) (i:=i - 1) (fun j hj=>he j (by omega)) (by omega)
 rwa [wM,wM] at this
theorem aUA {x y:List Nat} {i:Nat} (h0:0<i) (he:∀ j,i≤j→fV x j=fV y j) (h1:¬ ((fV x (i - 1):Nat):Int)<(fV y (i - 1):Nat)) (h2:¬ ((fV y (i - 1):Nat):Int)<(fV x (i - 1):Nat)):∀ j,i - 1≤j→fV x j=fV y j:=fun j hj=>by
 by_cases h:j=i - 1
 ·subst h;omega
 exact he j (by omega)
theorem bAJ {n m:Nat} (h:∀ j,fV (qB n) j=fV (qB m) j):n=m:=by
 have:=bHY h
 rwa [wM,wM] at this
theorem aGk (a:Nat):pS .rem (.int .i64 (a:Nat)) (.int .i64 65536)=some (.int .i64 ((a % 65536:Nat):Int)):=aS9 (by omega) (by omega) (by omega)
theorem aCW {a:Nat} (h:a<9223372036854775808):pS .quo (.int .i64 (a:Nat)) (.int .i64 65536)=some (.int .i64 ((a / 65536:Nat):Int)):=aS0 (by omega) (by omega) (wI (by omega) (by omega))
theorem bOu {x:Int} {n:Nat} (h:x=n):Value.int .i64 x=eN n:=by rw [h]
theorem aWC {k:Nat} (hk:3≤k) {z:dA} {v:AV} {l:List UInt32} (hx:SZ 1 RW z v l) (hl:l.length≤1000000000):FC (E k) 265 [v] z fun v' z'=>SZ 1 RW (zd z z') v' (toL (val l)):=by
 have hh:=N8 (l:=l)
 refine eA (bDj) (by omega) (aU O) fun B j hj=>?_
 refine R4 24 O ?_
 refine lZ z (xJ (by omega) hx (by omega)) O O fun v4 z4 hz4 hr4=>?_
 refine lZ z4 (U8 (by omega) (wR _) (hr4.mono jF) (by omega)) O O fun v5 z5 _ hs5=>?_
 rw [wM] at hs5
 have hs5:=hs5.mono (qY (hz4))
 refine R0 3 O (xT ?_)
 exact rI O hs5
theorem bJe {k:Nat} (hk:1≤k) {z:dA} {v:AV} {l:List Nat} (hx:SZ 1 RN z v l) {i:Nat} {y:Int} (hy:y=(i:Int)):FC (E k) 270 [v,Ai y] z fun w _=>w=Az (fV l i):=by
 subst hy
 exact Jl hk hx
theorem aBW {k:Nat} (hk:3≤k) {z:dA} {u v:AV} {a b:List UInt32} (hx:SZ 1 RW z u a) (hy:SZ 1 RW z v b) (hla:a.length≤1000000000) (hlb:b.length≤1000000000):FC (E k) 272 [u,v] z fun v _=>v=Ai (Jg (val a) (val b)):=by
 have hh1:=N8 (l:=a)
 have hh2:=N8 (l:=b)
 refine eA (bBW) (by omega) (aU O) fun B j hj=>?_
 refine R4 24 O ?_
 refine lZ z (xJ (by omega) hx (by omega)) O O fun v9 z9 hz9 hr9=>?_
 refine lM O ?_
 refine lZ z9 (xJ (by omega) hy.m (by omega)) O O fun v11 z11 _ hr11=>?_
 have hr11:=hr11.mono (qY (hz9))
 refine R2 51 O (aS O hr9 (lM O (aS O (hr11.mono jF) (bIj O O (lB O O (wF (r:=((max (qB (val a)).length (qB (val b)).length:Nat):Int) - 1) (vF (by omega))) (R0 2 O ?_))))))
 refine aT (aQ ?_)
 refine dX (fun n fs=>∃ (i:Nat),LI z11 [] [(5,v9),(6,v11),(7,Ai ((i:Int) - 1))] fs∧n=i∧(i≤2000000000)∧(∀ j,i≤j→fV (qB (val a)) j=fV (qB (val b)) j)) ?_ _ ⟨max (qB (val a)).length (qB (val b)).length,LI.m [] O,rfl,by omega,fun j hj=>by rw [Io (by omega),Io (by omega)]⟩ (kK (by omega))
 intro n fs ⟨i,hL0,hmz0,hi,he⟩
 refine hL0.open fun e zl0 _=>?_
 refine R5 32 O ?_
 refine xD O (fun hc19=>?_) (fun hc19=>?_)
 ·refine cP ?_
  refine aT (aQ ?_)
  refine R4 20 O ?_
  refine lE zl0 (bJe (by omega) hr9.m (i:=i - 1) (by omega)) O O fun z24 _=>?_
  refine R1 5 O ?_
  refine lE z24 (bJe (by omega) hr11.m (i:=i - 1) (by omega)) O O fun z27 _=>?_
  refine R3 4 O ?_
  refine xD O (fun hc28=>?_) (fun hc28=>?_)
  ·refine R5 8 O (jX (nS (L9 (nS (rI O ?_)))))
   rw [Jg,if_pos (aG8 he (by omega) hc28)]
   rfl
  refine R4 20 O ?_
  refine lE z27 (bJe (by omega) hr9.m (i:=i - 1) (by omega)) O O fun z31 _=>?_
  refine R1 5 O ?_
  refine lE z31 (bJe (by omega) hr11.m (i:=i - 1) (by omega)) O O fun z34 _=>?_
  refine R0 2 O ?_
  refine xD O (fun hc35=>?_) (fun hc35=>?_)
  ·refine R5 4 O (xT (nS (L9 (nS (rI O ?_)))))
   have hlt:=aG8 (fun j hj=>(he j hj).symm) (by omega) hc35
   rw [Jg,if_neg (by omega),if_pos hlt]
   rfl
  refine oC (eT (xG (lC O ?_)))
  refine lB O O (wF (r:=((i - 1:Nat):Int) - 1) (by rw [vF ⟨by omega,by omega⟩];omega)) ?_
  refine R0 2 O ?_
  exact mK (by omega) ⟨i - 1,LI.m [] O,rfl,by omega,aUA (by omega) he hc28 hc35⟩
 refine dH (nF (eT (R5 4 O (xT (rI O ?_)))))
 rw [bAJ (fun j=>he j (by omega)),Jg,if_neg (by omega),if_neg (by omega)]
 rfl
theorem aYW {k:Nat} (hk:3≤k) {z:dA} {u v:AV} {a b:List UInt32} (hx:SZ 1 RW z u a) (hy:SZ 1 RW z v b) (hla:a.length≤1000000000) (hlb:b.length≤1000000000):FC (E k) 216 [u,v] z fun v' z'=>SZ 1 RW (zd z z') v' (toL (val a+val b)):=by
 have hh1:=N8 (l:=a)
 have hh2:=N8 (l:=b)
 refine eA (bBh) (by omega) (aU O) fun B j hj=>?_
 refine R4 24 O ?_
 refine lZ z (xJ (by omega) hx (by omega)) O O fun v12 z12 hz12 hr12=>?_
 refine lM O ?_
 refine lZ z12 (xJ (by omega) hy.m (by omega)) O O fun v14 z14 hz14 hr14=>?_
 have hr14:=hr14.mono (qY (hz12))
 refine R2 35 O (oW 3 1 (R3 16 O ?_))
 refine aT (aQ ?_)
 refine dX (fun n fs=>∃ (i:Nat) (o:List Nat) (u:AV) (cy:Nat),LI z14 [Ed eN u 3 o] [(5,v12),(6,v14),(7,u),(8,Az cy),(9,Az i)] fs∧n=2 * (max (qB (val a)).length (qB (val b)).length - i)+cy∧(i≤max (qB (val a)).length (qB (val b)).length+1)∧(max (qB (val a)).length (qB (val b)).length<i→cy=0)∧(o.length=i)∧(Ni o)∧(cy≤1)∧(hv o+H ^ i * cy=hv ((qB (val a)).take i)+hv ((qB (val b)).take i))) ?_ _ ⟨0,[],rC,0,LI.m [] O,rfl,by omega,fun h=>absurd h (by omega),rfl,aPa,by omega,by simp [Num.hv]⟩ (kK (by omega))
 intro n fs ⟨i,o,u,cy,hL0,hmz0,hi,hz,hol,oko,hcy,hv⟩
 refine hL0.open fun e zl0 hzl0=>?_
 refine R4 24 O (aS O hr12 (lM O (aS O hr14 (bIj O O (R1 4 O ?_)))))
 refine fR 22 O (fun hg22=>?_) (fun hg22=>?_)
 ·refine R3 64 O ?_
  refine aT (aQ ?_)
  refine xR ?_
  have h8:=rA (wR (val a)) i
  have h9:=rA (wR (val b)) i
  refine R1 5 O ?_
  refine lE zl0 (Jl (by omega) hr12.m) O O fun z30 hz30=>?_
  refine R1 5 O ?_
  refine lE z30 (Jl (by omega) hr14.m) O O fun z33 hz33=>?_
  refine lB O O (gI (n:=fV (qB (val a)) i+fV (qB (val b)) i) (by omega) (by omega)) (lC O (lB O O (gI (n:=(fV (qB (val a)) i+fV (qB (val b)) i+cy)) (by omega) (by omega)) (R2 20 O (lB O O ((aGk _)) ?_))))
  refine aAU (e:=eN) (a:=((fV (qB (val a)) i+fV (qB (val b)) i+cy) % 65536)) O (O) O (fun _=>rfl) (fun _=>iW) (by omega) (by omega) fun b40 c41 hc41=>?_
  refine R0 2 O (xG (lC O (lB O O ((aCW (by omega))) (R0 2 O (eT (xG (lC O (lB O O (gI (n:=i+1) (by omega) (by omega)) (R0 2 O ?_)))))))))
  exact mK (by omega) ⟨i+1,_,_,(fV (qB (val a)) i+fV (qB (val b)) i+cy) / 65536,LI.m [_] O,rfl,by omega,fun h=>by omega,by rw [List.length_append,hol];rfl,Wb oko (Nat.mod_lt _ (by decide)),by omega,aTX hol hv rfl⟩
 refine R3 16 O ?_
 refine xD O (fun hc25=>?_) (fun hc25=>?_)
 ·refine cP ?_
  refine aT (aQ ?_)
  refine xR ?_
  have h8:=rA (wR (val a)) i
  have h9:=rA (wR (val b)) i
  have h10:=Io (l:=(qB (val a))) (i:=i) (by omega)
  have h11:=Io (l:=(qB (val b))) (i:=i) (by omega)
  refine R1 5 O ?_
  refine lE zl0 (Jl (by omega) hr12.m) O O fun z30 hz30=>?_
  refine R1 5 O ?_
  refine lE z30 (Jl (by omega) hr14.m) O O fun z33 hz33=>?_
  refine lB O O (gI (n:=fV (qB (val a)) i+fV (qB (val b)) i) (by omega) (by omega)) (lC O (lB O O (gI (n:=(fV (qB (val a)) i+fV (qB (val b)) i+cy)) (by omega) (by omega)) (R2 20 O (lB O O ((aGk _)) ?_))))
  refine aAU (e:=eN) (a:=((fV (qB (val a)) i+fV (qB (val b)) i+cy) % 65536)) O (O) O (fun _=>rfl) (fun _=>iW) (by omega) (by omega) fun b40 c41 hc41=>?_
  refine R0 2 O (xG (lC O (lB O O ((aCW (by omega))) (R0 2 O (eT (xG (lC O (lB O O (gI (n:=i+1) (by omega) (by omega)) (R0 2 O ?_)))))))))
  exact mK (by omega) ⟨i+1,_,_,(fV (qB (val a)) i+fV (qB (val b)) i+cy) / 65536,LI.m [_] O,rfl,by omega,fun h=>by omega,by rw [List.length_append,hol];rfl,Wb oko (Nat.mod_lt _ (by decide)),by omega,aTX hol hv rfl⟩
 refine dH (nF (eT (xR ?_)))
 refine Dx z zl0 (p:=[]) O O zI (by omega) fun zfo hzfo hfo=>?_
 refine lM O ?_
 refine lZ zfo (U8 (by omega) oko (hfo.mono jF) (by omega)) O O fun v45 z45 _ hs45=>?_
 have hs45:=hs45.mono (qY (hz12.trans (hz14.trans (hzl0.trans hzfo))))
 refine R0 3 O (xT (rI O ?_))
 rw [show cy=0 by omega,Nat.mul_zero,Nat.add_zero,Cm (by omega),Cm (by omega),wM,wM] at hv
 have hq:=hs45
 rwa [hv] at hq
theorem aMp {k:Nat} (hk:4≤k) {z:dA} {u v:AV} {a b:List UInt32} (hx:SZ 1 RW z u a) (hy:SZ 1 RW z v b) (hla:a.length≤1000000000) (hlb:b.length≤1000000000):FC (E k) 217 [u,v] z fun v z'=>(val a<val b→v=.tup [rC,Ai 2])∧(val b≤val a→∃ v',v=.tup [v',Ai 0]∧SZ 1 RW (zd z z') v' (toL (val a - val b))):=by
 have hh1:=N8 (l:=a)
 have hh2:=N8 (l:=b)
 refine eA (bBG) (by omega) (aU O) fun B j hj=>?_
 refine R4 224 O ?_
 refine lE z (aBW (by omega) hx hy hla hlb) O O fun z14 hz14=>?_
 refine R3 4 O ?_
 refine xD O (fun hc15=>?_) (fun hc15=>?_)
 ·refine R5 16 O (jX (rQ (.inl O) (rt O (rt O rn)) ?_))
  rw [Pv] at hc15
  exact ⟨fun _=>rfl,fun h=>absurd h (by omega)⟩
 refine R4 12 O ?_
 refine lZ z14 (xJ (by omega) hx.m (by omega)) O O fun v17 z17 hz17 hr17=>?_
 have hr17:=hr17.mono (qY (hz14))
 refine lM O ?_
 refine lZ z17 (xJ (by omega) hy.m (by omega)) O O fun v19 z19 hz19 hr19=>?_
 have hr19:=hr19.mono (qY (hz14.trans hz17))
 refine R2 35 O (oW 3 1 (R3 16 O ?_))
 refine aT (aQ ?_)
 refine dX (fun n fs=>∃ (i:Nat) (o:List Nat) (u:AV) (bw:Nat),LI z19 [Ed eN u 3 o] [(6,v17),(7,v19),(8,u),(9,Az bw),(10,Az i)] fs∧n=(qB (val a)).length - i∧(i≤(qB (val a)).length)∧(o.length=i)∧(Ni o)∧(bw≤1)∧(hv o+hv ((qB (val b)).take i)=hv ((qB (val a)).take i)+H ^ i * bw)) ?_ _ ⟨0,[],rC,0,LI.m [] O,rfl,by omega,rfl,aPa,by omega,by simp [Num.hv]⟩ (kK (by omega))
 intro n fs ⟨i,o,u,bw,hL0,hmz0,hi,hol,oko,hbw,hv⟩
 refine hL0.open fun e zl0 hzl0=>?_
 refine R4 24 O (aS O hr17 (R3 4 O ?_))
 refine xD O (fun hc23=>?_) (fun hc23=>?_)
 ·refine cP ?_
  refine aT (aQ ?_)
  refine iN ?_
  have h8:=rA (wR (val a)) i
  have h9:=rA (wR (val b)) i
  refine G1 5 O (gP O O F ?_)
  refine yR (zz:=zl0) O O hr17.m (i) (O) (by omega) fun p28 hp28=>lN ?_
  refine glP O O hp28 ti (G1 5 O ?_)
  refine gE zl0 (Jl (by omega) hr19.m) O O O O fun z32 _=>?_
  refine gP O O F ?_
  refine lB O O (wF (r:=(fV (qB (val a)) i:Int) - (fV (qB (val b)) i:Int)) (vF (by omega))) (lN ?_)
  refine G1 2 O (gP O O F ?_)
  refine lB O O (wF (r:=(fV (qB (val a)) i:Int) - (fV (qB (val b)) i:Int) - (bw:Int)) (vF (by omega))) (lN ?_)
  refine G0 2 O (R5 128 O ?_)
  refine xD O (fun hc37=>?_) (fun hc37=>?_)
  ·refine R4 8 O (lB O O (gI (n:=fV (qB (val a)) i+65536 - fV (qB (val b)) i - bw) (by omega) (by omega)) (R3 8 O (xG (R1 5 O ?_))))
   refine aAU (e:=eN) (a:=(fV (qB (val a)) i+65536 - fV (qB (val b)) i - bw)) O (O) O (fun _=>rfl) (fun _=>iW) (by omega) (by omega) fun b42 c43 hc43=>?_
   refine R0 2 O (eT (xG (lC O (lB O O (gI (n:=i+1) (by omega) (by omega)) (R0 2 O ?_)))))
   exact mK (by omega) ⟨i+1,_,_,1,LI.m [_] O,rfl,by omega,by rw [List.length_append,hol];rfl,Wb oko (by omega),by omega,aUH hol hv (by omega)⟩
  refine cP (xG (R1 5 O ?_))
  refine aAU (e:=eN) (a:=(fV (qB (val a)) i - fV (qB (val b)) i - bw)) O (bOu (by omega)) O (fun _=>rfl) (fun _=>iW) (by omega) (by omega) fun b42 c43 hc43=>?_
  refine R0 2 O (eT (xG (lC O (lB O O (gI (n:=i+1) (by omega) (by omega)) (R0 2 O ?_)))))
  exact mK (by omega) ⟨i+1,_,_,0,LI.m [_] O,rfl,by omega,by rw [List.length_append,hol];rfl,Wb oko (by omega),by omega,aUH hol hv (by omega)⟩
 refine dH (nF (eT (xR ?_)))
 refine Dx z zl0 (p:=[]) O O zI (by omega) fun zfo hzfo hfo=>?_
 refine lM O ?_
 refine lZ zfo (U8 (by omega) oko (hfo.mono jF) (by omega)) O O fun v45 z45 _ hs45=>?_
 have hs45:=hs45.mono (qY (hz14.trans (hz17.trans (hz19.trans (hzl0.trans hzfo)))))
 refine R0 5 O (xT (rQ (.inl O) (rt O (rt O rn)) ?_))
 rw [Pv] at hc15
 refine ⟨fun h=>absurd h hc15,fun _=>⟨_,rfl,?_⟩⟩
 have hq:=hs45
 have ho:=aSB oko
 have hn:(qB (val b)).length≤(qB (val a)).length:=aGp (by omega)
 rw [hol] at ho
 rw [Cm (by omega),Cm (by omega),wM,wM] at hv
 rwa [aY2 ho (by omega) hv] at hq
end Go.Proofs.YtlceligcgelbdaaGreat
