/- Rationals on such naturals, walked. -/
import Derived.WalkKit
import Derived.Orders
import Derived.Test.YtcnpoojdochapaaGreatDoorRD1
set_option linter.unusedVariables false
set_option linter.unusedSimpArgs false
set_option maxRecDepth 100000
set_option maxHeartbeats 1000000
namespace Go.Proofs.YtcnpoojdochapaaGreatDoor
open Go.CE Go.RowKit Go.Num
open Go.Eng (oH)
theorem K5 {l:List Nat} {i:Nat} (h:l.length≤i):dX l i=0:=by
 simp [dX,List.getD_eq_getElem?_getD,List.getElem?_eq_none h]
theorem aUn {l:List Nat} {m i:Nat} (h:i<m):dX (l.take m) i=dX l i:=by
 simp [dX,List.getD_eq_getElem?_getD,List.getElem?_take,h]
theorem aXw {l:List Nat} (h:Vz l) (m:Nat):Vz (l.take m):=fun x hx=>h x (List.mem_of_mem_take hx)
theorem aTn {l:List Nat} {m:Nat} (h0:0<m) (hm:m≤l.length) (h:dX (l.take m) (m - 1)=0):hv (l.take (m - 1))=hv (l.take m):=by
 obtain ⟨k,rfl⟩:∃ k,m=k+1:=⟨m - 1,by omega⟩
 rw [Nat.add_sub_cancel] at h ⊢
 rw [aUn (by omega)] at h
 rw [rU,h]
 simp
theorem aYJ {l:List Nat} (h:l.length=0∨dX l (l.length - 1)≠0):aJ1 l:=by
 by_cases hl:l=[]
 ·exact .inl hl
 have hp:0<l.length:=List.length_pos_iff.2 hl
 rcases h with h | h
 ·omega
 refine .inr ⟨l.dropLast,l.getLast hl,(List.dropLast_concat_getLast hl).symm,fun e=>h ?_⟩
 rw [dX,List.getD_eq_getElem?_getD,List.getElem?_eq_getElem (by omega),Option.getD_some,← List.getLast_eq_getElem hl,e]
theorem aDV {l:List Nat} {m:Nat} (ok:Vz l) (hm:m≤l.length) (hq:hv (l.take m)=hv l) (h:m=0∨dX (l.take m) (m - 1)≠0):l.take m=qB (hv l):=by
 rw [← hq,bO3 (aXw ok m)]
 apply aYJ
 rcases h with rfl | h
 ·exact .inl (by simp)
 rw [mS hm];exact .inr h
theorem Nn {k:Nat} (hk:1≤k) {z:dE} {v:AV} {l:List Nat} {i:Nat} (hx:SZ 1 RN z v l):FC (E k) 242 [v,Az i] z fun w _=>w=Az (dX l i):=by
 refine cX (bBm) (by omega) (aU O) fun B j hj=>?_
 refine R4 96 O (aS O hx (R3 4 O ?_))
 refine xD O (fun hc8=>?_) (fun hc8=>?_)
 ·refine R4 20 O ?_
  refine wC O O hx (i) (O) (by omega) fun p11 hp11=>?_
  refine wF O hp11 (R0 2 O (mN (rI O ?_)))
  rfl
 refine R5 8 O (xT (rI O ?_))
 rw [K5 (by omega)]
 rfl
theorem aSD {k:Nat} (hk:1≤k) {z:dE} {v:AV} {l:List Nat} (ok:Vz l) (hx:SZ 1 RN z v l):FC (E k) 243 [v] z fun v' _=>∀ zz,SZ 1 RN zz v l→SZ 1 RN zz v' (qB (hv l)):=by
 have hxl:=hx.le
 refine cX (bBE) (by omega) (aU O) fun B j hj=>?_
 refine R5 4 O ?_
 refine aT (aQ ?_)
 refine eA (fun n fs=>∃ (v':AV) (m:Nat),LI z [] [(0,v')] fs∧n=m∧(m≤l.length)∧(hv (l.take m)=hv l)∧(∀ zz,SZ 1 RN zz v l→SZ 1 RN zz v' (l.take m))) ?_ _ ⟨v,l.length,LI.m [] O,rfl,Nat.le_refl _,by rw [List.take_length],fun zz h=>by rw [List.take_length];exact h⟩ (kK (by omega))
 intro n fs ⟨v',m,hL0,hmz0,hm,hq,ht⟩
 refine hL0.open fun e zl0 hzl0=>?_
 refine R4 12 O (Tv O (ht _ (hx.mono (hzl0))) (mS hm) (R1 4 O ?_))
 refine iW 6 O (fun hg6=>?_) (fun hg6=>?_)
 ·refine R1 7 O (lD O (Tv O (ht _ (hx.mono (hzl0))) (mS hm) (lD O (lB O O (Dx (n:=m - 1) (by omega) (by omega)) (lD O ?_)))))
  refine wC O O (ht _ (hx.mono (hzl0))) (m - 1) (O) (by rw [mS hm];omega) fun p11 hp11=>?_
  refine lD O (wF O hp11 (R3 8 O ?_))
  refine xD O (fun hc14=>?_) (fun hc14=>?_)
  ·refine dA (aQ (xG (R1 7 O (Tv O (ht _ (hx.mono (hzl0))) (mS hm) (lB O O (Dx (n:=m - 1) (by omega) (by omega)) ?_)))))
   refine aS6 (i:=0) (j:=m - 1) O (ht _ (hx.mono (hzl0))) O ⟨_,O⟩ (by omega) (by rw [mS hm];omega) ?_
   refine R0 3 O ?_
   exact lQ (by omega) ⟨aVL v' 0 (m - 1),m - 1,LI.m [] O,rfl,by omega,(aTn (by omega) hm (by omega)).trans hq,fun zz h=>by have:=(ht zz h).sub (i:=0) (j:=m - 1) (by omega) (by rw [mS hm];omega);rwa [List.drop_zero,List.take_take,Nat.min_eq_left (by omega)] at this⟩
  refine dK (nQ (dN (R5 14 O (xT (rI O ?_)))))
  intro zz h
  rw [← aDV ok hm hq (.inr (by omega))]
  exact ht zz h
 refine R3 1024 O (dK (nQ (dN (R5 14 O (xT (rI O ?_))))))
 intro zz h
 rw [← aDV ok hm hq (.inl (by omega))]
 exact ht zz h
end Go.Proofs.YtcnpoojdochapaaGreatDoor
namespace Go.Num
def J7:List Nat→List UInt32
 | []=>[]
 | [a]=>[UInt32.ofNat a]
 | a::b::r=>UInt32.ofNat (a+65536 * b)::J7 r
theorem aCC {a:Nat} {l:List Nat} (h:Vz (a::l)):Vz l:=fun x hx=>h x (List.mem_cons_of_mem _ hx)
theorem aBr {a:Nat} {l:List Nat} (h:Vz (a::l)):a<65536:=h a (List.mem_cons_self ..)
theorem aUF:∀ {l:List Nat},Vz l→val (J7 l)=hv l
 | [],_=>rfl
 | [a],ok=>by
  have ha:=aBr ok
  show (UInt32.ofNat a).toNat+W * 0=a+H * 0
  rw [ofNat_toNat (by show a<4294967296;omega)]
  rfl
 | a::b::r,ok=>by
  have ha:=aBr ok
  have hb:=aBr (aCC ok)
  show (UInt32.ofNat (a+65536 * b)).toNat+W * val (J7 r)=a+H * (b+H * hv r)
  rw [ofNat_toNat (by show _<4294967296;omega),aUF (aCC (aCC ok))]
  show a+65536 * b+4294967296 * hv r=a+65536 * (b+65536 * hv r)
  omega
theorem V0:∀ (l:List Nat),(J7 l).length=(l.length+1) / 2
 | []=>rfl
 | [a]=>by simp [J7]
 | a::b::r=>by
  simp only [J7,List.length_cons,V0 r]
  omega
theorem aGn:∀ {l:List Nat} (j:Nat),Vz l→mU (J7 l) j=dX l (2 * j)+65536 * dX l (2 * j+1)
 | [],j,_=>by simp [J7,mU,dX]
 | [a],0,ok=>by
  have ha:=aBr ok
  show (UInt32.ofNat a).toNat=a+65536 * 0
  rw [ofNat_toNat (by show a<4294967296;omega)]
  rfl
 | [a],j+1,ok=>by simp [J7,mU,dX]
 | a::b::r,0,ok=>by
  have ha:=aBr ok
  have hb:=aBr (aCC ok)
  show (UInt32.ofNat (a+65536 * b)).toNat=a+65536 * b
  rw [ofNat_toNat (by show _<4294967296;omega)]
 | a::b::r,j+1,ok=>aGn (l:=r) j (aCC (aCC ok))
theorem bG6 {l:List Nat} (h:aJ1 l) (hl:0<l.length):dX l (l.length - 1)≠0:=by
 rcases h with rfl | ⟨r,x,rfl,hx⟩
 ·simp at hl
 intro e
 rw [dX,List.getD_eq_getElem?_getD] at e
 simp at e
 exact hx e
theorem Nw (n:Nat):J7 (qB n)=toL n:=by
  have ok:=yU n
  have hc:=aUr n
  have e:val (J7 (qB n))=n:=by rw [aUF ok,yP]
  conv=>rhs;rw [← e]
  apply bEO
  apply aUJ
  rcases Nat.eq_zero_or_pos (qB n).length with h | h
  · left;rw [List.eq_nil_of_length_eq_zero h];rfl
  · right
    rw [aGn _ ok,V0]
    have ht:=bG6 hc h
    rcases Nat.mod_two_eq_zero_or_one (qB n).length with hm | hm
    · rw [show 2 * (((qB n).length + 1) / 2 - 1) + 1 = (qB n).length - 1 by omega]
      omega
    · rw [show 2 * (((qB n).length + 1) / 2 - 1) = (qB n).length - 1 by omega]
      omega
end Go.Num
namespace Go.Proofs.YtcnpoojdochapaaGreatDoor
open Go.CE Go.RowKit Go.Num
open Go.Eng (oH)
theorem qY {l:List Nat} (ok:Vz l) (i:Nat):dX l i<65536:=aVk ok i
theorem aXD {x:Nat} (h:x<65536):pR .mul (.int .u32 65536) (.int .u32 (x:Nat))=some (.int .u32 ((65536 * x:Nat):Int)):=by
 rw [bMd,bUg ⟨by omega,by omega⟩,Int.natCast_mul]
 rfl
theorem aYp {x y:Nat} (h:x<65536) (h2:y<65536):pR .add (.int .u32 (x:Nat)) (.int .u32 ((65536 * y:Nat):Int))=some (.int .u32 ((x+65536 * y:Nat):Int)):=bFP (by omega) (by omega)
theorem aZq {c:List Nat} {i:Nat} {o:List UInt32} (ok:Vz c) (h:o=(J7 c).take i) (hi:i<(J7 c).length):o++[UInt32.ofNat (dX c (2 * i)+65536 * dX c (2 * i+1))]=(J7 c).take (i+1):=by
 rw [h,List.take_add_one,List.getElem?_eq_getElem hi,← aGn i ok]
 simp [mU,List.getD_eq_getElem?_getD,List.getElem?_eq_getElem hi]
theorem aAN {k:Nat} (hk:2≤k) {z:dE} {v:AV} {l:List Nat} (ok:Vz l) (hx:SZ 1 RN z v l) (hl:l.length≤10000000000):FC (E k) 232 [v] z fun v' z'=>SZ 1 RW (zd z z') v' (toL (hv l)):=by
 have okc:=yU (hv l)
 have hcl:(qB (hv l)).length≤l.length:=Le.2 (aT2 ok)
 have hpl:=V0 (qB (hv l))
 have hol:(toL (hv l)).length=((qB (hv l)).length+1) / 2:=by rw [← Nw,V0]
 refine cX (bCv) (by omega) (aU O) fun B j hj=>?_
 refine R4 96 O ?_
 refine lZ z (aSD (by omega) ok hx) O O fun v7 z7 hz7 ht7=>?_
 have hs7:=ht7 _ (hx.mono (hz7))
 refine R2 9 O (wM 221 1 (R0 2 O ?_))
 refine aT (aQ ?_)
 refine eA (fun n fs=>∃ (i:Nat) (o:List UInt32) (u:AV),LI z7 [It eW u 221 o] [(0,v7),(3,u),(4,Az (2 * i))] fs∧n=(J7 (qB (hv l))).length - i∧(i≤(J7 (qB (hv l))).length)∧(o=(J7 (qB (hv l))).take i)) ?_ _ ⟨0,[],C4,LI.m [] O,rfl,Nat.zero_le _,rfl⟩ (kK (by omega))
 intro n fs ⟨i,o,u,hL0,hmz0,hi,ho⟩
 refine hL0.open fun e zl0 _=>?_
 refine R4 24 O (aS O hs7 (R3 4 O ?_))
 refine xD O (fun hc11=>?_) (fun hc11=>?_)
 ·refine dA ?_
  refine aT (aQ ?_)
  refine R4 32 O (lB O O (eP (n:=2 * i+1) (by omega) (by omega)) (lM O (aS O hs7 (R0 2 O ?_))))
  refine I7 (fun fs=>LI zl0 [It eW u 221 o] [(0,v7),(3,u),(4,Az (2 * i)),(5,Az (dX (qB (hv l)) (2 * i+1)))] fs) ?_ fun fs hJ=>?_
  ·refine xD O (fun hc18=>?_) (fun hc18=>?_)
   ·refine xG (R1 5 O (lB O O (eP (n:=2 * i+1) (by omega) (by omega)) ?_))
    refine wC (zz:=zl0) O O hs7.m (2 * i+1) (O) (by omega) fun p22 hp22=>?_
    refine wF O hp22 (R0 2 O ?_)
    exact dN (LI.m [] O)
   refine iF ?_
   rw [show dX (qB (hv l)) (2 * i+1)=0 from K5 (by omega)]
   exact dN (LI.m [] O)
  have hJ18:=hJ
  refine hJ18.open fun e zj18 _=>?_
  refine xG (R1 11 O ?_)
  refine wC (zz:=zj18) O O hs7.m (2 * i) (O) (by omega) fun p27 hp27=>?_
  refine wF O hp27 ?_
  refine mB O (wD (O) (by have:=qY okc (2 * i);omega)) ?_
  refine lC O ?_
  refine mB O (wD (O) (by have:=qY okc (2 * i+1);omega)) ?_
  refine lB O O ((aXD (qY okc (2 * i+1)))) (lB O O ((aYp (qY okc (2 * i)) (qY okc (2 * i+1)))) ?_)
  have hoi:o.length=i:=by rw [ho];exact mS hi
  refine aC4 (e:=eW) (a:=(UInt32.ofNat (dX (qB (hv l)) (2 * i)+65536 * dX (qB (hv l)) (2 * i+1)))) O (by have h8:=qY okc (2 * i);have h9:=qY okc (2 * i+1);rw [eW,Go.Num.ofNat_toNat (by show _<4294967296;omega)]) O (fun _=>rfl) (fun _=>iP) (by omega) (by omega) fun b34 c35 hc35=>?_
  refine R0 2 O (dN (xG (lC O (lB O O (eP (n:=2 * (i+1)) (by omega) (by omega)) (wM 221 1 (R0 2 O ?_))))))
  exact lQ (by omega) ⟨i+1,_,_,LI.m [_,_] O,rfl,by omega,aZq okc ho (by omega)⟩
 refine dK (nQ (dN (R4 6 O ?_)))
 obtain rfl:o=toL (hv l):=by rw [ho,List.take_of_length_le (by omega),Nw]
 refine Fq z zl0 (p:=[]) O O zI (by omega) fun zfo _ hfo=>?_
 refine R0 3 O (xT ?_)
 exact rI O hfo
open Go.CE Go.RowKit Go.Num
open Go.Eng (oH Od)
theorem bL6 (l:List UInt32) (i:Nat):mU l i / 65536<9223372036854775808:=by
 have:mU l i<4294967296:=qG l i
 omega
theorem aX2 {a:Nat} (h:a<4294967296):pR .rem (.int .u32 (a:Nat)) (.int .u32 65536)=some (.int .u32 ((a % 65536:Nat):Int)):=aTV (by omega) (by omega) (by omega)
theorem aYa {a:Nat} (h:a<4294967296):pR .quo (.int .u32 (a:Nat)) (.int .u32 65536)=some (.int .u32 ((a / 65536:Nat):Int)):=aTp (by omega) (by omega) (wD (by omega) (by omega))
theorem aE5 (l:List UInt32):(aEs l).length=2 * l.length:=by
 induction l with
 | nil=>rfl
 | cons x l ih=>simp only [aEs,List.length_cons,ih];omega
theorem bGo (a b:List UInt32):aEs (a++b)=aEs a++aEs b:=by
 induction a with
 | nil=>rfl
 | cons x a ih=>simp [aEs,ih]
theorem aVd {l:List UInt32} {i:Nat} {o:List Nat} (h:o=aEs (l.take i)) (hi:i<l.length):o++[mU l i % 65536,mU l i / 65536]=aEs (l.take (i+1)):=by
 rw [h,List.take_add_one,List.getElem?_eq_getElem hi,bGo]
 simp [aEs,mU,List.getD_eq_getElem?_getD,List.getElem?_eq_getElem hi]
theorem aYg {call:jO} {B:sY} {fs:Sf} {l:List I} {Q:Sf→Prop} {d:Nat} {α:Type} {e:α→Value} {ty ty' bytes b:Nat} {zero:List Value} {x y:Od} {u:AV} {r s:List α} {H':AV→List HA} (hx:fs.ev x=u) (hy:fs.ev y=Aw b s.length) (hm:HA.blk b (.cells ty' (cE e s))∈fs.H) (hr:∀ u',Hy fs.H (It e u ty r) (It e u' ty (r++s)) (H' u')) (hb:(r.length+s.length) * bytes≤140737488355328) (hn:r.length+s.length≤9223372036854775807)
  (hw:∀ c':C,qV c' c'=true→FL call B l (fs.res d (.c c') fs.z (H' (.c c'))) Q):FL call B (⟨some d,none,.app ty 1 bytes zero x y⟩::l) fs Q:=
 uQ (n:=r.length) (cs:=cE e r) (news:=cE e s) hx hy hm (by rw [aJc,Nat.mul_one]) (fun u'=>by have h:=hr u';simp only [It,List.length_append,← aY9] at h;exact h) hb hn hw
theorem zB {k:Nat} (hk:2≤k) {z:dE} {v:AV} {l:List UInt32} (hx:SZ 1 RW z v l) (hl:l.length≤10000000000):FC (E k) 233 [v] z fun v' z'=>SZ 1 RN (zd z z') v' (qB (val l)):=by
 refine cX (bAG) (by omega) (aU O) fun B j hj=>?_
 refine R4 64 O (wM 3 1 (R0 2 O ?_))
 refine aT (aQ ?_)
 refine eA (fun n fs=>∃ (i:Nat) (o:List Nat) (u:AV),LI z [It eN u 3 o] [(0,v),(3,u),(4,Az i)] fs∧n=l.length - i∧(i≤l.length)∧(o=aEs (l.take i))) ?_ _ ⟨0,[],C4,LI.m [] O,rfl,Nat.zero_le _,rfl⟩ (kK (by omega))
 intro n fs ⟨i,o,u,hL0,hmz0,hi,ho⟩
 refine hL0.open fun e zl0 _=>?_
 refine R4 24 O (aS O hx (R3 4 O ?_))
 refine xD O (fun hc8=>?_) (fun hc8=>?_)
 ·refine dA ?_
  refine aT (aQ ?_)
  refine Hj ?_
  have hoi:o.length=2 * i:=by rw [ho,aE5,mS hi]
  refine G1 11 O (gP O O F ?_)
  refine rS (zz:=zl0) O O hx.m (i) (O) (by omega) fun p14 hp14=>lN ?_
  refine glP O O hp14 ti (gP O O F ?_)
  refine lB O O ((aX2 (qG l i))) (lN ?_)
  refine gP O O F ?_
  refine mB O (wI (O) (by omega)) (lN ?_)
  refine G1 5 O (gP O O F ?_)
  refine rS (zz:=zl0) O O hx.m (i) (O) (by omega) fun p20 hp20=>lN ?_
  refine glP O O hp20 ti (gP O O F ?_)
  refine lB O O ((aYa (qG l i))) (lN ?_)
  refine gP O O F ?_
  refine mB O (wI (O) (bL6 l i)) (lN ?_)
  refine qT (k:=.cells 3 (cE eN [mU l i % 65536,mU l i / 65536])) (w:=fun b=>Aw b 2) rfl F rfl (fun _=>rfl) (fun st hst=>?_) (fun b24 hT24=>?_)
  ·simp only [eE,uZ,AS.ev,hst 17 (by simp [jM.sl,Od.sls,Od.sl]),hst 23 (by simp [jM.sl,Od.sls,Od.sl])];rfl
  refine K9 (i:=⟨_,_,.app _ _ _ _ _ _⟩) O F O O O O ?_
  refine aYg (e:=eN) (s:=[mU l i % 65536,mU l i / 65536]) O O mem0 (fun _=>D5 iP) (by simp only [List.length_cons,List.length_nil];omega) (by simp only [List.length_cons,List.length_nil];omega) fun c25 hc25=>?_
  refine lN (G0 2 O (dN (xG (lC O (lB O O (eP (n:=i+1) (by omega) (by omega)) (wM 3 1 (R0 2 O ?_)))))))
  exact lQ (by omega) ⟨i+1,_,_,LI.m [_,_] O,rfl,by omega,aVd ho (by omega)⟩
 refine dK (nQ (dN (xR ?_)))
 obtain rfl:o=aEs l:=by rw [ho,List.take_of_length_le (by omega)]
 have hhl:=aE5 l
 refine Fq z zl0 (p:=[]) O O zI (by omega) fun zfo _ hfo=>?_
 refine lM O ?_
 refine lZ zfo (aSD (by omega) (aV9 l) (hfo.mono gU)) O O fun v27 z27 hz27 ht27=>?_
 refine R0 3 O (xT (rI O ?_))
 have hr:=ht27 _ (hfo.mono (mX (hz27)))
 rwa [aVh] at hr
end Go.Proofs.YtcnpoojdochapaaGreatDoor
namespace Go.Num
open Go.Proofs.YtcnpoojdochapaaGreatDoor
theorem aFU (l:List Nat) (i:Nat):hv l=hv (l.take i)+H ^ i * hv (l.drop i):=by
 rcases Nat.le_total i l.length with h | h
 ·conv=>lhs;rw [← List.take_append_drop i l,aBY,List.length_take,Nat.min_eq_left h]
 rw [List.take_of_length_le h,List.drop_eq_nil_of_le h];simp [hv]
theorem aU6 (l:List Nat) (i j:Nat):dX (l.drop i) j=dX l (i+j):=by
 simp [dX,List.getD_eq_getElem?_getD]
theorem aZO {y:List Nat} (h:∀ j,dX y j=0):hv y=0:=by
 induction y with
 | nil=>rfl
 | cons a r ih =>
  have h0:a=0:=h 0
  have h1:=ih fun j=>h (j+1)
  simp only [hv,h0,h1,Nat.mul_zero]
theorem bEC {x y:List Nat} (h:∀ j,dX x j=dX y j):hv x=hv y:=by
 induction x generalizing y with
 | nil=>exact (aZO fun j=>(h j).symm).symm
 | cons a r ih =>
  cases y with
  | nil=>exact aZO h
  | cons b s =>
   have h0:a=b:=h 0
   have h1:=ih fun j=>h (j+1)
   simp only [hv,h0,h1]
theorem aSE {x y:List Nat} {i:Nat} (h:∀ j,i≤j→dX x j=dX y j):hv (x.drop i)=hv (y.drop i):=bEC fun j=>by
 rw [aU6,aU6];exact h _ (by omega)
theorem bHx {l:List Nat} (ok:Vz l) (i:Nat):hv (l.take i)<H ^ i:=by
 refine Nat.lt_of_lt_of_le (aT2 (aXw ok i)) (Nat.pow_le_pow_right (by decide) ?_)
 rw [List.length_take];omega
theorem E9 {l:List Nat} {m:Nat} (h:l.length≤m):hv (l.take m)=hv l:=by rw [List.take_of_length_le h]
theorem bLm {x y:List Nat} (ok:Vz x) {i:Nat} (he:∀ j,i+1≤j→dX x j=dX y j) (hd:dX x i<dX y i):hv x<hv y:=by
 have e:=aSE he
 have h1:=bHx ok i
 rw [aFU x (i+1),aFU y (i+1),e,rU,rU]
 have h2:H ^ i * (dX x i+1)≤H ^ i * dX y i:=Nat.mul_le_mul_left _ hd
 rw [Nat.mul_add,Nat.mul_one] at h2
 omega
theorem aBL {o:List Nat} {x:Nat} (ok:Vz o) (h:x<65536):Vz (o++[x]):=fun y hy=>by
 rcases List.mem_append.1 hy with hy | hy
 ·exact ok y hy
 rw [List.mem_singleton.1 hy];exact h
theorem aS2:Vz []:=fun y hy=>absurd hy List.not_mem_nil
theorem Q3 {l:List Nat}:Vz l→(qB (hv l)).length≤l.length:=fun ok=>Le.2 (aT2 ok)
theorem aUO {x y o:List Nat} {i c n:Nat} (hl:o.length=i) (h:hv o+H ^ i * c=hv (x.take i)+hv (y.take i)) (hn:n=dX x i+dX y i+c):hv (o++[n % 65536])+H ^ (i+1) * (n / 65536)=hv (x.take (i+1))+hv (y.take (i+1)):=by
 rw [aS5,hl,rU,rU]
 have e:n=n % 65536+65536 * (n / 65536):=by omega
 have e2:H ^ i * n=H ^ i * (n % 65536)+H ^ (i+1) * (n / 65536):=by
  conv=>lhs;rw [e,Nat.mul_add,← Nat.mul_assoc]
  rw [Nat.pow_succ]
 rw [hn,Nat.mul_add,Nat.mul_add,← hn] at e2
 omega
theorem aUT {x y o:List Nat} {i c c' d:Nat} (hl:o.length=i) (h:hv o+hv (y.take i)=hv (x.take i)+H ^ i * c) (hd:d+dX y i+c=dX x i+65536 * c'):hv (o++[d])+hv (y.take (i+1))=hv (x.take (i+1))+H ^ (i+1) * c':=by
 rw [aS5,hl,rU,rU,Nat.pow_succ,Nat.mul_assoc]
 have e:H ^ i * (d+dX y i+c)=H ^ i * (dX x i+65536 * c'):=by rw [hd]
 rw [Nat.mul_add,Nat.mul_add,Nat.mul_add] at e
 show _=_+H ^ i * (65536 * c')
 omega
theorem aXA {o x y L c:Nat} (ho:o<L) (hle:y≤x) (h:o+y=x+L * c):o=x - y:=by
 rcases Nat.eq_zero_or_pos c with rfl | hc
 ·rw [Nat.mul_zero] at h;omega
 have:L * 1≤L * c:=Nat.mul_le_mul_left _ hc
 omega
theorem aWC {b:List Nat} {L:Nat} (h:hv b<H ^ L):hv (b.take L)=hv b:=by
 have e:=aFU b L
 rcases Nat.eq_zero_or_pos (hv (b.drop L)) with h0 | h0
 ·rw [h0,Nat.mul_zero] at e;omega
 have:H ^ L * 1≤H ^ L * hv (b.drop L):=Nat.mul_le_mul_left _ h0
 omega
theorem bKi {a b:Nat} (h:(qB a).length<(qB b).length):a<b:=by
 rcases Nat.lt_or_ge a b with h1 | h1
 ·exact h1
 have:=Le.2 (Nat.lt_of_le_of_lt h1 (Le.1 (Nat.le_refl (qB a).length)))
 omega
theorem bGq {a b o:List Nat} {i c c' n d:Nat} (hl:o.length=i) (h:hv o+n * hv (b.take i)=hv (a.take i)+H ^ i * c) (hd:d+n * dX b i+c=dX a i+65536 * c'):hv (o++[d])+n * hv (b.take (i+1))=hv (a.take (i+1))+H ^ (i+1) * c':=by
 rw [aS5,hl,rU,rU,Nat.pow_succ,Nat.mul_assoc,Nat.mul_add]
 have e:H ^ i * (d+n * dX b i+c)=H ^ i * (dX a i+65536 * c'):=by rw [hd]
 rw [Nat.mul_add,Nat.mul_add,Nat.mul_add] at e
 have e2:n * (H ^ i * dX b i)=H ^ i * (n * dX b i):=by rw [← Nat.mul_assoc,Nat.mul_comm n,Nat.mul_assoc]
 show _=_+H ^ i * (65536 * c')
 omega
theorem bJ2 {a b o:List Nat} {n c:Nat} (oka:Vz a) (oko:Vz o) (hl:o.length=a.length) (hle:n * hv b≤hv a) (h:hv o+n * hv (b.take a.length)=hv (a.take a.length)+H ^ a.length * c):hv o=hv a - n * hv b:=by
 rw [E9 (Nat.le_refl _)] at h
 have ho:=aT2 oko
 rw [hl] at ho
 have e:n * hv (b.take a.length)=n * hv b:=by
  rcases Nat.eq_zero_or_pos n with rfl | hn
  ·rw [Nat.zero_mul,Nat.zero_mul]
  rw [aWC]
  have:1 * hv b≤n * hv b:=Nat.mul_le_mul_right _ hn
  have:=aT2 oka
  omega
 rw [e] at h
 exact aXA ho hle h
theorem aM1 {l:List Nat} {i j n:Nat} (hj:j<l.length):dX (l.set j n) i=if i=j then n else dX l i:=by
 simp only [dX,List.getD_eq_getElem?_getD,List.getElem?_set]
 by_cases h:j=i
 ·subst h;simp [hj]
 rw [if_neg h,if_neg (fun e=>h e.symm)]
theorem bAn {l:List Nat} {i x:Nat} (h:i<l.length):(l.set i x).take (i+1)=l.take i++[x]:=by
 rw [List.take_set,List.set_eq_take_append_cons_drop,if_pos (by rw [List.length_take];omega),List.take_take,Nat.min_eq_left (by omega),List.drop_eq_nil_of_le (by rw [List.length_take];omega)]
theorem aWh {l:List Nat} {i x:Nat} (ok:Vz l) (h:x<65536):Vz (l.set i x):=fun y hy=>by
 rcases List.mem_or_eq_of_mem_set hy with hy | rfl
 ·exact ok y hy
 exact h
theorem aZ3 (n:Nat):Vz (List.replicate n 0):=fun y hy=>by rw [(List.mem_replicate.1 hy).2];decide
theorem bPB (n:Nat):hv (List.replicate n 0)=0:=by
 induction n with
 | zero=>rfl
 | succ n ih=>rw [List.replicate_succ,hv,ih,Nat.mul_zero]
theorem bEu (n j:Nat):dX (List.replicate n 0) j=0:=by
 simp only [dX,List.getD_eq_getElem?_getD,List.getElem?_replicate]
 split<;>rfl
structure Mr (x:Nat) (b o0 o:List Nat) (i k c:Nat):Prop where
 len:o.length=o0.length
 ok:Vz o
 same:∀ j,i+k≤j→dX o j=dX o0 j
 cl:c<65536
 val:hv (o.take (i+k))+H ^ (i+k) * c=hv (o0.take (i+k))+H ^ i * (x * hv (b.take k))
 kc:b.length<k→c=0∧k=b.length+1
theorem Mr.init {x i:Nat} {b o:List Nat} (ok:Vz o):Mr x b o o i 0 0:=⟨rfl,ok,fun _ _=>rfl,by decide,by simp [hv],fun h=>absurd h (Nat.not_lt_zero _)⟩
theorem bDv {x i k c n:Nat} {b o0 o:List Nat} (h:Mr x b o0 o i k c) (hi:i+k<o.length) (hn:n=dX o (i+k)+c+x * dX b k):hv ((o.set (i+k) (n % 65536)).take (i+(k+1)))+H ^ (i+(k+1)) * (n / 65536)=hv (o0.take (i+(k+1)))+H ^ i * (x * hv (b.take (k+1))):=by
 have hs:=h.same (i+k) (Nat.le_refl _)
 have hv0:=h.val
 rw [← Nat.add_assoc,bAn hi,aS5,List.length_take,Nat.min_eq_left (by omega),rU,rU,← hs]
 have e:n=n % 65536+65536 * (n / 65536):=by omega
 have e2:H ^ (i+k) * n=H ^ (i+k) * (n % 65536)+H ^ (i+k+1) * (n / 65536):=by
  conv=>lhs;rw [e,Nat.mul_add,← Nat.mul_assoc]
  rw [Nat.pow_succ]
 rw [hn,Nat.mul_add,Nat.mul_add,← hn] at e2
 have e3:H ^ i * (x * (hv (b.take k)+H ^ k * dX b k))=H ^ i * (x * hv (b.take k))+H ^ (i+k) * (x * dX b k):=by
  rw [Nat.mul_add,Nat.mul_add,Nat.pow_add,Nat.mul_assoc,Nat.mul_left_comm x]
 rw [e3]
 omega
theorem Mr.step {x i k c n:Nat} {b o0 o:List Nat} (h:Mr x b o0 o i k c) (okb:Vz b) (hx:x<65536) (hi:i+k<o.length) (hn:n=dX o (i+k)+c+x * dX b k) (hk:k<b.length):Mr x b o0 (o.set (i+k) (n % 65536)) i (k+1) (n / 65536):=by
 refine ⟨by rw [List.length_set];exact h.len,aWh h.ok (Nat.mod_lt _ (by decide)),fun j hj=>?_,?_,bDv h hi hn,fun hk2=>absurd hk2 (by omega)⟩
 ·rw [aM1 hi,if_neg (by omega)];exact h.same j (by omega)
 have h1:=aVk h.ok (i+k)
 have h2:x * dX b k≤65535 * 65535:=Nat.mul_le_mul (by omega) (by have:dX b k<65536:=aVk okb k;omega)
 have h3:=h.cl
 have h1':dX o (i+k)<65536:=h1
 omega
theorem Mr.last {x i k c n:Nat} {b o0 o:List Nat} (h:Mr x b o0 o i k c) (hi:i+k<o.length) (hz:∀ j,i+b.length≤j→dX o0 j=0) (hn:n=dX o (i+k)+c) (hk:¬ k<b.length) (hc:0<c):Mr x b o0 (o.set (i+k) (n % 65536)) i (k+1) (n / 65536)∧k=b.length:=by
 have hkb:k=b.length:=by
  rcases Nat.lt_or_ge b.length k with h1 | h1
  ·have:=(h.kc h1).1;omega
  omega
 have h0:dX o (i+k)=0:=by rw [h.same _ (Nat.le_refl _)];exact hz _ (by omega)
 have hc2:=h.cl
 have hb0:dX b k=0:=K5 (by omega)
 refine ⟨⟨by rw [List.length_set];exact h.len,aWh h.ok (Nat.mod_lt _ (by decide)),fun j hj=>?_,by omega,bDv h hi (by rw [hn,hb0,Nat.mul_zero,Nat.add_zero]),fun _=>⟨by omega,by omega⟩⟩,hkb⟩
 rw [aM1 hi,if_neg (by omega)];exact h.same j (by omega)
structure Mt (a b o:List Nat) (i:Nat):Prop where
 ok:Vz o
 z:∀ j,i+b.length≤j→dX o j=0
 val:hv o=hv (a.take i) * hv b
theorem Mt.init {a b:List Nat} (n:Nat):Mt a b (List.replicate n 0) 0:=⟨aZ3 n,fun j _=>bEu n j,by rw [bPB,List.take_zero,hv,Nat.zero_mul]⟩
theorem Mt.next {a b o0 o:List Nat} {i k:Nat} (h0:Mt a b o0 i) (h:Mr (dX a i) b o0 o i k 0) (hk:¬ k<b.length):Mt a b o (i+1):=by
 refine ⟨h.ok,fun j hj=>?_,?_⟩
 ·have hk2:k≤b.length+1:=by
   rcases Nat.lt_or_ge b.length k with h1 | h1
   ·have:=(h.kc h1).2;omega
   omega
  rw [h.same j (by omega)];exact h0.z j (by omega)
 have hv1:=h.val
 rw [Nat.mul_zero,Nat.add_zero,E9 (l:=b) (by omega)] at hv1
 rw [aFU o (i+k),aSE h.same,hv1,rU,Nat.add_mul,← h0.val,aFU o0 (i+k),Nat.mul_assoc]
 omega
theorem bCb {A B lo hi:Nat} (h1:lo * B≤A) (h2:A<hi * B) (h3:¬ 1<hi - lo):A / B=lo:=by
 have hlt:lo<hi:=by
  rcases Nat.lt_or_ge lo hi with h | h
  ·exact h
  have:=Nat.mul_le_mul_right B h;omega
 have e:hi=lo+1:=by omega
 subst e
 exact Nat.div_eq_of_lt_le h1 h2
theorem bLy {x r B:Nat} (hx:x<65536) (hr:r<B):x+65536 * r<65536 * B:=by
 have:65536 * (r+1)≤65536 * B:=Nat.mul_le_mul_left _ hr
 omega
theorem aTy {l:List Nat} {i:Nat} (h0:0<i) (hi:i≤l.length):hv (l.drop (i - 1))=dX l (i - 1)+H * hv (l.drop i):=by
 obtain ⟨k,rfl⟩:∃ k,i=k+1:=⟨i - 1,by omega⟩
 rw [Nat.add_sub_cancel,List.drop_eq_getElem_cons (by omega),hv]
 simp [dX,List.getD_eq_getElem?_getD,List.getElem?_eq_getElem (show k<l.length by omega)]
theorem bAQ {l:List Nat} {i q:Nat} (h0:0<i) (hi:i≤l.length):hv ((l.set (i - 1) q).drop (i - 1))=q+H * hv (l.drop i):=by
 rw [aTy h0 (by rw [List.length_set];exact hi),aM1 (by omega),if_pos rfl,List.drop_set_of_lt (by omega)]
theorem aYP {a o:List Nat} {i r B x:Nat} (h0:0<i) (hi:i≤a.length) (hio:i≤o.length) (h:hv (a.drop i)=hv (o.drop i) * B+r) (hx:x=dX a (i - 1)+65536 * r):hv (a.drop (i - 1))=hv ((o.set (i - 1) (x / B)).drop (i - 1)) * B+x % B:=by
 rw [aTy h0 hi,bAQ h0 hio,h,Nat.add_mul,Nat.mul_assoc]
 have:=Nat.div_add_mod' x B
 show dX a (i - 1)+65536 * (hv (o.drop i) * B+r)=x / B * B+65536 * (hv (o.drop i) * B)+x % B
 omega
theorem bBg {a o B r:Nat} (hr:r<B) (h:a=o * B+r):a / B=o∧a % B=r:=by
 rw [h,Nat.add_comm,Nat.add_mul_div_right _ _ (by omega),Nat.div_eq_of_lt hr,Nat.add_mul_mod_self_right,Nat.mod_eq_of_lt hr]
 exact ⟨by omega,rfl⟩
end Go.Num
namespace Go.Proofs.YtcnpoojdochapaaGreatDoor
open Go.CE Go.RowKit Go.Num
open Go.Eng (oH)
theorem bES {call:jO} {B:sY} {fs:Sf} {l:List I} {Q:Sf→Prop} {d:Nat} {x y:Go.Eng.Od} {k:IntKind} {a b:Nat} (hx:fs.ev x=.c (.v (.int k (a:Nat)))) (hy:fs.ev y=.c (.v (.int k (b:Nat)))) (hw:FL call B l (fs.put d (.c (.v (.int k ((max a b:Nat):Int))))) Q):FL call B (⟨some d,none,.mx false x y⟩::l) fs Q:=bDC hx hy (by simp only;split<;>omega) hw
theorem V9 {l:List UInt32}:(qB (val l)).length≤2 * l.length:=by rw [← aE5,← aVh];exact Q3 (aV9 l)
theorem aLW {a b:Nat} (h:a≤b):(qB a).length≤(qB b).length:=Le.2 (Nat.lt_of_le_of_lt h (Le.1 (Nat.le_refl _)))
theorem aLP {n m i:Nat} (he:∀ j,i≤j→dX (qB n) j=dX (qB m) j) (h0:0<i) (hd:((dX (qB n) (i - 1):Nat):Int)<(dX (qB m) (i - 1):Nat)):n<m:=by
 have:=bLm (yU n) (i:=i - 1) (fun j hj=>he j (by omega)) (by omega)
 rwa [yP,yP] at this
theorem aUP {x y:List Nat} {i:Nat} (h0:0<i) (he:∀ j,i≤j→dX x j=dX y j) (h1:¬ ((dX x (i - 1):Nat):Int)<(dX y (i - 1):Nat)) (h2:¬ ((dX y (i - 1):Nat):Int)<(dX x (i - 1):Nat)):∀ j,i - 1≤j→dX x j=dX y j:=fun j hj=>by
 by_cases h:j=i - 1
 ·subst h;omega
 exact he j (by omega)
theorem aZJ {n m:Nat} (h:∀ j,dX (qB n) j=dX (qB m) j):n=m:=by
 have:=bEC h
 rwa [yP,yP] at this
theorem aMb (a:Nat):pR .rem (.int .i64 (a:Nat)) (.int .i64 65536)=some (.int .i64 ((a % 65536:Nat):Int)):=aTV (by omega) (by omega) (by omega)
theorem aF5 {a:Nat} (h:a<9223372036854775808):pR .quo (.int .i64 (a:Nat)) (.int .i64 65536)=some (.int .i64 ((a / 65536:Nat):Int)):=aTp (by omega) (by omega) (wI (by omega) (by omega))
theorem bNg {x:Int} {n:Nat} (h:x=n):Value.int .i64 x=eN n:=by rw [h]
theorem aV8 {k:Nat} (hk:3≤k) {z:dE} {v:AV} {l:List UInt32} (hx:SZ 1 RW z v l) (hl:l.length≤1000000000):FC (E k) 207 [v] z fun v' z'=>SZ 1 RW (zd z z') v' (toL (val l)):=by
 have hh:=V9 (l:=l)
 refine cX (bBS) (by omega) (aU O) fun B j hj=>?_
 refine R4 24 O ?_
 refine lZ z (zB (by omega) hx (by omega)) O O fun v4 z4 hz4 hr4=>?_
 refine lZ z4 (aAN (by omega) (yU _) (hr4.mono gU) (by omega)) O O fun v5 z5 _ hs5=>?_
 rw [yP] at hs5
 have hs5:=hs5.mono (zA (hz4))
 refine R0 3 O (xT ?_)
 exact rI O hs5
theorem bKY {k:Nat} (hk:1≤k) {z:dE} {v:AV} {l:List Nat} (hx:SZ 1 RN z v l) {i:Nat} {y:Int} (hy:y=(i:Int)):FC (E k) 242 [v,Ai y] z fun w _=>w=Az (dX l i):=by
 subst hy
 exact Nn hk hx
theorem aFm {k:Nat} (hk:3≤k) {z:dE} {u v:AV} {a b:List UInt32} (hx:SZ 1 RW z u a) (hy:SZ 1 RW z v b) (hla:a.length≤1000000000) (hlb:b.length≤1000000000):FC (E k) 226 [u,v] z fun v _=>v=Ai (Nv (val a) (val b)):=by
 have hh1:=V9 (l:=a)
 have hh2:=V9 (l:=b)
 refine cX (bB5) (by omega) (aU O) fun B j hj=>?_
 refine R4 24 O ?_
 refine lZ z (zB (by omega) hx (by omega)) O O fun v9 z9 hz9 hr9=>?_
 refine lM O ?_
 refine lZ z9 (zB (by omega) hy.m (by omega)) O O fun v11 z11 _ hr11=>?_
 have hr11:=hr11.mono (zA (hz9))
 refine R2 51 O (aS O hr9 (lM O (aS O (hr11.mono gU) (bES O O (lB O O (zH (r:=((max (qB (val a)).length (qB (val b)).length:Nat):Int) - 1) (wR (by omega))) (R0 2 O ?_))))))
 refine aT (aQ ?_)
 refine eA (fun n fs=>∃ (i:Nat),LI z11 [] [(5,v9),(6,v11),(7,Ai ((i:Int) - 1))] fs∧n=i∧(i≤2000000000)∧(∀ j,i≤j→dX (qB (val a)) j=dX (qB (val b)) j)) ?_ _ ⟨max (qB (val a)).length (qB (val b)).length,LI.m [] O,rfl,by omega,fun j hj=>by rw [K5 (by omega),K5 (by omega)]⟩ (kK (by omega))
 intro n fs ⟨i,hL0,hmz0,hi,he⟩
 refine hL0.open fun e zl0 _=>?_
 refine R5 32 O ?_
 refine xD O (fun hc19=>?_) (fun hc19=>?_)
 ·refine dA ?_
  refine aT (aQ ?_)
  refine R4 20 O ?_
  refine lE zl0 (bKY (by omega) hr9.m (i:=i - 1) (by omega)) O O fun z24 _=>?_
  refine R1 5 O ?_
  refine lE z24 (bKY (by omega) hr11.m (i:=i - 1) (by omega)) O O fun z27 _=>?_
  refine R3 4 O ?_
  refine xD O (fun hc28=>?_) (fun hc28=>?_)
  ·refine R5 8 O (mN (lS (B8 (lS (rI O ?_)))))
   rw [Nv,if_pos (aLP he (by omega) hc28)]
   rfl
  refine R4 20 O ?_
  refine lE z27 (bKY (by omega) hr9.m (i:=i - 1) (by omega)) O O fun z31 _=>?_
  refine R1 5 O ?_
  refine lE z31 (bKY (by omega) hr11.m (i:=i - 1) (by omega)) O O fun z34 _=>?_
  refine R0 2 O ?_
  refine xD O (fun hc35=>?_) (fun hc35=>?_)
  ·refine R5 4 O (xT (lS (B8 (lS (rI O ?_)))))
   have hlt:=aLP (fun j hj=>(he j hj).symm) (by omega) hc35
   rw [Nv,if_neg (by omega),if_pos hlt]
   rfl
  refine iF (dN (xG (lC O ?_)))
  refine lB O O (zH (r:=((i - 1:Nat):Int) - 1) (by rw [wR ⟨by omega,by omega⟩];omega)) ?_
  refine R0 2 O ?_
  exact lQ (by omega) ⟨i - 1,LI.m [] O,rfl,by omega,aUP (by omega) he hc28 hc35⟩
 refine dK (nQ (dN (R5 4 O (xT (rI O ?_)))))
 rw [aZJ (fun j=>he j (by omega)),Nv,if_neg (by omega),if_neg (by omega)]
 rfl
theorem aXg {k:Nat} (hk:3≤k) {z:dE} {u v:AV} {a b:List UInt32} (hx:SZ 1 RW z u a) (hy:SZ 1 RW z v b) (hla:a.length≤1000000000) (hlb:b.length≤1000000000):FC (E k) 224 [u,v] z fun v' z'=>SZ 1 RW (zd z z') v' (toL (val a+val b)):=by
 have hh1:=V9 (l:=a)
 have hh2:=V9 (l:=b)
 refine cX (bBx) (by omega) (aU O) fun B j hj=>?_
 refine R4 24 O ?_
 refine lZ z (zB (by omega) hx (by omega)) O O fun v12 z12 hz12 hr12=>?_
 refine lM O ?_
 refine lZ z12 (zB (by omega) hy.m (by omega)) O O fun v14 z14 hz14 hr14=>?_
 have hr14:=hr14.mono (zA (hz12))
 refine R2 35 O (wM 3 1 (R3 16 O ?_))
 refine aT (aQ ?_)
 refine eA (fun n fs=>∃ (i:Nat) (o:List Nat) (u:AV) (cy:Nat),LI z14 [It eN u 3 o] [(5,v12),(6,v14),(7,u),(8,Az cy),(9,Az i)] fs∧n=2 * (max (qB (val a)).length (qB (val b)).length - i)+cy∧(i≤max (qB (val a)).length (qB (val b)).length+1)∧(max (qB (val a)).length (qB (val b)).length<i→cy=0)∧(o.length=i)∧(Vz o)∧(cy≤1)∧(hv o+H ^ i * cy=hv ((qB (val a)).take i)+hv ((qB (val b)).take i))) ?_ _ ⟨0,[],C4,0,LI.m [] O,rfl,by omega,fun h=>absurd h (by omega),rfl,aS2,by omega,by simp [Num.hv]⟩ (kK (by omega))
 intro n fs ⟨i,o,u,cy,hL0,hmz0,hi,hz,hol,oko,hcy,hv⟩
 refine hL0.open fun e zl0 hzl0=>?_
 refine R4 24 O (aS O hr12 (lM O (aS O hr14 (bES O O (R1 4 O ?_)))))
 refine iW 22 O (fun hg22=>?_) (fun hg22=>?_)
 ·refine R3 64 O ?_
  refine aT (aQ ?_)
  refine xR ?_
  have h8:=qY (yU (val a)) i
  have h9:=qY (yU (val b)) i
  refine R1 5 O ?_
  refine lE zl0 (Nn (by omega) hr12.m) O O fun z30 hz30=>?_
  refine R1 5 O ?_
  refine lE z30 (Nn (by omega) hr14.m) O O fun z33 hz33=>?_
  refine lB O O (eP (n:=dX (qB (val a)) i+dX (qB (val b)) i) (by omega) (by omega)) (lC O (lB O O (eP (n:=(dX (qB (val a)) i+dX (qB (val b)) i+cy)) (by omega) (by omega)) (R2 20 O (lB O O ((aMb _)) ?_))))
  refine aC4 (e:=eN) (a:=((dX (qB (val a)) i+dX (qB (val b)) i+cy) % 65536)) O (O) O (fun _=>rfl) (fun _=>iP) (by omega) (by omega) fun b40 c41 hc41=>?_
  refine R0 2 O (xG (lC O (lB O O ((aF5 (by omega))) (R0 2 O (dN (xG (lC O (lB O O (eP (n:=i+1) (by omega) (by omega)) (R0 2 O ?_)))))))))
  exact lQ (by omega) ⟨i+1,_,_,(dX (qB (val a)) i+dX (qB (val b)) i+cy) / 65536,LI.m [_] O,rfl,by omega,fun h=>by omega,by rw [List.length_append,hol];rfl,aBL oko (Nat.mod_lt _ (by decide)),by omega,aUO hol hv rfl⟩
 refine R3 16 O ?_
 refine xD O (fun hc25=>?_) (fun hc25=>?_)
 ·refine dA ?_
  refine aT (aQ ?_)
  refine xR ?_
  have h8:=qY (yU (val a)) i
  have h9:=qY (yU (val b)) i
  have h10:=K5 (l:=(qB (val a))) (i:=i) (by omega)
  have h11:=K5 (l:=(qB (val b))) (i:=i) (by omega)
  refine R1 5 O ?_
  refine lE zl0 (Nn (by omega) hr12.m) O O fun z30 hz30=>?_
  refine R1 5 O ?_
  refine lE z30 (Nn (by omega) hr14.m) O O fun z33 hz33=>?_
  refine lB O O (eP (n:=dX (qB (val a)) i+dX (qB (val b)) i) (by omega) (by omega)) (lC O (lB O O (eP (n:=(dX (qB (val a)) i+dX (qB (val b)) i+cy)) (by omega) (by omega)) (R2 20 O (lB O O ((aMb _)) ?_))))
  refine aC4 (e:=eN) (a:=((dX (qB (val a)) i+dX (qB (val b)) i+cy) % 65536)) O (O) O (fun _=>rfl) (fun _=>iP) (by omega) (by omega) fun b40 c41 hc41=>?_
  refine R0 2 O (xG (lC O (lB O O ((aF5 (by omega))) (R0 2 O (dN (xG (lC O (lB O O (eP (n:=i+1) (by omega) (by omega)) (R0 2 O ?_)))))))))
  exact lQ (by omega) ⟨i+1,_,_,(dX (qB (val a)) i+dX (qB (val b)) i+cy) / 65536,LI.m [_] O,rfl,by omega,fun h=>by omega,by rw [List.length_append,hol];rfl,aBL oko (Nat.mod_lt _ (by decide)),by omega,aUO hol hv rfl⟩
 refine dK (nQ (dN (xR ?_)))
 refine Fq z zl0 (p:=[]) O O zI (by omega) fun zfo hzfo hfo=>?_
 refine lM O ?_
 refine lZ zfo (aAN (by omega) oko (hfo.mono gU) (by omega)) O O fun v45 z45 _ hs45=>?_
 have hs45:=hs45.mono (zA (hz12.trans (hz14.trans (hzl0.trans hzfo))))
 refine R0 3 O (xT (rI O ?_))
 rw [show cy=0 by omega,Nat.mul_zero,Nat.add_zero,E9 (by omega),E9 (by omega),yP,yP] at hv
 have hq:=hs45
 rwa [hv] at hq
theorem aSK {k:Nat} (hk:4≤k) {z:dE} {u v:AV} {a b:List UInt32} (hx:SZ 1 RW z u a) (hy:SZ 1 RW z v b) (hla:a.length≤1000000000) (hlb:b.length≤1000000000):FC (E k) 225 [u,v] z fun v z'=>(val a<val b→v=.tup [C4,Ai 2])∧(val b≤val a→∃ v',v=.tup [v',Ai 0]∧SZ 1 RW (zd z z') v' (toL (val a - val b))):=by
 have hh1:=V9 (l:=a)
 have hh2:=V9 (l:=b)
 refine cX (bAt) (by omega) (aU O) fun B j hj=>?_
 refine R4 224 O ?_
 refine lE z (aFm (by omega) hx hy hla hlb) O O fun z14 hz14=>?_
 refine R3 4 O ?_
 refine xD O (fun hc15=>?_) (fun hc15=>?_)
 ·refine R5 16 O (mN (rQ (.inl O) (rt O (rt O rn)) ?_))
  rw [aAl] at hc15
  exact ⟨fun _=>rfl,fun h=>absurd h (by omega)⟩
 refine R4 12 O ?_
 refine lZ z14 (zB (by omega) hx.m (by omega)) O O fun v17 z17 hz17 hr17=>?_
 have hr17:=hr17.mono (zA (hz14))
 refine lM O ?_
 refine lZ z17 (zB (by omega) hy.m (by omega)) O O fun v19 z19 hz19 hr19=>?_
 have hr19:=hr19.mono (zA (hz14.trans hz17))
 refine R2 35 O (wM 3 1 (R3 16 O ?_))
 refine aT (aQ ?_)
 refine eA (fun n fs=>∃ (i:Nat) (o:List Nat) (u:AV) (bw:Nat),LI z19 [It eN u 3 o] [(6,v17),(7,v19),(8,u),(9,Az bw),(10,Az i)] fs∧n=(qB (val a)).length - i∧(i≤(qB (val a)).length)∧(o.length=i)∧(Vz o)∧(bw≤1)∧(hv o+hv ((qB (val b)).take i)=hv ((qB (val a)).take i)+H ^ i * bw)) ?_ _ ⟨0,[],C4,0,LI.m [] O,rfl,by omega,rfl,aS2,by omega,by simp [Num.hv]⟩ (kK (by omega))
 intro n fs ⟨i,o,u,bw,hL0,hmz0,hi,hol,oko,hbw,hv⟩
 refine hL0.open fun e zl0 hzl0=>?_
 refine R4 24 O (aS O hr17 (R3 4 O ?_))
 refine xD O (fun hc23=>?_) (fun hc23=>?_)
 ·refine dA ?_
  refine aT (aQ ?_)
  refine gX ?_
  have h8:=qY (yU (val a)) i
  have h9:=qY (yU (val b)) i
  refine G1 5 O (gP O O F ?_)
  refine wC (zz:=zl0) O O hr17.m (i) (O) (by omega) fun p28 hp28=>lN ?_
  refine glP O O hp28 ti (G1 5 O ?_)
  refine gE zl0 (Nn (by omega) hr19.m) O O O O fun z32 _=>?_
  refine gP O O F ?_
  refine lB O O (zH (r:=(dX (qB (val a)) i:Int) - (dX (qB (val b)) i:Int)) (wR (by omega))) (lN ?_)
  refine G1 2 O (gP O O F ?_)
  refine lB O O (zH (r:=(dX (qB (val a)) i:Int) - (dX (qB (val b)) i:Int) - (bw:Int)) (wR (by omega))) (lN ?_)
  refine G0 2 O (R5 128 O ?_)
  refine xD O (fun hc37=>?_) (fun hc37=>?_)
  ·refine R4 8 O (lB O O (eP (n:=dX (qB (val a)) i+65536 - dX (qB (val b)) i - bw) (by omega) (by omega)) (R3 8 O (xG (R1 5 O ?_))))
   refine aC4 (e:=eN) (a:=(dX (qB (val a)) i+65536 - dX (qB (val b)) i - bw)) O (O) O (fun _=>rfl) (fun _=>iP) (by omega) (by omega) fun b42 c43 hc43=>?_
   refine R0 2 O (dN (xG (lC O (lB O O (eP (n:=i+1) (by omega) (by omega)) (R0 2 O ?_)))))
   exact lQ (by omega) ⟨i+1,_,_,1,LI.m [_] O,rfl,by omega,by rw [List.length_append,hol];rfl,aBL oko (by omega),by omega,aUT hol hv (by omega)⟩
  refine dA (xG (R1 5 O ?_))
  refine aC4 (e:=eN) (a:=(dX (qB (val a)) i - dX (qB (val b)) i - bw)) O (bNg (by omega)) O (fun _=>rfl) (fun _=>iP) (by omega) (by omega) fun b42 c43 hc43=>?_
  refine R0 2 O (dN (xG (lC O (lB O O (eP (n:=i+1) (by omega) (by omega)) (R0 2 O ?_)))))
  exact lQ (by omega) ⟨i+1,_,_,0,LI.m [_] O,rfl,by omega,by rw [List.length_append,hol];rfl,aBL oko (by omega),by omega,aUT hol hv (by omega)⟩
 refine dK (nQ (dN (xR ?_)))
 refine Fq z zl0 (p:=[]) O O zI (by omega) fun zfo hzfo hfo=>?_
 refine lM O ?_
 refine lZ zfo (aAN (by omega) oko (hfo.mono gU) (by omega)) O O fun v45 z45 _ hs45=>?_
 have hs45:=hs45.mono (zA (hz14.trans (hz17.trans (hz19.trans (hzl0.trans hzfo)))))
 refine R0 5 O (xT (rQ (.inl O) (rt O (rt O rn)) ?_))
 rw [aAl] at hc15
 refine ⟨fun h=>absurd h hc15,fun _=>⟨_,rfl,?_⟩⟩
 have hq:=hs45
 have ho:=aT2 oko
 have hn:(qB (val b)).length≤(qB (val a)).length:=aLW (by omega)
 rw [hol] at ho
 rw [E9 (by omega),E9 (by omega),yP,yP] at hv
 rwa [aXA ho (by omega) hv] at hq
end Go.Proofs.YtcnpoojdochapaaGreatDoor
