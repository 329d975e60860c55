/- The reference's digits, walked. -/
import Derived.WalkKit
import Derived.Orders
import Derived.Test.YtlceligcgelbdaaGreatMD1
set_option linter.unusedVariables false
set_option linter.unusedSimpArgs false
set_option maxRecDepth 100000
set_option maxHeartbeats 1000000
namespace Go.Proofs.YtlceligcgelbdaaGreat
open Go.CE Go.RowKit Go.Num
open Go.Eng (mR)
theorem Hh {l:List Nat} {i:Nat} (h:l.length≤i):gI l i=0:=by
 simp [gI,List.getD_eq_getElem?_getD,List.getElem?_eq_none h]
theorem aTy {l:List Nat} {m i:Nat} (h:i<m):gI (l.take m) i=gI l i:=by
 simp [gI,List.getD_eq_getElem?_getD,List.getElem?_take,h]
theorem aVb {l:List Nat} (h:L8 l) (m:Nat):L8 (l.take m):=fun x hx=>h x (List.mem_of_mem_take hx)
theorem aNq {l:List Nat} {m:Nat} (h0:0<m) (hm:m≤l.length) (h:gI (l.take m) (m - 1)=0):hv (l.take (m - 1))=hv (l.take m):=by
 obtain ⟨k,rfl⟩:∃ k,m=k+1:=⟨m - 1,by omega⟩
 rw [Nat.add_sub_cancel] at h ⊢
 rw [aTy (by omega)] at h
 rw [sH,h]
 simp
theorem aXb {l:List Nat} (h:l.length=0∨gI l (l.length - 1)≠0):aE2 l:=by
 by_cases hl:l=[]
 ·exact .inl hl
 have hp:0<l.length:=List.length_pos_iff.2 hl
 rcases h with h | h
 ·omega
 refine .inr ⟨l.dropLast,l.getLast hl,(List.dropLast_concat_getLast hl).symm,fun e=>h ?_⟩
 rw [gI,List.getD_eq_getElem?_getD,List.getElem?_eq_getElem (by omega),Option.getD_some,← List.getLast_eq_getElem hl,e]
theorem Xm {l:List Nat} {m:Nat} (ok:L8 l) (hm:m≤l.length) (hq:hv (l.take m)=hv l) (h:m=0∨gI (l.take m) (m - 1)≠0):l.take m=pS (hv l):=by
 rw [← hq,bNS (aVb ok m)]
 apply aXb
 rcases h with rfl | h
 ·exact .inl (by simp)
 rw [nS hm];exact .inr h
theorem Ja {k:Nat} (hk:1≤k) {z:fR} {v:AV} {l:List Nat} {i:Nat} (hx:SZ 1 RN z v l):FC (E k) 270 [v,Az i] z fun w _=>w=Az (gI l i):=by
 refine iI (bBA) (by omega) (dN O) fun B j hj=>?_
 refine R4 96 O (cX O hx (R3 4 O ?_))
 refine xD O (fun hc8=>?_) (fun hc8=>?_)
 ·refine R4 20 O ?_
  refine yR O O hx (i) (O) (by omega) fun p11 hp11=>?_
  refine wF O hp11 (R0 2 O (mC (rI O ?_)))
  rfl
 refine R5 8 O (xT (rI O ?_))
 rw [Hh (by omega)]
 rfl
theorem aK2 {k:Nat} (hk:1≤k) {z:fR} {v:AV} {l:List Nat} (ok:L8 l) (hx:SZ 1 RN z v l):FC (E k) 299 [v] z fun v' _=>∀ zz,SZ 1 RN zz v l→SZ 1 RN zz v' (pS (hv l)):=by
 have hxl:=hx.le
 refine iI (bBG) (by omega) (dN O) fun B j hj=>?_
 refine R5 4 O ?_
 refine dE (bQ ?_)
 refine eT (fun n fs=>∃ (v':AV) (m:Nat),LI z [] [(0,v')] fs∧n=m∧(m≤l.length)∧(hv (l.take m)=hv l)∧(∀ zz,SZ 1 RN zz v l→SZ 1 RN zz v' (l.take m))) ?_ _ ⟨v,l.length,LI.m [] O,rfl,Nat.le_refl _,by rw [List.take_length],fun zz h=>by rw [List.take_length];exact h⟩ (kK (by omega))
 intro n fs ⟨v',m,hL0,hmz0,hm,hq,ht⟩
 refine hL0.open fun e zl0 hzl0=>?_
 refine R4 12 O (Lq O (ht _ (hx.mono (hzl0))) (nS hm) (R1 4 O ?_))
 refine iO 6 O (fun hg6=>?_) (fun hg6=>?_)
 ·refine R1 7 O (lD O (Lq O (ht _ (hx.mono (hzl0))) (nS hm) (lD O (lB O O (wC (n:=m - 1) (by omega) (by omega)) (lD O ?_)))))
  refine yR O O (ht _ (hx.mono (hzl0))) (m - 1) (O) (by rw [nS hm];omega) fun p11 hp11=>?_
  refine lD O (wF O hp11 (R3 8 O ?_))
  refine xD O (fun hc14=>?_) (fun hc14=>?_)
  ·refine dX (bQ (xG (R1 7 O (Lq O (ht _ (hx.mono (hzl0))) (nS hm) (lB O O (wC (n:=m - 1) (by omega) (by omega)) ?_)))))
   refine aM5 (i:=0) (j:=m - 1) O (ht _ (hx.mono (hzl0))) O ⟨_,O⟩ (by omega) (by rw [nS hm];omega) ?_
   refine R0 3 O ?_
   exact nN (by omega) ⟨aT8 v' 0 (m - 1),m - 1,LI.m [] O,rfl,by omega,(aNq (by omega) hm (by omega)).trans hq,fun zz h=>by have:=(ht zz h).sub (i:=0) (j:=m - 1) (by omega) (by rw [nS hm];omega);rwa [List.drop_zero,List.take_take,Nat.min_eq_left (by omega)] at this⟩
  refine eE (oC (iE (R5 14 O (xT (rI O ?_)))))
  intro zz h
  rw [← Xm ok hm hq (.inr (by omega))]
  exact ht zz h
 refine R3 1024 O (eE (oC (iE (R5 14 O (xT (rI O ?_))))))
 intro zz h
 rw [← Xm ok hm hq (.inl (by omega))]
 exact ht zz h
end Go.Proofs.YtlceligcgelbdaaGreat
namespace Go.Num
def He:List Nat→List UInt32
 | []=>[]
 | [a]=>[UInt32.ofNat a]
 | a::b::r=>UInt32.ofNat (a+65536 * b)::He r
theorem V4 {a:Nat} {l:List Nat} (h:L8 (a::l)):L8 l:=fun x hx=>h x (List.mem_cons_of_mem _ hx)
theorem Tz {a:Nat} {l:List Nat} (h:L8 (a::l)):a<65536:=h a (List.mem_cons_self ..)
theorem aS7:∀ {l:List Nat},L8 l→val (He l)=hv l
 | [],_=>rfl
 | [a],ok=>by
  have ha:=Tz ok
  show (UInt32.ofNat a).toNat+W * 0=a+H * 0
  rw [ofNat_toNat (by show a<4294967296;omega)]
  rfl
 | a::b::r,ok=>by
  have ha:=Tz ok
  have hb:=Tz (V4 ok)
  show (UInt32.ofNat (a+65536 * b)).toNat+W * val (He r)=a+H * (b+H * hv r)
  rw [ofNat_toNat (by show _<4294967296;omega),aS7 (V4 (V4 ok))]
  show a+65536 * b+4294967296 * hv r=a+65536 * (b+65536 * hv r)
  omega
theorem Me:∀ (l:List Nat),(He l).length=(l.length+1) / 2
 | []=>rfl
 | [a]=>by simp [He]
 | a::b::r=>by
  simp only [He,List.length_cons,Me r]
  omega
theorem aDB:∀ {l:List Nat} (j:Nat),L8 l→nF (He l) j=gI l (2 * j)+65536 * gI l (2 * j+1)
 | [],j,_=>by simp [He,nF,gI]
 | [a],0,ok=>by
  have ha:=Tz ok
  show (UInt32.ofNat a).toNat=a+65536 * 0
  rw [ofNat_toNat (by show a<4294967296;omega)]
  rfl
 | [a],j+1,ok=>by simp [He,nF,gI]
 | a::b::r,0,ok=>by
  have ha:=Tz ok
  have hb:=Tz (V4 ok)
  show (UInt32.ofNat (a+65536 * b)).toNat=a+65536 * b
  rw [ofNat_toNat (by show _<4294967296;omega)]
 | a::b::r,j+1,ok=>aDB (l:=r) j (V4 (V4 ok))
theorem bH9 {l:List Nat} (h:aE2 l) (hl:0<l.length):gI l (l.length - 1)≠0:=by
 rcases h with rfl | ⟨r,x,rfl,hx⟩
 ·simp at hl
 intro e
 rw [gI,List.getD_eq_getElem?_getD] at e
 simp at e
 exact hx e
theorem Jc (n:Nat):He (pS n)=toL n:=by
  have ok:=yJ n
  have hc:=aTw n
  have e:val (He (pS n))=n:=by rw [aS7 ok,xP]
  conv=>rhs;rw [← e]
  apply bGB
  apply aTb
  rcases Nat.eq_zero_or_pos (pS n).length with h | h
  · left;rw [List.eq_nil_of_length_eq_zero h];rfl
  · right
    rw [aDB _ ok,Me]
    have ht:=bH9 hc h
    rcases Nat.mod_two_eq_zero_or_one (pS n).length with hm | hm
    · rw [show 2 * (((pS n).length + 1) / 2 - 1) + 1 = (pS n).length - 1 by omega]
      omega
    · rw [show 2 * (((pS n).length + 1) / 2 - 1) = (pS n).length - 1 by omega]
      omega
end Go.Num
namespace Go.Proofs.YtlceligcgelbdaaGreat
open Go.CE Go.RowKit Go.Num
open Go.Eng (mR)
theorem rC {l:List Nat} (ok:L8 l) (i:Nat):gI l i<65536:=aUm ok i
theorem aU9 {x:Nat} (h:x<65536):pC .mul (.int .u32 65536) (.int .u32 (x:Nat))=some (.int .u32 ((65536 * x:Nat):Int)):=by
 rw [bMj,bQN ⟨by omega,by omega⟩,Int.natCast_mul]
 rfl
theorem aV7 {x y:Nat} (h:x<65536) (h2:y<65536):pC .add (.int .u32 (x:Nat)) (.int .u32 ((65536 * y:Nat):Int))=some (.int .u32 ((x+65536 * y:Nat):Int)):=bIp (by omega) (by omega)
theorem aXq {c:List Nat} {i:Nat} {o:List UInt32} (ok:L8 c) (h:o=(He c).take i) (hi:i<(He c).length):o++[UInt32.ofNat (gI c (2 * i)+65536 * gI c (2 * i+1))]=(He c).take (i+1):=by
 rw [h,List.take_add_one,List.getElem?_eq_getElem hi,← aDB i ok]
 simp [nF,List.getD_eq_getElem?_getD,List.getElem?_eq_getElem hi]
theorem Pz {k:Nat} (hk:2≤k) {z:fR} {v:AV} {l:List Nat} (ok:L8 l) (hx:SZ 1 RN z v l) (hl:l.length≤10000000000):FC (E k) 271 [v] z fun v' z'=>SZ 1 RW (zd z z') v' (toL (hv l)):=by
 have okc:=yJ (hv l)
 have hcl:(pS (hv l)).length≤l.length:=Gp.2 (aSP ok)
 have hpl:=Me (pS (hv l))
 have hol:(toL (hv l)).length=((pS (hv l)).length+1) / 2:=by rw [← Jc,Me]
 refine iI (bCW) (by omega) (dN O) fun B j hj=>?_
 refine R4 96 O ?_
 refine lZ z (aK2 (by omega) ok hx) O O fun v7 z7 hz7 ht7=>?_
 have hs7:=ht7 _ (hx.mono (hz7))
 refine R2 9 O (uE 117 1 (R0 2 O ?_))
 refine dE (bQ ?_)
 refine eT (fun n fs=>∃ (i:Nat) (o:List UInt32) (u:AV),LI z7 [Ds eW u 117 o] [(0,v7),(3,u),(4,Az (2 * i))] fs∧n=(He (pS (hv l))).length - i∧(i≤(He (pS (hv l))).length)∧(o=(He (pS (hv l))).take i)) ?_ _ ⟨0,[],qY,LI.m [] O,rfl,Nat.zero_le _,rfl⟩ (kK (by omega))
 intro n fs ⟨i,o,u,hL0,hmz0,hi,ho⟩
 refine hL0.open fun e zl0 _=>?_
 refine R4 24 O (cX O hs7 (R3 4 O ?_))
 refine xD O (fun hc11=>?_) (fun hc11=>?_)
 ·refine dX ?_
  refine dE (bQ ?_)
  refine R4 32 O (lB O O (iW (n:=2 * i+1) (by omega) (by omega)) (lM O (cX O hs7 (R0 2 O ?_))))
  refine Ik (fun fs=>LI zl0 [Ds eW u 117 o] [(0,v7),(3,u),(4,Az (2 * i)),(5,Az (gI (pS (hv l)) (2 * i+1)))] fs) ?_ fun fs hJ=>?_
  ·refine xD O (fun hc18=>?_) (fun hc18=>?_)
   ·refine xG (R1 5 O (lB O O (iW (n:=2 * i+1) (by omega) (by omega)) ?_))
    refine yR (zz:=zl0) O O hs7.m (2 * i+1) (O) (by omega) fun p22 hp22=>?_
    refine wF O hp22 (R0 2 O ?_)
    exact iE (LI.m [] O)
   refine mQ ?_
   rw [show gI (pS (hv l)) (2 * i+1)=0 from Hh (by omega)]
   exact iE (LI.m [] O)
  have hJ18:=hJ
  refine hJ18.open fun e zj18 _=>?_
  refine xG (R1 11 O ?_)
  refine yR (zz:=zj18) O O hs7.m (2 * i) (O) (by omega) fun p27 hp27=>?_
  refine wF O hp27 ?_
  refine nE O (wD (O) (by have:=rC okc (2 * i);omega)) ?_
  refine lC O ?_
  refine nE O (wD (O) (by have:=rC okc (2 * i+1);omega)) ?_
  refine lB O O ((aU9 (rC okc (2 * i+1)))) (lB O O ((aV7 (rC okc (2 * i)) (rC okc (2 * i+1)))) ?_)
  have hoi:o.length=i:=by rw [ho];exact nS hi
  refine Zv (e:=eW) (a:=(UInt32.ofNat (gI (pS (hv l)) (2 * i)+65536 * gI (pS (hv l)) (2 * i+1)))) O (by have h8:=rC okc (2 * i);have h9:=rC okc (2 * i+1);rw [eW,Go.Num.ofNat_toNat (by show _<4294967296;omega)]) O (fun _=>rfl) (fun _=>lR) (by omega) (by omega) fun b34 c35 hc35=>?_
  refine R0 2 O (iE (xG (lC O (lB O O (iW (n:=2 * (i+1)) (by omega) (by omega)) (uE 117 1 (R0 2 O ?_))))))
  exact nN (by omega) ⟨i+1,_,_,LI.m [_,_] O,rfl,by omega,aXq okc ho (by omega)⟩
 refine eE (oC (iE (R4 6 O ?_)))
 obtain rfl:o=toL (hv l):=by rw [ho,List.take_of_length_le (by omega),Jc]
 refine Bw z zl0 (p:=[]) O O zI (by omega) fun zfo _ hfo=>?_
 refine R0 3 O (xT ?_)
 exact rI O hfo
open Go.CE Go.RowKit Go.Num
open Go.Eng (mR Od)
theorem bMm (l:List UInt32) (i:Nat):nF l i / 65536<9223372036854775808:=by
 have:nF l i<4294967296:=qG l i
 omega
theorem aWk {a:Nat} (h:a<4294967296):pC .rem (.int .u32 (a:Nat)) (.int .u32 65536)=some (.int .u32 ((a % 65536:Nat):Int)):=aPb (by omega) (by omega) (by omega)
theorem aV4 {a:Nat} (h:a<4294967296):pC .quo (.int .u32 (a:Nat)) (.int .u32 65536)=some (.int .u32 ((a / 65536:Nat):Int)):=aSG (by omega) (by omega) (wD (by omega) (by omega))
theorem aB3 (l:List UInt32):(aAB l).length=2 * l.length:=by
 induction l with
 | nil=>rfl
 | cons x l ih=>simp only [aAB,List.length_cons,ih];omega
theorem bHt (a b:List UInt32):aAB (a++b)=aAB a++aAB b:=by
 induction a with
 | nil=>rfl
 | cons x a ih=>simp [aAB,ih]
theorem aTj {l:List UInt32} {i:Nat} {o:List Nat} (h:o=aAB (l.take i)) (hi:i<l.length):o++[nF l i % 65536,nF l i / 65536]=aAB (l.take (i+1)):=by
 rw [h,List.take_add_one,List.getElem?_eq_getElem hi,bHt]
 simp [aAB,nF,List.getD_eq_getElem?_getD,List.getElem?_eq_getElem hi]
theorem aVu {call:iJ} {B:rR} {fs:Sf} {l:List I} {Q:Sf→Prop} {d:Nat} {α:Type} {e:α→Value} {ty ty' bytes b:Nat} {zero:List Value} {x y:Od} {u:AV} {r s:List α} {H':AV→List HA} (hx:fs.ev x=u) (hy:fs.ev y=Aw b s.length) (hm:HA.blk b (.cells ty' (cE e s))∈fs.H) (hr:∀ u',By fs.H (Ds e u ty r) (Ds e u' ty (r++s)) (H' u')) (hb:(r.length+s.length) * bytes≤140737488355328) (hn:r.length+s.length≤9223372036854775807)
  (hw:∀ c':C,pG c' c'=true→FL call B l (fs.res d (.c c') fs.z (H' (.c c'))) Q):FL call B (⟨some d,none,.app ty 1 bytes zero x y⟩::l) fs Q:=
 rA (n:=r.length) (cs:=cE e r) (news:=cE e s) hx hy hm (by rw [aBx,Nat.mul_one]) (fun u'=>by have h:=hr u';simp only [Ds,List.length_append,← aUF] at h;exact h) hb hn hw
theorem yI {k:Nat} (hk:2≤k) {z:fR} {v:AV} {l:List UInt32} (hx:SZ 1 RW z v l) (hl:l.length≤10000000000):FC (E k) 269 [v] z fun v' z'=>SZ 1 RN (zd z z') v' (pS (val l)):=by
 refine iI (bCb) (by omega) (dN O) fun B j hj=>?_
 refine R4 64 O (uE 3 1 (R0 2 O ?_))
 refine dE (bQ ?_)
 refine eT (fun n fs=>∃ (i:Nat) (o:List Nat) (u:AV),LI z [Ds eN u 3 o] [(0,v),(3,u),(4,Az i)] fs∧n=l.length - i∧(i≤l.length)∧(o=aAB (l.take i))) ?_ _ ⟨0,[],qY,LI.m [] O,rfl,Nat.zero_le _,rfl⟩ (kK (by omega))
 intro n fs ⟨i,o,u,hL0,hmz0,hi,ho⟩
 refine hL0.open fun e zl0 _=>?_
 refine R4 24 O (cX O hx (R3 4 O ?_))
 refine xD O (fun hc8=>?_) (fun hc8=>?_)
 ·refine dX ?_
  refine dE (bQ ?_)
  refine Ak ?_
  have hoi:o.length=2 * i:=by rw [ho,aB3,nS hi]
  refine G1 11 O (gP O O F ?_)
  refine qO (zz:=zl0) O O hx.m (i) (O) (by omega) fun p14 hp14=>lN ?_
  refine glP O O hp14 ti (gP O O F ?_)
  refine lB O O ((aWk (qG l i))) (lN ?_)
  refine gP O O F ?_
  refine nE O (wI (O) (by omega)) (lN ?_)
  refine G1 5 O (gP O O F ?_)
  refine qO (zz:=zl0) O O hx.m (i) (O) (by omega) fun p20 hp20=>lN ?_
  refine glP O O hp20 ti (gP O O F ?_)
  refine lB O O ((aV4 (qG l i))) (lN ?_)
  refine gP O O F ?_
  refine nE O (wI (O) (bMm l i)) (lN ?_)
  refine xM (k:=.cells 3 (cE eN [nF l i % 65536,nF l i / 65536])) (w:=fun b=>Aw b 2) rfl F rfl (fun _=>rfl) (fun st hst=>?_) (fun b24 hT24=>?_)
  ·simp only [eP,yB,AS.ev,hst 17 (by simp [mK.sl,Od.sls,Od.sl]),hst 23 (by simp [mK.sl,Od.sls,Od.sl])];rfl
  refine D5 (i:=⟨_,_,.app _ _ _ _ _ _⟩) O F O O O O ?_
  refine aVu (e:=eN) (s:=[nF l i % 65536,nF l i / 65536]) O O mem0 (fun _=>oH lR) (by simp only [List.length_cons,List.length_nil];omega) (by simp only [List.length_cons,List.length_nil];omega) fun c25 hc25=>?_
  refine lN (G0 2 O (iE (xG (lC O (lB O O (iW (n:=i+1) (by omega) (by omega)) (uE 3 1 (R0 2 O ?_)))))))
  exact nN (by omega) ⟨i+1,_,_,LI.m [_,_] O,rfl,by omega,aTj ho (by omega)⟩
 refine eE (oC (iE (xR ?_)))
 obtain rfl:o=aAB l:=by rw [ho,List.take_of_length_le (by omega)]
 have hhl:=aB3 l
 refine Bw z zl0 (p:=[]) O O zI (by omega) fun zfo _ hfo=>?_
 refine lM O ?_
 refine lZ zfo (aK2 (by omega) (aUp l) (hfo.mono kY)) O O fun v27 z27 hz27 ht27=>?_
 refine R0 3 O (xT (rI O ?_))
 have hr:=ht27 _ (hfo.mono (nJ (hz27)))
 rwa [aUd] at hr
end Go.Proofs.YtlceligcgelbdaaGreat
namespace Go.Num
open Go.Proofs.YtlceligcgelbdaaGreat
theorem aAU (l:List Nat) (i:Nat):hv l=hv (l.take i)+H ^ i * hv (l.drop i):=by
 rcases Nat.le_total i l.length with h | h
 ·conv=>lhs;rw [← List.take_append_drop i l,V9,List.length_take,Nat.min_eq_left h]
 rw [List.take_of_length_le h,List.drop_eq_nil_of_le h];simp [hv]
theorem aTf (l:List Nat) (i j:Nat):gI (l.drop i) j=gI l (i+j):=by
 simp [gI,List.getD_eq_getElem?_getD]
theorem aZr {y:List Nat} (h:∀ j,gI y j=0):hv y=0:=by
 induction y with
 | nil=>rfl
 | cons a r ih =>
  have h0:a=0:=h 0
  have h1:=ih fun j=>h (j+1)
  simp only [hv,h0,h1,Nat.mul_zero]
theorem bEW {x y:List Nat} (h:∀ j,gI x j=gI y j):hv x=hv y:=by
 induction x generalizing y with
 | nil=>exact (aZr fun j=>(h j).symm).symm
 | cons a r ih =>
  cases y with
  | nil=>exact aZr h
  | cons b s =>
   have h0:a=b:=h 0
   have h1:=ih fun j=>h (j+1)
   simp only [hv,h0,h1]
theorem aKQ {x y:List Nat} {i:Nat} (h:∀ j,i≤j→gI x j=gI y j):hv (x.drop i)=hv (y.drop i):=bEW fun j=>by
 rw [aTf,aTf];exact h _ (by omega)
theorem bH2 {l:List Nat} (ok:L8 l) (i:Nat):hv (l.take i)<H ^ i:=by
 refine Nat.lt_of_lt_of_le (aSP (aVb ok i)) (Nat.pow_le_pow_right (by decide) ?_)
 rw [List.length_take];omega
theorem B8 {l:List Nat} {m:Nat} (h:l.length≤m):hv (l.take m)=hv l:=by rw [List.take_of_length_le h]
theorem bK3 {x y:List Nat} (ok:L8 x) {i:Nat} (he:∀ j,i+1≤j→gI x j=gI y j) (hd:gI x i<gI y i):hv x<hv y:=by
 have e:=aKQ he
 have h1:=bH2 ok i
 rw [aAU x (i+1),aAU y (i+1),e,sH,sH]
 have h2:H ^ i * (gI x i+1)≤H ^ i * gI y i:=Nat.mul_le_mul_left _ hd
 rw [Nat.mul_add,Nat.mul_one] at h2
 omega
theorem Ud {o:List Nat} {x:Nat} (ok:L8 o) (h:x<65536):L8 (o++[x]):=fun y hy=>by
 rcases List.mem_append.1 hy with hy | hy
 ·exact ok y hy
 rw [List.mem_singleton.1 hy];exact h
theorem aMS:L8 []:=fun y hy=>absurd hy List.not_mem_nil
theorem I0 {l:List Nat}:L8 l→(pS (hv l)).length≤l.length:=fun ok=>Gp.2 (aSP ok)
theorem aTg {x y o:List Nat} {i c n:Nat} (hl:o.length=i) (h:hv o+H ^ i * c=hv (x.take i)+hv (y.take i)) (hn:n=gI x i+gI y i+c):hv (o++[n % 65536])+H ^ (i+1) * (n / 65536)=hv (x.take (i+1))+hv (y.take (i+1)):=by
 rw [aMA,hl,sH,sH]
 have e:n=n % 65536+65536 * (n / 65536):=by omega
 have e2:H ^ i * n=H ^ i * (n % 65536)+H ^ (i+1) * (n / 65536):=by
  conv=>lhs;rw [e,Nat.mul_add,← Nat.mul_assoc]
  rw [Nat.pow_succ]
 rw [hn,Nat.mul_add,Nat.mul_add,← hn] at e2
 omega
theorem aTT {x y o:List Nat} {i c c' d:Nat} (hl:o.length=i) (h:hv o+hv (y.take i)=hv (x.take i)+H ^ i * c) (hd:d+gI y i+c=gI x i+65536 * c'):hv (o++[d])+hv (y.take (i+1))=hv (x.take (i+1))+H ^ (i+1) * c':=by
 rw [aMA,hl,sH,sH,Nat.pow_succ,Nat.mul_assoc]
 have e:H ^ i * (d+gI y i+c)=H ^ i * (gI x i+65536 * c'):=by rw [hd]
 rw [Nat.mul_add,Nat.mul_add,Nat.mul_add] at e
 show _=_+H ^ i * (65536 * c')
 omega
theorem aWs {o x y L c:Nat} (ho:o<L) (hle:y≤x) (h:o+y=x+L * c):o=x - y:=by
 rcases Nat.eq_zero_or_pos c with rfl | hc
 ·rw [Nat.mul_zero] at h;omega
 have:L * 1≤L * c:=Nat.mul_le_mul_left _ hc
 omega
theorem aVH {b:List Nat} {L:Nat} (h:hv b<H ^ L):hv (b.take L)=hv b:=by
 have e:=aAU b L
 rcases Nat.eq_zero_or_pos (hv (b.drop L)) with h0 | h0
 ·rw [h0,Nat.mul_zero] at e;omega
 have:H ^ L * 1≤H ^ L * hv (b.drop L):=Nat.mul_le_mul_left _ h0
 omega
theorem bKs {a b:Nat} (h:(pS a).length<(pS b).length):a<b:=by
 rcases Nat.lt_or_ge a b with h1 | h1
 ·exact h1
 have:=Gp.2 (Nat.lt_of_le_of_lt h1 (Gp.1 (Nat.le_refl (pS a).length)))
 omega
theorem bH0 {a b o:List Nat} {i c c' n d:Nat} (hl:o.length=i) (h:hv o+n * hv (b.take i)=hv (a.take i)+H ^ i * c) (hd:d+n * gI b i+c=gI a i+65536 * c'):hv (o++[d])+n * hv (b.take (i+1))=hv (a.take (i+1))+H ^ (i+1) * c':=by
 rw [aMA,hl,sH,sH,Nat.pow_succ,Nat.mul_assoc,Nat.mul_add]
 have e:H ^ i * (d+n * gI b i+c)=H ^ i * (gI a i+65536 * c'):=by rw [hd]
 rw [Nat.mul_add,Nat.mul_add,Nat.mul_add] at e
 have e2:n * (H ^ i * gI b i)=H ^ i * (n * gI b i):=by rw [← Nat.mul_assoc,Nat.mul_comm n,Nat.mul_assoc]
 show _=_+H ^ i * (65536 * c')
 omega
theorem bJy {a b o:List Nat} {n c:Nat} (oka:L8 a) (oko:L8 o) (hl:o.length=a.length) (hle:n * hv b≤hv a) (h:hv o+n * hv (b.take a.length)=hv (a.take a.length)+H ^ a.length * c):hv o=hv a - n * hv b:=by
 rw [B8 (Nat.le_refl _)] at h
 have ho:=aSP oko
 rw [hl] at ho
 have e:n * hv (b.take a.length)=n * hv b:=by
  rcases Nat.eq_zero_or_pos n with rfl | hn
  ·rw [Nat.zero_mul,Nat.zero_mul]
  rw [aVH]
  have:1 * hv b≤n * hv b:=Nat.mul_le_mul_right _ hn
  have:=aSP oka
  omega
 rw [e] at h
 exact aWs ho hle h
theorem aFP {l:List Nat} {i j n:Nat} (hj:j<l.length):gI (l.set j n) i=if i=j then n else gI l i:=by
 simp only [gI,List.getD_eq_getElem?_getD,List.getElem?_set]
 by_cases h:j=i
 ·subst h;simp [hj]
 rw [if_neg h,if_neg (fun e=>h e.symm)]
theorem bCl {l:List Nat} {i x:Nat} (h:i<l.length):(l.set i x).take (i+1)=l.take i++[x]:=by
 rw [List.take_set,List.set_eq_take_append_cons_drop,if_pos (by rw [List.length_take];omega),List.take_take,Nat.min_eq_left (by omega),List.drop_eq_nil_of_le (by rw [List.length_take];omega)]
theorem aUn {l:List Nat} {i x:Nat} (ok:L8 l) (h:x<65536):L8 (l.set i x):=fun y hy=>by
 rcases List.mem_or_eq_of_mem_set hy with hy | rfl
 ·exact ok y hy
 exact h
theorem aZ1 (n:Nat):L8 (List.replicate n 0):=fun y hy=>by rw [(List.mem_replicate.1 hy).2];decide
theorem bOP (n:Nat):hv (List.replicate n 0)=0:=by
 induction n with
 | zero=>rfl
 | succ n ih=>rw [List.replicate_succ,hv,ih,Nat.mul_zero]
theorem bEl (n j:Nat):gI (List.replicate n 0) j=0:=by
 simp only [gI,List.getD_eq_getElem?_getD,List.getElem?_replicate]
 split<;>rfl
structure Mr (x:Nat) (b o0 o:List Nat) (i k c:Nat):Prop where
 len:o.length=o0.length
 ok:L8 o
 same:∀ j,i+k≤j→gI o j=gI o0 j
 cl:c<65536
 val:hv (o.take (i+k))+H ^ (i+k) * c=hv (o0.take (i+k))+H ^ i * (x * hv (b.take k))
 kc:b.length<k→c=0∧k=b.length+1
theorem Mr.init {x i:Nat} {b o:List Nat} (ok:L8 o):Mr x b o o i 0 0:=⟨rfl,ok,fun _ _=>rfl,by decide,by simp [hv],fun h=>absurd h (Nat.not_lt_zero _)⟩
theorem bFY {x i k c n:Nat} {b o0 o:List Nat} (h:Mr x b o0 o i k c) (hi:i+k<o.length) (hn:n=gI o (i+k)+c+x * gI b k):hv ((o.set (i+k) (n % 65536)).take (i+(k+1)))+H ^ (i+(k+1)) * (n / 65536)=hv (o0.take (i+(k+1)))+H ^ i * (x * hv (b.take (k+1))):=by
 have hs:=h.same (i+k) (Nat.le_refl _)
 have hv0:=h.val
 rw [← Nat.add_assoc,bCl hi,aMA,List.length_take,Nat.min_eq_left (by omega),sH,sH,← hs]
 have e:n=n % 65536+65536 * (n / 65536):=by omega
 have e2:H ^ (i+k) * n=H ^ (i+k) * (n % 65536)+H ^ (i+k+1) * (n / 65536):=by
  conv=>lhs;rw [e,Nat.mul_add,← Nat.mul_assoc]
  rw [Nat.pow_succ]
 rw [hn,Nat.mul_add,Nat.mul_add,← hn] at e2
 have e3:H ^ i * (x * (hv (b.take k)+H ^ k * gI b k))=H ^ i * (x * hv (b.take k))+H ^ (i+k) * (x * gI b k):=by
  rw [Nat.mul_add,Nat.mul_add,Nat.pow_add,Nat.mul_assoc,Nat.mul_left_comm x]
 rw [e3]
 omega
theorem Mr.step {x i k c n:Nat} {b o0 o:List Nat} (h:Mr x b o0 o i k c) (okb:L8 b) (hx:x<65536) (hi:i+k<o.length) (hn:n=gI o (i+k)+c+x * gI b k) (hk:k<b.length):Mr x b o0 (o.set (i+k) (n % 65536)) i (k+1) (n / 65536):=by
 refine ⟨by rw [List.length_set];exact h.len,aUn h.ok (Nat.mod_lt _ (by decide)),fun j hj=>?_,?_,bFY h hi hn,fun hk2=>absurd hk2 (by omega)⟩
 ·rw [aFP hi,if_neg (by omega)];exact h.same j (by omega)
 have h1:=aUm h.ok (i+k)
 have h2:x * gI b k≤65535 * 65535:=Nat.mul_le_mul (by omega) (by have:gI b k<65536:=aUm okb k;omega)
 have h3:=h.cl
 have h1':gI o (i+k)<65536:=h1
 omega
theorem Mr.last {x i k c n:Nat} {b o0 o:List Nat} (h:Mr x b o0 o i k c) (hi:i+k<o.length) (hz:∀ j,i+b.length≤j→gI o0 j=0) (hn:n=gI o (i+k)+c) (hk:¬ k<b.length) (hc:0<c):Mr x b o0 (o.set (i+k) (n % 65536)) i (k+1) (n / 65536)∧k=b.length:=by
 have hkb:k=b.length:=by
  rcases Nat.lt_or_ge b.length k with h1 | h1
  ·have:=(h.kc h1).1;omega
  omega
 have h0:gI o (i+k)=0:=by rw [h.same _ (Nat.le_refl _)];exact hz _ (by omega)
 have hc2:=h.cl
 have hb0:gI b k=0:=Hh (by omega)
 refine ⟨⟨by rw [List.length_set];exact h.len,aUn h.ok (Nat.mod_lt _ (by decide)),fun j hj=>?_,by omega,bFY h hi (by rw [hn,hb0,Nat.mul_zero,Nat.add_zero]),fun _=>⟨by omega,by omega⟩⟩,hkb⟩
 rw [aFP hi,if_neg (by omega)];exact h.same j (by omega)
structure Mt (a b o:List Nat) (i:Nat):Prop where
 ok:L8 o
 z:∀ j,i+b.length≤j→gI o j=0
 val:hv o=hv (a.take i) * hv b
theorem Mt.init {a b:List Nat} (n:Nat):Mt a b (List.replicate n 0) 0:=⟨aZ1 n,fun j _=>bEl n j,by rw [bOP,List.take_zero,hv,Nat.zero_mul]⟩
theorem Mt.next {a b o0 o:List Nat} {i k:Nat} (h0:Mt a b o0 i) (h:Mr (gI a i) b o0 o i k 0) (hk:¬ k<b.length):Mt a b o (i+1):=by
 refine ⟨h.ok,fun j hj=>?_,?_⟩
 ·have hk2:k≤b.length+1:=by
   rcases Nat.lt_or_ge b.length k with h1 | h1
   ·have:=(h.kc h1).2;omega
   omega
  rw [h.same j (by omega)];exact h0.z j (by omega)
 have hv1:=h.val
 rw [Nat.mul_zero,Nat.add_zero,B8 (l:=b) (by omega)] at hv1
 rw [aAU o (i+k),aKQ h.same,hv1,sH,Nat.add_mul,← h0.val,aAU o0 (i+k),Nat.mul_assoc]
 omega
theorem bBD {A B lo hi:Nat} (h1:lo * B≤A) (h2:A<hi * B) (h3:¬ 1<hi - lo):A / B=lo:=by
 have hlt:lo<hi:=by
  rcases Nat.lt_or_ge lo hi with h | h
  ·exact h
  have:=Nat.mul_le_mul_right B h;omega
 have e:hi=lo+1:=by omega
 subst e
 exact Nat.div_eq_of_lt_le h1 h2
theorem bKX {x r B:Nat} (hx:x<65536) (hr:r<B):x+65536 * r<65536 * B:=by
 have:65536 * (r+1)≤65536 * B:=Nat.mul_le_mul_left _ hr
 omega
theorem aSB {l:List Nat} {i:Nat} (h0:0<i) (hi:i≤l.length):hv (l.drop (i - 1))=gI l (i - 1)+H * hv (l.drop i):=by
 obtain ⟨k,rfl⟩:∃ k,i=k+1:=⟨i - 1,by omega⟩
 rw [Nat.add_sub_cancel,List.drop_eq_getElem_cons (by omega),hv]
 simp [gI,List.getD_eq_getElem?_getD,List.getElem?_eq_getElem (show k<l.length by omega)]
theorem bDC {l:List Nat} {i q:Nat} (h0:0<i) (hi:i≤l.length):hv ((l.set (i - 1) q).drop (i - 1))=q+H * hv (l.drop i):=by
 rw [aSB h0 (by rw [List.length_set];exact hi),aFP (by omega),if_pos rfl,List.drop_set_of_lt (by omega)]
theorem aXu {a o:List Nat} {i r B x:Nat} (h0:0<i) (hi:i≤a.length) (hio:i≤o.length) (h:hv (a.drop i)=hv (o.drop i) * B+r) (hx:x=gI a (i - 1)+65536 * r):hv (a.drop (i - 1))=hv ((o.set (i - 1) (x / B)).drop (i - 1)) * B+x % B:=by
 rw [aSB h0 hi,bDC h0 hio,h,Nat.add_mul,Nat.mul_assoc]
 have:=Nat.div_add_mod' x B
 show gI a (i - 1)+65536 * (hv (o.drop i) * B+r)=x / B * B+65536 * (hv (o.drop i) * B)+x % B
 omega
theorem bCi {a o B r:Nat} (hr:r<B) (h:a=o * B+r):a / B=o∧a % B=r:=by
 rw [h,Nat.add_comm,Nat.add_mul_div_right _ _ (by omega),Nat.div_eq_of_lt hr,Nat.add_mul_mod_self_right,Nat.mod_eq_of_lt hr]
 exact ⟨by omega,rfl⟩
end Go.Num
namespace Go.Proofs.YtlceligcgelbdaaGreat
open Go.CE Go.RowKit Go.Num
open Go.Eng (mR)
theorem bHR {call:iJ} {B:rR} {fs:Sf} {l:List I} {Q:Sf→Prop} {d:Nat} {x y:Go.Eng.Od} {k:IntKind} {a b:Nat} (hx:fs.ev x=.c (.v (.int k (a:Nat)))) (hy:fs.ev y=.c (.v (.int k (b:Nat)))) (hw:FL call B l (fs.put d (.c (.v (.int k ((max a b:Nat):Int))))) Q):FL call B (⟨some d,none,.mx false x y⟩::l) fs Q:=bIi hx hy (by simp only;split<;>omega) hw
theorem Np {l:List UInt32}:(pS (val l)).length≤2 * l.length:=by rw [← aB3,← aUd];exact I0 (aUp l)
theorem aFs {a b:Nat} (h:a≤b):(pS a).length≤(pS b).length:=Gp.2 (Nat.lt_of_le_of_lt h (Gp.1 (Nat.le_refl _)))
theorem aFF {n m i:Nat} (he:∀ j,i≤j→gI (pS n) j=gI (pS m) j) (h0:0<i) (hd:((gI (pS n) (i - 1):Nat):Int)<(gI (pS m) (i - 1):Nat)):n<m:=by
 have:=bK3 (yJ n) (i:=i - 1) (fun j hj=>he j (by omega)) (by omega)
 rwa [xP,xP] at this
theorem aTO {x y:List Nat} {i:Nat} (h0:0<i) (he:∀ j,i≤j→gI x j=gI y j) (h1:¬ ((gI x (i - 1):Nat):Int)<(gI y (i - 1):Nat)) (h2:¬ ((gI y (i - 1):Nat):Int)<(gI x (i - 1):Nat)):∀ j,i - 1≤j→gI x j=gI y j:=fun j hj=>by
 by_cases h:j=i - 1
 ·subst h;omega
 exact he j (by omega)
theorem bAh {n m:Nat} (h:∀ j,gI (pS n) j=gI (pS m) j):n=m:=by
 have:=bEW h
 rwa [xP,xP] at this
theorem aGA (a:Nat):pC .rem (.int .i64 (a:Nat)) (.int .i64 65536)=some (.int .i64 ((a % 65536:Nat):Int)):=aPb (by omega) (by omega) (by omega)
theorem aBk {a:Nat} (h:a<9223372036854775808):pC .quo (.int .i64 (a:Nat)) (.int .i64 65536)=some (.int .i64 ((a / 65536:Nat):Int)):=aSG (by omega) (by omega) (wI (by omega) (by omega))
theorem bNz {x:Int} {n:Nat} (h:x=n):Value.int .i64 x=eN n:=by rw [h]
theorem aUj {k:Nat} (hk:3≤k) {z:fR} {v:AV} {l:List UInt32} (hx:SZ 1 RW z v l) (hl:l.length≤1000000000):FC (E k) 265 [v] z fun v' z'=>SZ 1 RW (zd z z') v' (toL (val l)):=by
 have hh:=Np (l:=l)
 refine iI (bB0) (by omega) (dN O) fun B j hj=>?_
 refine R4 24 O ?_
 refine lZ z (yI (by omega) hx (by omega)) O O fun v4 z4 hz4 hr4=>?_
 refine lZ z4 (Pz (by omega) (yJ _) (hr4.mono kY) (by omega)) O O fun v5 z5 _ hs5=>?_
 rw [xP] at hs5
 have hs5:=hs5.mono (vS (hz4))
 refine R0 3 O (xT ?_)
 exact rI O hs5
theorem bJ0 {k:Nat} (hk:1≤k) {z:fR} {v:AV} {l:List Nat} (hx:SZ 1 RN z v l) {i:Nat} {y:Int} (hy:y=(i:Int)):FC (E k) 270 [v,Ai y] z fun w _=>w=Az (gI l i):=by
 subst hy
 exact Ja hk hx
theorem aBJ {k:Nat} (hk:3≤k) {z:fR} {u v:AV} {a b:List UInt32} (hx:SZ 1 RW z u a) (hy:SZ 1 RW z v b) (hla:a.length≤1000000000) (hlb:b.length≤1000000000):FC (E k) 272 [u,v] z fun v _=>v=Ai (Jb (val a) (val b)):=by
 have hh1:=Np (l:=a)
 have hh2:=Np (l:=b)
 refine iI (bCx) (by omega) (dN O) fun B j hj=>?_
 refine R4 24 O ?_
 refine lZ z (yI (by omega) hx (by omega)) O O fun v9 z9 hz9 hr9=>?_
 refine lM O ?_
 refine lZ z9 (yI (by omega) hy.m (by omega)) O O fun v11 z11 _ hr11=>?_
 have hr11:=hr11.mono (vS (hz9))
 refine R2 51 O (cX O hr9 (lM O (cX O (hr11.mono kY) (bHR O O (lB O O (wN (r:=((max (pS (val a)).length (pS (val b)).length:Nat):Int) - 1) (vR (by omega))) (R0 2 O ?_))))))
 refine dE (bQ ?_)
 refine eT (fun n fs=>∃ (i:Nat),LI z11 [] [(5,v9),(6,v11),(7,Ai ((i:Int) - 1))] fs∧n=i∧(i≤2000000000)∧(∀ j,i≤j→gI (pS (val a)) j=gI (pS (val b)) j)) ?_ _ ⟨max (pS (val a)).length (pS (val b)).length,LI.m [] O,rfl,by omega,fun j hj=>by rw [Hh (by omega),Hh (by omega)]⟩ (kK (by omega))
 intro n fs ⟨i,hL0,hmz0,hi,he⟩
 refine hL0.open fun e zl0 _=>?_
 refine R5 32 O ?_
 refine xD O (fun hc19=>?_) (fun hc19=>?_)
 ·refine dX ?_
  refine dE (bQ ?_)
  refine R4 20 O ?_
  refine lE zl0 (bJ0 (by omega) hr9.m (i:=i - 1) (by omega)) O O fun z24 _=>?_
  refine R1 5 O ?_
  refine lE z24 (bJ0 (by omega) hr11.m (i:=i - 1) (by omega)) O O fun z27 _=>?_
  refine R3 4 O ?_
  refine xD O (fun hc28=>?_) (fun hc28=>?_)
  ·refine R5 8 O (mC (oD (Ou (oD (rI O ?_)))))
   rw [Jb,if_pos (aFF he (by omega) hc28)]
   rfl
  refine R4 20 O ?_
  refine lE z27 (bJ0 (by omega) hr9.m (i:=i - 1) (by omega)) O O fun z31 _=>?_
  refine R1 5 O ?_
  refine lE z31 (bJ0 (by omega) hr11.m (i:=i - 1) (by omega)) O O fun z34 _=>?_
  refine R0 2 O ?_
  refine xD O (fun hc35=>?_) (fun hc35=>?_)
  ·refine R5 4 O (xT (oD (Ou (oD (rI O ?_)))))
   have hlt:=aFF (fun j hj=>(he j hj).symm) (by omega) hc35
   rw [Jb,if_neg (by omega),if_pos hlt]
   rfl
  refine mQ (iE (xG (lC O ?_)))
  refine lB O O (wN (r:=((i - 1:Nat):Int) - 1) (by rw [vR ⟨by omega,by omega⟩];omega)) ?_
  refine R0 2 O ?_
  exact nN (by omega) ⟨i - 1,LI.m [] O,rfl,by omega,aTO (by omega) he hc28 hc35⟩
 refine eE (oC (iE (R5 4 O (xT (rI O ?_)))))
 rw [bAh (fun j=>he j (by omega)),Jb,if_neg (by omega),if_neg (by omega)]
 rfl
theorem aV9 {k:Nat} (hk:3≤k) {z:fR} {u v:AV} {a b:List UInt32} (hx:SZ 1 RW z u a) (hy:SZ 1 RW z v b) (hla:a.length≤1000000000) (hlb:b.length≤1000000000):FC (E k) 216 [u,v] z fun v' z'=>SZ 1 RW (zd z z') v' (toL (val a+val b)):=by
 have hh1:=Np (l:=a)
 have hh2:=Np (l:=b)
 refine iI (bDH) (by omega) (dN O) fun B j hj=>?_
 refine R4 24 O ?_
 refine lZ z (yI (by omega) hx (by omega)) O O fun v12 z12 hz12 hr12=>?_
 refine lM O ?_
 refine lZ z12 (yI (by omega) hy.m (by omega)) O O fun v14 z14 hz14 hr14=>?_
 have hr14:=hr14.mono (vS (hz12))
 refine R2 35 O (uE 3 1 (R3 16 O ?_))
 refine dE (bQ ?_)
 refine eT (fun n fs=>∃ (i:Nat) (o:List Nat) (u:AV) (cy:Nat),LI z14 [Ds eN u 3 o] [(5,v12),(6,v14),(7,u),(8,Az cy),(9,Az i)] fs∧n=2 * (max (pS (val a)).length (pS (val b)).length - i)+cy∧(i≤max (pS (val a)).length (pS (val b)).length+1)∧(max (pS (val a)).length (pS (val b)).length<i→cy=0)∧(o.length=i)∧(L8 o)∧(cy≤1)∧(hv o+H ^ i * cy=hv ((pS (val a)).take i)+hv ((pS (val b)).take i))) ?_ _ ⟨0,[],qY,0,LI.m [] O,rfl,by omega,fun h=>absurd h (by omega),rfl,aMS,by omega,by simp [Num.hv]⟩ (kK (by omega))
 intro n fs ⟨i,o,u,cy,hL0,hmz0,hi,hz,hol,oko,hcy,hv⟩
 refine hL0.open fun e zl0 hzl0=>?_
 refine R4 24 O (cX O hr12 (lM O (cX O hr14 (bHR O O (R1 4 O ?_)))))
 refine iO 22 O (fun hg22=>?_) (fun hg22=>?_)
 ·refine R3 64 O ?_
  refine dE (bQ ?_)
  refine xR ?_
  have h8:=rC (yJ (val a)) i
  have h9:=rC (yJ (val b)) i
  refine R1 5 O ?_
  refine lE zl0 (Ja (by omega) hr12.m) O O fun z30 hz30=>?_
  refine R1 5 O ?_
  refine lE z30 (Ja (by omega) hr14.m) O O fun z33 hz33=>?_
  refine lB O O (iW (n:=gI (pS (val a)) i+gI (pS (val b)) i) (by omega) (by omega)) (lC O (lB O O (iW (n:=(gI (pS (val a)) i+gI (pS (val b)) i+cy)) (by omega) (by omega)) (R2 20 O (lB O O ((aGA _)) ?_))))
  refine Zv (e:=eN) (a:=((gI (pS (val a)) i+gI (pS (val b)) i+cy) % 65536)) O (O) O (fun _=>rfl) (fun _=>lR) (by omega) (by omega) fun b40 c41 hc41=>?_
  refine R0 2 O (xG (lC O (lB O O ((aBk (by omega))) (R0 2 O (iE (xG (lC O (lB O O (iW (n:=i+1) (by omega) (by omega)) (R0 2 O ?_)))))))))
  exact nN (by omega) ⟨i+1,_,_,(gI (pS (val a)) i+gI (pS (val b)) i+cy) / 65536,LI.m [_] O,rfl,by omega,fun h=>by omega,by rw [List.length_append,hol];rfl,Ud oko (Nat.mod_lt _ (by decide)),by omega,aTg hol hv rfl⟩
 refine R3 16 O ?_
 refine xD O (fun hc25=>?_) (fun hc25=>?_)
 ·refine dX ?_
  refine dE (bQ ?_)
  refine xR ?_
  have h8:=rC (yJ (val a)) i
  have h9:=rC (yJ (val b)) i
  have h10:=Hh (l:=(pS (val a))) (i:=i) (by omega)
  have h11:=Hh (l:=(pS (val b))) (i:=i) (by omega)
  refine R1 5 O ?_
  refine lE zl0 (Ja (by omega) hr12.m) O O fun z30 hz30=>?_
  refine R1 5 O ?_
  refine lE z30 (Ja (by omega) hr14.m) O O fun z33 hz33=>?_
  refine lB O O (iW (n:=gI (pS (val a)) i+gI (pS (val b)) i) (by omega) (by omega)) (lC O (lB O O (iW (n:=(gI (pS (val a)) i+gI (pS (val b)) i+cy)) (by omega) (by omega)) (R2 20 O (lB O O ((aGA _)) ?_))))
  refine Zv (e:=eN) (a:=((gI (pS (val a)) i+gI (pS (val b)) i+cy) % 65536)) O (O) O (fun _=>rfl) (fun _=>lR) (by omega) (by omega) fun b40 c41 hc41=>?_
  refine R0 2 O (xG (lC O (lB O O ((aBk (by omega))) (R0 2 O (iE (xG (lC O (lB O O (iW (n:=i+1) (by omega) (by omega)) (R0 2 O ?_)))))))))
  exact nN (by omega) ⟨i+1,_,_,(gI (pS (val a)) i+gI (pS (val b)) i+cy) / 65536,LI.m [_] O,rfl,by omega,fun h=>by omega,by rw [List.length_append,hol];rfl,Ud oko (Nat.mod_lt _ (by decide)),by omega,aTg hol hv rfl⟩
 refine eE (oC (iE (xR ?_)))
 refine Bw z zl0 (p:=[]) O O zI (by omega) fun zfo hzfo hfo=>?_
 refine lM O ?_
 refine lZ zfo (Pz (by omega) oko (hfo.mono kY) (by omega)) O O fun v45 z45 _ hs45=>?_
 have hs45:=hs45.mono (vS (hz12.trans (hz14.trans (hzl0.trans hzfo))))
 refine R0 3 O (xT (rI O ?_))
 rw [show cy=0 by omega,Nat.mul_zero,Nat.add_zero,B8 (by omega),B8 (by omega),xP,xP] at hv
 have hq:=hs45
 rwa [hv] at hq
theorem aLp {k:Nat} (hk:4≤k) {z:fR} {u v:AV} {a b:List UInt32} (hx:SZ 1 RW z u a) (hy:SZ 1 RW z v b) (hla:a.length≤1000000000) (hlb:b.length≤1000000000):FC (E k) 217 [u,v] z fun v z'=>(val a<val b→v=.tup [qY,Ai 2])∧(val b≤val a→∃ v',v=.tup [v',Ai 0]∧SZ 1 RW (zd z z') v' (toL (val a - val b))):=by
 have hh1:=Np (l:=a)
 have hh2:=Np (l:=b)
 refine iI (bAX) (by omega) (dN O) fun B j hj=>?_
 refine R4 224 O ?_
 refine lE z (aBJ (by omega) hx hy hla hlb) O O fun z14 hz14=>?_
 refine R3 4 O ?_
 refine xD O (fun hc15=>?_) (fun hc15=>?_)
 ·refine R5 16 O (mC (rQ (.inl O) (rt O (rt O rn)) ?_))
  rw [Pm] at hc15
  exact ⟨fun _=>rfl,fun h=>absurd h (by omega)⟩
 refine R4 12 O ?_
 refine lZ z14 (yI (by omega) hx.m (by omega)) O O fun v17 z17 hz17 hr17=>?_
 have hr17:=hr17.mono (vS (hz14))
 refine lM O ?_
 refine lZ z17 (yI (by omega) hy.m (by omega)) O O fun v19 z19 hz19 hr19=>?_
 have hr19:=hr19.mono (vS (hz14.trans hz17))
 refine R2 35 O (uE 3 1 (R3 16 O ?_))
 refine dE (bQ ?_)
 refine eT (fun n fs=>∃ (i:Nat) (o:List Nat) (u:AV) (bw:Nat),LI z19 [Ds eN u 3 o] [(6,v17),(7,v19),(8,u),(9,Az bw),(10,Az i)] fs∧n=(pS (val a)).length - i∧(i≤(pS (val a)).length)∧(o.length=i)∧(L8 o)∧(bw≤1)∧(hv o+hv ((pS (val b)).take i)=hv ((pS (val a)).take i)+H ^ i * bw)) ?_ _ ⟨0,[],qY,0,LI.m [] O,rfl,by omega,rfl,aMS,by omega,by simp [Num.hv]⟩ (kK (by omega))
 intro n fs ⟨i,o,u,bw,hL0,hmz0,hi,hol,oko,hbw,hv⟩
 refine hL0.open fun e zl0 hzl0=>?_
 refine R4 24 O (cX O hr17 (R3 4 O ?_))
 refine xD O (fun hc23=>?_) (fun hc23=>?_)
 ·refine dX ?_
  refine dE (bQ ?_)
  refine jF ?_
  have h8:=rC (yJ (val a)) i
  have h9:=rC (yJ (val b)) i
  refine G1 5 O (gP O O F ?_)
  refine yR (zz:=zl0) O O hr17.m (i) (O) (by omega) fun p28 hp28=>lN ?_
  refine glP O O hp28 ti (G1 5 O ?_)
  refine gE zl0 (Ja (by omega) hr19.m) O O O O fun z32 _=>?_
  refine gP O O F ?_
  refine lB O O (wN (r:=(gI (pS (val a)) i:Int) - (gI (pS (val b)) i:Int)) (vR (by omega))) (lN ?_)
  refine G1 2 O (gP O O F ?_)
  refine lB O O (wN (r:=(gI (pS (val a)) i:Int) - (gI (pS (val b)) i:Int) - (bw:Int)) (vR (by omega))) (lN ?_)
  refine G0 2 O (R5 128 O ?_)
  refine xD O (fun hc37=>?_) (fun hc37=>?_)
  ·refine R4 8 O (lB O O (iW (n:=gI (pS (val a)) i+65536 - gI (pS (val b)) i - bw) (by omega) (by omega)) (R3 8 O (xG (R1 5 O ?_))))
   refine Zv (e:=eN) (a:=(gI (pS (val a)) i+65536 - gI (pS (val b)) i - bw)) O (O) O (fun _=>rfl) (fun _=>lR) (by omega) (by omega) fun b42 c43 hc43=>?_
   refine R0 2 O (iE (xG (lC O (lB O O (iW (n:=i+1) (by omega) (by omega)) (R0 2 O ?_)))))
   exact nN (by omega) ⟨i+1,_,_,1,LI.m [_] O,rfl,by omega,by rw [List.length_append,hol];rfl,Ud oko (by omega),by omega,aTT hol hv (by omega)⟩
  refine dX (xG (R1 5 O ?_))
  refine Zv (e:=eN) (a:=(gI (pS (val a)) i - gI (pS (val b)) i - bw)) O (bNz (by omega)) O (fun _=>rfl) (fun _=>lR) (by omega) (by omega) fun b42 c43 hc43=>?_
  refine R0 2 O (iE (xG (lC O (lB O O (iW (n:=i+1) (by omega) (by omega)) (R0 2 O ?_)))))
  exact nN (by omega) ⟨i+1,_,_,0,LI.m [_] O,rfl,by omega,by rw [List.length_append,hol];rfl,Ud oko (by omega),by omega,aTT hol hv (by omega)⟩
 refine eE (oC (iE (xR ?_)))
 refine Bw z zl0 (p:=[]) O O zI (by omega) fun zfo hzfo hfo=>?_
 refine lM O ?_
 refine lZ zfo (Pz (by omega) oko (hfo.mono kY) (by omega)) O O fun v45 z45 _ hs45=>?_
 have hs45:=hs45.mono (vS (hz14.trans (hz17.trans (hz19.trans (hzl0.trans hzfo)))))
 refine R0 5 O (xT (rQ (.inl O) (rt O (rt O rn)) ?_))
 rw [Pm] at hc15
 refine ⟨fun h=>absurd h hc15,fun _=>⟨_,rfl,?_⟩⟩
 have hq:=hs45
 have ho:=aSP oko
 have hn:(pS (val b)).length≤(pS (val a)).length:=aFs (by omega)
 rw [hol] at ho
 rw [B8 (by omega),B8 (by omega),xP,xP] at hv
 rwa [aWs ho (by omega) hv] at hq
end Go.Proofs.YtlceligcgelbdaaGreat
