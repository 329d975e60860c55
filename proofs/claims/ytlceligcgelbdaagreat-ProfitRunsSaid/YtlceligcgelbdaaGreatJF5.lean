/- A good, walked. -/
import Derived.WalkKit
import Derived.Orders
import Derived.Test.YtlceligcgelbdaaGreatJF4
set_option linter.unusedVariables false
set_option linter.unusedSimpArgs false
set_option maxRecDepth 100000
set_option maxHeartbeats 1000000
namespace Go.Proofs.YtlceligcgelbdaaGreat
open Go.CE Go.RowKit Go.Num
open Go.Eng (setL)
def hdC:List C→List C→List C
 | a::T,b::R=>a::b::Cb false::Cz::Cb false::Cz::hdC T R
 | _,_=>[]
abbrev hdL (T R:List (Ro Rat)):List C:=hdC (T.map (·.1)) (R.map (·.1))
theorem hdC_T:∀ {T R:List C} {y:Nat} {c:C},T.length=R.length→T[y]? = some c→(hdC T R)[y * 6]? = some c
 | [],_,y,c,_,h=>by simp at h
 | a::T,[],y,c,hl,_=>by simp at hl
 | a::T,b::R,0,c,hl,h=>by simpa [hdC] using h
 | a::T,b::R,y+1,c,hl,h=>by
  rw [show (y+1) * 6=y * 6+6 by omega,hdC]
  simp only [List.getElem?_cons_succ] at h ⊢
  exact hdC_T (by simpa using hl) h
theorem hdC_R:∀ {T R:List C} {y:Nat} {c:C},T.length=R.length→R[y]? = some c→(hdC T R)[y * 6+1]? = some c
 | [],[],y,c,_,h=>by simp at h
 | [],b::R,y,c,hl,_=>by simp at hl
 | a::T,[],y,c,hl,_=>by simp at hl
 | a::T,b::R,0,c,hl,h=>by simpa [hdC] using h
 | a::T,b::R,y+1,c,hl,h=>by
  rw [show (y+1) * 6+1=y * 6+1+6 by omega,hdC]
  simp only [List.getElem?_cons_succ] at h ⊢
  exact hdC_R (by simpa using hl) h
theorem hdC_len:∀ {T R:List C},T.length=R.length→(hdC T R).length=T.length * 6
 | [],_,_=>by simp [hdC]
 | a::T,[],hl=>by simp at hl
 | a::T,b::R,hl=>by
  rw [hdC]
  simp only [List.length_cons]
  rw [hdC_len (by simpa using hl)]
  omega
section
variable {T R:List (Ro Rat)} {y:Nat} {d d':Ro Rat}
theorem hdL_len (hl:T.length=R.length):(hdL T R).length=T.length * 6:=by rw [hdC_len (by simpa using hl),List.length_map]
theorem fst_set (h:T[y]? = some d) (e:d'.1=d.1):(T.set y d').map (·.1)=T.map (·.1):=by
 rw [List.map_set,e]
 refine List.ext_getElem? fun i=>?_
 rw [List.getElem?_set]
 by_cases hi:y=i
 ·subst hi
  rw [if_pos rfl,if_pos (by rw [List.length_map];exact (List.getElem?_eq_some_iff.1 h).1),List.getElem?_map,h]
  rfl
 rw [if_neg hi]
end
section
variable {call:Call'} {B:Base} {fs:Sf} {l:List I} {Q:Sf→Prop} {k:Nat} {c:XC} {QX:Exit→Sf→Prop} {α:Type} {ty size y:Nat} {R:List (Ro α)} {d d':Ro α} {p q:List HA}
theorem er_perm {β:Type}:∀ {L:List β} {y:Nat} {a:β},L[y]? = some a→(a::L.eraseIdx y).Perm L
 | [],y,a,h=>by simp at h
 | x::L,0,a,h=>by simp at h;subst h;exact List.Perm.refl _
 | x::L,y+1,a,h=>by
  simp only [List.getElem?_cons_succ] at h
  simp only [List.eraseIdx_cons_succ]
  exact (List.Perm.swap _ _ _).trans (List.Perm.cons _ (er_perm h))
theorem er_set {β:Type} {a:β}:∀ {L:List β} {y:Nat},y<L.length→(a::L.eraseIdx y).Perm (L.set y a)
 | [],y,h=>by simp at h
 | x::L,0,h=>List.Perm.refl _
 | x::L,y+1,h=>by
  simp only [List.eraseIdx_cons_succ,List.set_cons_succ]
  exact (List.Perm.swap _ _ _).trans (List.Perm.cons _ (er_set (by simpa using h)))
theorem rf_outR {st:AS} (r:Rf B fs st) (e:fs.H=p++many (R.map (rowT ty size))::q) (hd:R[y]? = some d):Rf B (fs.heap (rowT ty size d::(p++many ((R.eraseIdx y).map (rowT ty size))::q))) st:=by
 have hp:(rowT ty size d::(R.eraseIdx y).map (rowT ty size)).Perm (R.map (rowT ty size)):=(er_perm hd).map (rowT ty size)
 refine r.reH ?_ fun x hx=>?_
 ·rw [e]
  refine List.perm_iff_count.2 fun b=>?_
  have h1:=(fps_perm hp).count_eq b
  simp only [fps_app,fps_cons,many_fp,List.count_append] at h1 ⊢
  omega
 have h:=r.hold.h
 rw [e] at h
 have h1:=many_ok.1 (h (many (R.map (rowT ty size))) (by simp))
 rcases List.mem_cons.1 hx with rfl | hx
 ·exact h1 _ (hp.subset (List.mem_cons_self ..))
 rcases List.mem_append.1 hx with hx | hx
 ·exact h x (by simp [hx])
 rcases List.mem_cons.1 hx with rfl | hx
 ·exact many_ok.2 fun y hy=>h1 y (hp.subset (List.mem_cons_of_mem _ hy))
 exact h x (by simp [hx])
theorem rf_backR {st:AS} (r:Rf B fs st) (e:fs.H=rowT ty size d'::(p++many ((R.eraseIdx y).map (rowT ty size))::q)) (hy:y<R.length):Rf B (fs.heap (p++many ((R.set y d').map (rowT ty size))::q)) st:=by
 have hp:(rowT ty size d'::(R.eraseIdx y).map (rowT ty size)).Perm ((R.set y d').map (rowT ty size)):=(er_set hy).map (rowT ty size)
 refine r.reH ?_ fun x hx=>?_
 ·rw [e]
  refine List.perm_iff_count.2 fun b=>?_
  have h1:=(fps_perm hp).count_eq b
  simp only [fps_app,fps_cons,many_fp,List.count_append] at h1 ⊢
  omega
 have h:=r.hold.h
 rw [e] at h
 rcases List.mem_append.1 hx with hx | hx
 ·exact h x (by simp [hx])
 rcases List.mem_cons.1 hx with rfl | hx
 ·refine many_ok.2 fun y hy=>?_
  rcases List.mem_cons.1 (hp.symm.subset hy) with rfl | hy
  ·exact h _ (by simp)
  exact many_ok.1 (h (many ((R.eraseIdx _).map (rowT ty size))) (by simp)) y hy
 exact h x (by simp [hx])
theorem fl_outR (e:fs.H=p++many (R.map (rowT ty size))::q) (hd:R[y]? = some d) (hw:FL call B l (fs.heap (rowT ty size d::(p++many ((R.eraseIdx y).map (rowT ty size))::q))) Q):FL call B l fs Q:=fun st r=>hw st (rf_outR r e hd)
theorem fl_backR (d':Ro α) (e:fs.H=rowT ty size d'::(p++many ((R.eraseIdx y).map (rowT ty size))::q)) (hy:y<R.length) (hw:FL call B l (fs.heap (p++many ((R.set y d').map (rowT ty size))::q)) Q):FL call B l fs Q:=fun st r=>hw st (rf_backR r e hy)
theorem fx_outR (e:fs.H=p++many (R.map (rowT ty size))::q) (hd:R[y]? = some d) (hw:FX call k B c (fs.heap (rowT ty size d::(p++many ((R.eraseIdx y).map (rowT ty size))::q))) QX):FX call k B c fs QX:=fun st r=>hw st (rf_outR r e hd)
theorem fx_rowC {u:AV} {ty n size:Nat} {cs:List C} {p q:List HA} (e:fs.H=p++.row u ty size n cs::q) (hn:0<n) (h1:∀ b,u=.c (.sl b 0 n size)→FX call k B c (fs.heap (p++.blk b (.cells ty cs)::q)) QX):FX call k B c fs QX:=fun st r=>by
 obtain ⟨g1,g2⟩:=r.hold.h (.row u ty size n cs) (by rw [e];simp)
 rcases g2 with ⟨h0,_⟩ | ⟨b,hu,h3⟩
 ·omega
 exact h1 b hu st (r.asblk e hu h3)
end
def TB (z:Mem) (R:List (Ro Rat)) (l:List Ent) (Y m w:Nat):Prop:=TOk z R∧R.map (·.2.2)=(List.range Y).map (fun y=>rowE l y m)∧∀ y e,LQ w (atE l y e)
theorem TB.mono {z z':Mem} {R:List (Ro Rat)} {l:List Ent} {Y m w:Nat} (h:TB z R l Y m w) (hz:zle z z'):TB z' R l Y m w:=⟨h.1.mono hz,h.2.1,h.2.2⟩
theorem TB.m {z z':Mem} {R:List (Ro Rat)} {l:List Ent} {Y m w:Nat} (h:TB z R l Y m w) [q:Zl z z']:TB z' R l Y m w:=h.mono q.h
section
variable {z z':Mem} {R:List (Ro Rat)} {l:List Ent} {Y m w v y e:Nat} {d:Ro Rat} {x:Rat}
theorem TB.wd (h:TB z R l Y m w) (hw:w≤v):TB z R l Y m v:=⟨h.1,h.2.1,fun y e=>(h.2.2 y e).mono hw⟩
theorem TB.len (h:TB z R l Y m w):R.length=Y:=by
 have:=congrArg List.length h.2.1
 simpa using this
theorem TB.at (h:TB z R l Y m w) (hy:y<Y):∃ d,R[y]? = some d∧d.2.2=rowE l y m∧CL 4 RV z d.2.1 d.2.2:=by
 obtain ⟨d,hd⟩:=at_lt (l:=R) (i:=y) (by rw [h.len];exact hy)
 refine ⟨d,hd,?_,h.1 d (List.mem_of_getElem? hd)⟩
 have h1:=congrArg (fun l=>l[y]?) h.2.1
 simp only [List.getElem?_map,hd,List.getElem?_range hy] at h1
 exact Option.some.inj h1
theorem TB.cell (h:TB z R l Y m w) (hd:R[y]? = some d) (hr:d.2.2=rowE l y m) (he:e<m):d.2.1.length=m * 4∧∃ w0 w1,(d.2.1.drop (e * 4)).take 4=[Cb (decide ((atE l y e).num<0)),w0,Cb (decide (((atE l y e).den:Int)<0)),w1]∧CZ 1 RW z w0 (toL (atE l y e).num.natAbs)∧CZ 1 RW z w1 (toL ((atE l y e).den:Int).natAbs):=by
 obtain ⟨hl,hc⟩:=h.1 d (List.mem_of_getElem? hd)
 have hlm:d.2.2.length=m:=by rw [hr,rowE_len]
 obtain ⟨_,w0,w1,h1,h2,h3⟩:=hc e (atE l y e) (by rw [hr];exact rowE_get he)
 exact ⟨by rw [hl,hlm],w0,w1,h1,h2,h3⟩
theorem wb_one {l:List Ent} {w v:Nat} {a:Ent} (h:∀ y e,LQ w (atE l y e)) (hx:LQ v a.2):∀ y e,LQ (w+v+1) (atE (l++[a]) y e):=fun y e=>by
 obtain ⟨⟨y0,e0⟩,x⟩:=a
 rw [atE_app,atE_one]
 split
 ·exact (h y e).add hx
 rw [Rat.add_zero];exact (h y e).mono (by omega)
theorem TB.rel (h:TB z R l Y m w) (hz:zle z z') (hy:y<Y) (hd:R[y]? = some d) (hr:d.2.2=rowE l y m) (he:e<m) {a b:C} (ha:CZ 1 RW z' a (toL (atE l y e+x).num.natAbs)) (hb:CZ 1 RW z' b (toL ((atE l y e+x).den:Int).natAbs)) (hx:LQ v x) :
  TB z' (R.set y (d.1,setL d.2.1 (e * 4) [Cb (decide ((atE l y e+x).num<0)),a,Cb (decide (((atE l y e+x).den:Int)<0)),b],d.2.2.set e (atE l y e+x))) (l++[((y,e),x)]) Y m (w+v+1):=by
 refine ⟨fun c hc=>?_,?_,wb_one h.2.2 hx⟩
 ·rcases List.mem_or_eq_of_mem_set hc with hc | hc
  ·exact (h.1.mono hz) c hc
  subst hc
  exact cl_set ((h.1.mono hz) d (List.mem_of_getElem? hd)) (by rw [hr,rowE_len];exact he) rfl ⟨_,_,rfl,ha,hb⟩
 rw [List.map_set,h.2.1]
 refine List.ext_getElem? fun i=>?_
 rw [List.getElem?_set,List.length_map,List.length_range,List.getElem?_map,List.getElem?_map]
 by_cases hi:y=i
 ·subst hi
  rw [if_pos rfl,if_pos hy,List.getElem?_range hy,hr,← rowE_set he]
  rfl
 rw [if_neg hi]
 cases hri:(List.range Y)[i]? with
 | none=>rfl
 | some j =>
  have hj:j=i:=by
   have:=List.getElem?_eq_some_iff.1 hri
   obtain ⟨h1,h2⟩:=this
   simp at h2
   exact h2.symm
  subst hj
  show some (rowE l j m)=some (rowE (l++[((y,e),x)]) j m)
  rw [rowE_oth fun hh=>hi hh.symm]
theorem LQ.mul {a b:Nat} {p q:Rat} (h:LQ a p) (g:LQ b q):LQ (a+b) (p * q):=by
 rw [← Rat.num_divInt_den p,← Rat.num_divInt_den q,Rat.divInt_mul_divInt]
 have hd:=divInt_le (a:=p.num * q.num) (denR p q)
 exact ⟨Nat.le_trans (len_le hd.1) (lenMul h.1 g.1),Nat.le_trans (len_le (b:=((p.den:Int) * (q.den:Int)).natAbs) (by rw [Int.natAbs_natCast];exact hd.2)) (lenMul h.2 g.2)⟩
end
theorem fg_lookZ {call:Call'} {B:Base} {an:List Nat} {j:Nat} {l:List CE.D} {fs:Sf} {T:Mem} {tag last:Nat} {pj lj:List Nat} {Q:Sf→Prop} {i:I} {d:Nat} {af:List Nat} {str agg:Bool} {zero:List Value} {x k:Go.Eng.Od} {b n:Nat} {key:Value} {es:List (Value×AV×Nat)} {r:Option AV} {v:AV} (hi:i.o=.look str zero agg x k false) (hd:i.d=some d) (hg:GK fs i) (hbits:Nat.beq (an.getD j 0 ||| last) (an.getD j 0)=true) (hpj:(pj.all fun q=>(an.getD j 0).testBit q)=true)
  (hx:fs.ev x=.c (.mp b)) (hk:fs.ev k=.c (.v key)) (hm:fs.z b (.mp es n)) (hf:findV str key es=some r) (hv:r.getD (mkAV agg (zero.map fun v=>.v v))=v)
  (hw:FG call B an (j+1) l (fs.put d v) T (j+1) (an.getD j 0 ||| (1 <<< j)) [] lj Q):FG call B an j (⟨i,af⟩::l) fs T tag last pj lj Q:=by
 refine fd_chgT (D:=⟨fs,T,tag,last,pj,lj⟩) hg (by rw [hi];rfl) hbits hpj (fun st=>by rw [hi];rfl) (fun st hst hm=>?_) (by rw [hi];exact evV_look (.inl ⟨_,_,_,_,_,_,rfl⟩)) (fun st v' m' n' rf hv'=>?_) (by rw [hi,hd];exact fl_lookZ hx hk hm hf hv (lN hw))
 ·rw [hi] at hst ⊢
  have h1:st.ev x=.c (.mp b):=hst_ev (fs:=fs) (fun q hq=>hst q (by simp [Ins.sl,hq])) hx
  have h2:st.ev k=.c (.v key):=hst_ev (fs:=fs) (fun q hq=>hst q (by simp [Ins.sl,hq])) hk
  simp only [stepE,lookS,h1,h2,AV.val?,AS.ment,hm,Tr.get_nil]
 rw [hi] at hv'
 have h3:=look_ev (st:=st) ((rf.ev x).trans hx) ((rf.ev k).trans hk) (rf.hold.z _ _ hm).1 hf hv
 simp only [evV,callee,stepQ,h3,Option.some.injEq,Prod.mk.injEq] at hv'
 obtain ⟨_,rfl,rfl⟩:=hv'
 exact ⟨Nat.le_refl _,fun _ _ _ h=>h⟩
open Go.CE Go.RowKit Go.Num
open Go.Eng (setL)
theorem fg_ldAll {call:Call'} {B:Base} {an:List Nat} {j:Nat} {l:List CE.D} {fs:Sf} {T:Mem} {tag last:Nat} {pj lj:List Nat} {Q:Sf→Prop} {i:I} {d size:Nat} {x:Go.Eng.Od} {af:List Nat} {b ty:Nat} {cs:List C} (hi:i.o=.load true size x) (hd:i.d=some d) (hg:GK fs i) (hx:fs.ev x=Ap b) (hT:T b (.cells ty cs)) (h:cs.length=size) (hs:sameA (.agg cs) (.agg cs)=true) (hw:FG call B an (j+1) l (fs.put d (.agg cs)) T tag last pj (j::lj) Q):FG call B an j (⟨i,af⟩::l) fs T tag last pj lj Q:=
 fg_load (v:=.agg cs) hi hd hg hx hT rfl (by omega) (by rw [List.drop_zero,List.take_of_length_le (by omega)];rfl) hs hw
structure PItem where
 id:ByteArray
 df:Rat
 sd:Rat
 lf:Rat
 cl:Rat
def RItem:RT PItem:=fun z cs a=>∃ c0 c1 c2 c3 c4 c5 c6 c7,cs=[Cs a.id,Cb (decide (a.df.num<0)),c0,Cb (decide ((a.df.den:Int)<0)),c1,Cb (decide (a.sd.num<0)),c2,Cb (decide ((a.sd.den:Int)<0)),c3,Cb (decide (a.lf.num<0)),c4,Cb (decide ((a.lf.den:Int)<0)),c5,Cb (decide (a.cl.num<0)),c6,Cb (decide ((a.cl.den:Int)<0)),c7]∧CZ 1 RW z c0 (toL a.df.num.natAbs)∧CZ 1 RW z c1 (toL (a.df.den:Int).natAbs)∧CZ 1 RW z c2 (toL a.sd.num.natAbs)∧CZ 1 RW z c3 (toL (a.sd.den:Int).natAbs)∧CZ 1 RW z c4 (toL a.lf.num.natAbs)∧CZ 1 RW z c5 (toL (a.lf.den:Int).natAbs)∧CZ 1 RW z c6 (toL a.cl.num.natAbs)∧CZ 1 RW z c7 (toL (a.cl.den:Int).natAbs)
instance:RMono RItem:=⟨fun hz ⟨c0,c1,c2,c3,c4,c5,c6,c7,h,g0,g1,g2,g3,g4,g5,g6,g7⟩=>⟨c0,c1,c2,c3,c4,c5,c6,c7,h,g0.mono hz,g1.mono hz,g2.mono hz,g3.mono hz,g4.mono hz,g5.mono hz,g6.mono hz,g7.mono hz⟩⟩
def itemOf (ms:List (List Bool)) (pa:Nat) (sales:List PSale) (g:PGood):PItem:=⟨g.id,dfr ms g,(goodR ms pa sales g).sold,(goodR ms pa sales g).lft,(goodR ms pa sales g).left⟩
def SG (g:PGood):Prop:=g.mg.nm.length≤3∧g.mg.dm.length≤3∧g.us.nm.length≤3∧g.us.dm.length≤3
def GF (z:Mem) (F:List (Fg PSale)) (sales:List PSale):Prop:=∀ id:ByteArray,CZ 6 RSale z (uOg F (tx id)) (lOf F (tx id))∧lOf F (tx id)=salesOf sales id
theorem GF.mono {z z':Mem} {F:List (Fg PSale)} {sales:List PSale} (h:GF z F sales) (hz:zle z z'):GF z' F sales:=fun id=>⟨(h id).1.mono hz,(h id).2⟩
theorem GF.m {z z':Mem} {F:List (Fg PSale)} {sales:List PSale} (h:GF z F sales) [q:Zl z z']:GF z' F sales:=h.mono q.h
def gst (ms:List (List Bool)) (pa:Nat) (g:PGood) (ss:List PSale) (L:List Nat):GSt:=L.foldl (stepY ms pa g ss (dfr ms g)) ⟨dfr ms g,0,0,[]⟩
section
variable {ms:List (List Bool)} {pa y:Nat} {g:PGood} {ss sales:List PSale} {L:List Nat} {s s3:GSt} {x:PSale} {D:Rat} {r1:List Bool} {x1:Bool} {hs A B:List C} {T R:List (Ro Rat)} {d:Ro Rat}
theorem goodR_g:goodR ms pa sales g=gst ms pa g (salesOf sales g.id) (yrs ms g (ms.length - (g.yr.toNat+1)) (g.yr.toNat+1)):=rfl
theorem goodB_i (h:goodB ms g=true):isE ms.length g.yr=true∧isE (entsN ms) g.py=true∧isE (entsN ms) g.pr=true:=by
 simp only [goodB,Bool.and_eq_true] at h
 exact ⟨h.1.1.1.1.1,h.1.1.1.1.2,h.1.1.1.2⟩
theorem dfr_y (h:bothM ms g g.yr.toNat=true):rv g.mg * rv g.us=dfr ms g:=by rw [dfr,if_pos h]
theorem dfr_n (h:bothM ms g g.yr.toNat=false):0=dfr ms g:=by rw [dfr,if_neg (by rw [h];exact Bool.false_ne_true)]
theorem dfr_l (h1:g.mg.nm.length≤3) (h2:g.mg.dm.length≤3) (h3:g.us.nm.length≤3) (h4:g.us.dm.length≤3):LQ 8 (dfr ms g):=by
 rw [dfr]
 split
 ·exact (lq_rv h1 h2).mul (lq_rv h3 h4)
 exact lq_zero.mono (by decide)
theorem hd_T (eh:hs=hdC A B) (el:A.length=B.length) (eT:T.map (·.1)=A) (h:T[y]? = some d):hs[y * 6]? = some d.1:=by
 rw [eh];exact hdC_T el (by rw [← eT,List.getElem?_map,h];rfl)
theorem hd_R (eh:hs=hdC A B) (el:A.length=B.length) (eR:R.map (·.1)=B) (h:R[y]? = some d):hs[y * 6+1]? = some d.1:=by
 rw [eh];exact hdC_R el (by rw [← eR,List.getElem?_map,h];rfl)
theorem mb_at {e:Nat} (h1:ms[y]? = some r1) (h2:r1[e]? = some x1):mb ms y e=x1:=by rw [mb,h1,Option.getD_some,h2,Option.getD_some]
theorem gst_app:gst ms pa g ss (L++[y])=stepY ms pa g ss (dfr ms g) (gst ms pa g ss L) y:=by rw [gst,List.foldl_append];rfl
theorem nbB {b:Bool} (h:(!b)=true):b=false:=by cases b<;>simp_all
theorem st_na (hs:s=gst ms pa g ss L) (hb:(!bothM ms g y)=true) (h:mb ms y g.py.toNat=true):(⟨0,s.sold,s.left,s.rel++[((y,g.py.toNat),s.left)]⟩:GSt)=gst ms pa g ss (L++[y]):=by
 rw [gst_app,← hs,stepY,if_neg (by rw [nbB hb];exact Bool.false_ne_true),if_pos h]
theorem st_nb (hs:s=gst ms pa g ss L) (hb:(!bothM ms g y)=true) (h:mb ms y g.py.toNat=false):(⟨0,s.sold,s.left,s.rel++[((y,pa),s.left)]⟩:GSt)=gst ms pa g ss (L++[y]):=by
 rw [gst_app,← hs,stepY,if_neg (by rw [nbB hb];exact Bool.false_ne_true),if_neg (by rw [h];exact Bool.false_ne_true)]
theorem st_y (hs:s=gst ms pa g ss L) (hb:(!bothM ms g y)=false) (h3:s3=ss.foldl (stepS g (dfr ms g) y) s):s3=gst ms pa g ss (L++[y]):=by
 have e:bothM ms g y=true:=by revert hb;cases bothM ms g y<;>simp
 rw [gst_app,← hs,stepY,if_pos e,h3]
theorem stepS_y (h:x.yr=(y:Int)):[x].foldl (stepS g D y) s=⟨s.left - D * rv x.sh,s.sold+D * rv x.sh,s.lft,s.rel++[((y,g.py.toNat),D * rv x.sh)]⟩:=by
 show stepS g D y s x=_
 rw [stepS,if_pos h]
theorem stepS_n (h:¬ x.yr=(y:Int)):[x].foldl (stepS g D y) s=s:=by
 show stepS g D y s x=_
 rw [stepS,if_neg h]
theorem sO_sub {id:ByteArray} (h:x∈salesOf sales id):x∈sales:=(List.mem_filter.1 h).1
end
theorem TB.nx {z z':Mem} {R:List (Ro Rat)} {l r a:List Ent} {Y m w v:Nat} (h:TB z R (l++r++a) Y m w) (hz:zle z z') (hw:w≤v):TB z' R (l++(r++a)) Y m v:=by
 rw [List.append_assoc] at h
 exact (h.mono hz).wd hw
theorem rd_q {Post:Mem→List HA→Prop} {fs:Sf} {z:Mem} {H H':List HA} (hz:fs.z=z) (hH:fs.H=H) (hs:H'.Sublist H) (h:Post z H'):RdQ Post .normal fs:=⟨rfl,H',by rw [hH];exact hs,by rw [hz];exact h⟩
theorem yrs_len (ms:List (List Bool)) (g:PGood):∀ k y,(yrs ms g k y).length≤k
 | 0,_=>Nat.le_refl _
 | k+1,y=>by
  rw [yrs]
  split
  ·rw [List.length_cons];exact Nat.succ_le_succ (yrs_len ms g k (y+1))
  simp
theorem fl_putT {call:Call'} {Bs:Base} {fs:Sf} {L:List I} {Q:Sf→Prop} {z z':Mem} {R:List (Ro Rat)} {l:List Ent} {Y m w v y e n bd:Nat} {cs:List C} {l':List Rat} {x:Rat} {a b:C} {p q:List HA} (hT:TB z R l Y m w) (hd:R[y]? = some (.sl bd 0 n 4,cs,l')) (hr:l'=rowE l y m) (hn:l'.length=n) (he:e<m) (hy:y<Y)
  (E:fs.H=.blk bd (.cells 35 (setL cs (e * 4) [Cb (decide ((atE l y e+x).num<0)),a,Cb (decide (((atE l y e+x).den:Int)<0)),b]))::(p++many ((R.eraseIdx y).map (rowT 35 4))::q)) (hz:zle z z') (ha:CZ 1 RW z' a (toL (atE l y e+x).num.natAbs)) (hb:CZ 1 RW z' b (toL ((atE l y e+x).den:Int).natAbs)) (hx:LQ v x)
  (hw:∀ R1,TB z' R1 (l++[((y,e),x)]) Y m (w+v+1)→R1.map (·.1)=R.map (·.1)→FL call Bs L (fs.heap (p++many (R1.map (rowT 35 4))::q)) Q):FL call Bs L fs Q:=by
 have h1:=(hT.cell hd hr he).1
 have hnm:n=m:=by rw [← hn,hr,rowE_len]
 subst hnm
 refine fl_asrow (p:=[]) (n:=n) (size:=4) E (setL_l he h1) ?_
 refine fl_backR (R:=R) (y:=y) (ty:=35) (size:=4) (p:=p) (q:=q) (.sl bd 0 n 4,setL cs (e * 4) [Cb (decide ((atE l y e+x).num<0)),a,Cb (decide (((atE l y e+x).den:Int)<0)),b],l'.set e (atE l y e+x)) (by simp [rowT,Sf.heap,hn]) (by rw [hT.len];exact hy) ?_
 exact hw _ (hT.rel hz hy hd hr he ha hb hx) (fst_set hd rfl)
def JG (z0:Mem) (ms:List (List Bool)) (pa:Nat) (g:PGood) (ss:List PSale) (bo b4 b6:Nat) (hs B:List C) (lr:List Ent) (w:Nat) (cD dD:C) (L:List Nat) (z:Mem) (Hq:List HA):Prop:=
 ∃ (R1:List (Ro Rat)) (s:GSt) (a0 a1 a2 a3 a4 a5:C),Hq=[.blk bo (.cells 87 hs),many (R1.map (rowT 35 4)),.blk b4 (.cells 93 [Cs g.id,Cb (decide ((dfr ms g).num<0)),cD,Cb (decide (((dfr ms g).den:Int)<0)),dD,Cb (decide (s.sold.num<0)),a0,Cb (decide ((s.sold.den:Int)<0)),a1,Cb (decide (s.lft.num<0)),a2,Cb (decide ((s.lft.den:Int)<0)),a3,Cb false,Cz,Cb false,Cz]),.blk b6 (.cells 35 [Cb (decide (s.left.num<0)),a4,Cb (decide ((s.left.den:Int)<0)),a5])]∧s=gst ms pa g ss L∧TB (zd z0 z) R1 (lr++s.rel) ms.length (entsN ms) (w+1500 * L.length)∧R1.map (·.1)=B∧CZ 1 RW z a0 (toL s.sold.num.natAbs)∧CZ 1 RW z a1 (toL (s.sold.den:Int).natAbs)∧CZ 1 RW z a2 (toL s.lft.num.natAbs)∧CZ 1 RW z a3 (toL (s.lft.den:Int).natAbs)∧CZ 1 RW z a4 (toL s.left.num.natAbs)∧CZ 1 RW z a5 (toL (s.left.den:Int).natAbs)∧LQ (8+160 * L.length) s.sold∧LQ (8+160 * L.length) s.left
theorem JG.mono {z0:Mem} {ms:List (List Bool)} {pa:Nat} {g:PGood} {ss:List PSale} {bo b4 b6:Nat} {hs B:List C} {lr:List Ent} {w:Nat} {cD dD:C} {L:List Nat} {z z':Mem} {H:List HA} (h:JG z0 ms pa g ss bo b4 b6 hs B lr w cD dD L z H) (hz:zle z z'):JG z0 ms pa g ss bo b4 b6 hs B lr w cD dD L z' H:=by
 obtain ⟨R1,s,a0,a1,a2,a3,a4,a5,h1,h2,h3,h4,k0,k1,k2,k3,k4,k5,h5⟩:=h
 exact ⟨R1,s,a0,a1,a2,a3,a4,a5,h1,h2,h3.mono (zd_mono hz),h4,k0.mono hz,k1.mono hz,k2.mono hz,k3.mono hz,k4.mono hz,k5.mono hz,h5⟩
theorem JG.start {z0:Mem} {ms:List (List Bool)} {pa:Nat} {g:PGood} {ss:List PSale} {bo b4 b6:Nat} {hs B:List C} {lr:List Ent} {w:Nat} {cD dD c16 d16 c17 d17 c55 d55:C} {z:Mem} {R:List (Ro Rat)} (hR:TB (zd z0 z) R lr ms.length (entsN ms) w) (eR:R.map (·.1)=B) (hD:LQ 8 (dfr ms g)) (hcD:CZ 1 RW z cD (toL (dfr ms g).num.natAbs)) (hdD:CZ 1 RW z dD (toL ((dfr ms g).den:Int).natAbs)) (h0:CZ 1 RW z c16 (toL (0:Rat).num.natAbs)) (h1:CZ 1 RW z d16 (toL ((0:Rat).den:Int).natAbs)) (h2:CZ 1 RW z c17 (toL (0:Rat).num.natAbs)) (h3:CZ 1 RW z d17 (toL ((0:Rat).den:Int).natAbs)) (h4:CZ 1 RW z c55 (toL (dfr ms g).num.natAbs)) (h5:CZ 1 RW z d55 (toL ((dfr ms g).den:Int).natAbs)) :
  JG z0 ms pa g ss bo b4 b6 hs B lr w cD dD [] z [.blk bo (.cells 87 hs),many (R.map (rowT 35 4)),.blk b4 (.cells 93 [Cs g.id,Cb (decide ((dfr ms g).num<0)),cD,Cb (decide (((dfr ms g).den:Int)<0)),dD,Cb (decide ((0:Rat).num<0)),c16,Cb (decide (((0:Rat).den:Int)<0)),d16,Cb (decide ((0:Rat).num<0)),c17,Cb (decide (((0:Rat).den:Int)<0)),d17,Cb false,Cz,Cb false,Cz]),.blk b6 (.cells 35 [Cb (decide ((dfr ms g).num<0)),c55,Cb (decide (((dfr ms g).den:Int)<0)),d55])]:=⟨R,_,c16,d16,c17,d17,c55,d55,rfl,rfl,by rw [show (gst ms pa g ss []).rel=[] from rfl,List.append_nil];exact hR,eR,h0,h1,h2,h3,h4,h5,lq_zero.mono (by decide),hD⟩
theorem both_lentI {k:Nat} (hk:1≤k) {z:Mem} {br y:Nat} {yi:Int} (hyi:yi=(y:Int)) {cR cI cM cN cP cS:C} {ms:List (List Bool)} {r0:List Bool} {g:PGood} {c0 c1 c2 c3:C} (hm:CZ 1 (RC 1 (RE Value.bool)) z cM ms) (hr:ms[y]? = some r0) (hp:isE r0.length g.py=true) (hq:isE r0.length g.pr=true) (hg0:CZ 1 RW z c0 g.mg.nm) (hg1:CZ 1 RW z c1 g.mg.dm) (hg2:CZ 1 RW z c2 g.us.nm) (hg3:CZ 1 RW z c3 g.us.dm) :
  FCt (E k) 159 [Ap br,.agg [Cs g.id,Ci g.yr,Ci g.py,Ci g.pr,Cb g.mg.n,c0,Cb g.mg.d,c1,Cb g.us.n,c2,Cb g.us.d,c3],Ai yi] z [.blk br (.cells 192 [cR,cI,cM,cN,cP,cS])] fun v z' H'=>v=bool_ (bothM ms g y)∧H'=[.blk br (.cells 192 [cR,cI,cM,cN,cP,cS])]:=by
 subst hyi
 exact both_lent hk hm hr hp hq hg0 hg1 hg2 hg3
theorem c_releaseI {k:Nat} (hk:11≤k) {z:Mem} {br bo y e0 m0 Y:Nat} {ei:Int} (he:ei=(e0:Int)) {cd cI cM cN cP cS:C} {hs cs:List C} {q x:Rat} {w0 w1 x0 x1:C} (hd:hs[y * 6+1]? = some cd) (hyY:y<Y) (hem:e0<m0) (hcl:cs.length=m0 * 4) (hw:(cs.drop (e0 * 4)).take 4=[Cb (decide (q.num<0)),w0,Cb (decide ((q.den:Int)<0)),w1]) (q0:CZ 1 RW z w0 (toL q.num.natAbs)) (q1:CZ 1 RW z w1 (toL (q.den:Int).natAbs)) (g0:CZ 1 RW z x0 (toL x.num.natAbs)) (g1:CZ 1 RW z x1 (toL (x.den:Int).natAbs)) (hq:LQ 4000000 q) (hx:LQ 4000000 x) :
  FCt (E k) 162 [Ap br,Az y,Ai ei,.agg [Cb (decide (x.num<0)),x0,Cb (decide ((x.den:Int)<0)),x1]] z [.row (.c cd) 35 4 m0 cs,.blk bo (.cells 87 hs),.blk br (.cells 192 [.sl bo 0 Y 6,cI,cM,cN,cP,cS])] fun v z' H'=>v=.tup []∧∃ bd a b,cd=.sl bd 0 m0 4∧H'=[.blk bd (.cells 35 (setL cs (e0 * 4) [Cb (decide ((q+x).num<0)),a,Cb (decide (((q+x).den:Int)<0)),b])),.blk bo (.cells 87 hs),.blk br (.cells 192 [.sl bo 0 Y 6,cI,cM,cN,cP,cS])]∧CZ 1 RW (zd z z') a (toL (q+x).num.natAbs)∧CZ 1 RW (zd z z') b (toL ((q+x).den:Int).natAbs):=by
 subst he
 exact c_release0 hk hd hyY hem hcl hw q0 q1 g0 g1 hq hx
theorem c_profit_runner_good {k:Nat} (hk:12≤k) {z:Mem} {br bo bm pa w wt i ck:Nat} {g:PGood} {c0 c1 c2 c3 cI cM cN:C} {hs AA BB:List C} {T0 R:List (Ro Rat)} {lt lr:List Ent} {its:List C} {Is:List PItem} {F:List (Fg PSale)} {ms:List (List Bool)} {sales:List PSale} (hg0:CZ 1 RW z c0 g.mg.nm) (hg1:CZ 1 RW z c1 g.mg.dm) (hg2:CZ 1 RW z c2 g.us.nm) (hg3:CZ 1 RW z c3 g.us.dm) (hgs:SG g) (hm:CZ 1 (RC 1 (RE Value.bool)) z cM ms) (hms:∀ r,r∈ms→r.length=entsN ms) (hml:ms.length≤8) (hgB:goodB ms g=true) (hpa:pa<entsN ms) (hmp:z bm (.mp (F.map Fg.ent) ck)) (hF:GF z F sales) (hss:∀ x,x∈sales→x.sh.nm.length≤3∧x.sh.dm.length≤3) (hsl:sales.length≤12) {z0:Mem} (hz0:zle z0 z) (hT:TB (zd z0 z) T0 lt ms.length (entsN ms) wt) (hR:TB (zd z0 z) R lr ms.length (entsN ms) w) (hw:w≤1000000) (hwt:wt≤1000000) (eh:hs=hdC AA BB) (el:AA.length=BB.length) (eT:T0.map (·.1)=AA) (eR:R.map (·.1)=BB) (hI:CL 17 RItem z its Is) (hi:i≤1000):FCt (E k) 81 [Ap br,.agg [Cs g.id,Ci g.yr,Ci g.py,Ci g.pr,Cb g.mg.n,c0,Cb g.mg.d,c1,Cb g.us.n,c2,Cb g.us.d,c3]] z [.blk br (.cells 192 [.sl bo 0 ms.length 6,cI,cM,cN,Ci (pa:Nat),.mp bm]),.blk bo (.cells 87 hs),many (T0.map (rowT 35 4)),many (R.map (rowT 35 4)),many [.row (.c cI) 93 17 i its]] fun v z' H'=>v=.tup []∧∃ T1 Ra cI' its',H'=[.blk br (.cells 192 [.sl bo 0 ms.length 6,cI',cM,cN,Ci (pa:Nat),.mp bm]),.blk bo (.cells 87 hs),many (T1.map (rowT 35 4)),many (Ra.map (rowT 35 4)),many [.row (.c cI') 93 17 (i+1) its']]∧TB (zd z0 z') T1 (lt++[((g.yr.toNat,g.py.toNat),dfr ms g)]) ms.length (entsN ms) (wt+9)∧TB (zd z0 z') Ra (lr++(goodR ms pa sales g).rel) ms.length (entsN ms) (w+12000)∧T1.map (·.1)=AA∧Ra.map (·.1)=BB∧CL 17 RItem z' its' (Is++[itemOf ms pa sales g]):=by
  obtain ⟨hgy,hgp,hgq⟩:=goodB_i hgB
  obtain ⟨hy1,hy2⟩:=isE_i hgy
  obtain ⟨hp1_,hp2_⟩:=isE_i hgp
  obtain ⟨hz1,hz2,hz3,hz4⟩:=hgs
  obtain ⟨r0,hr0⟩:=at_lt (l:=ms) (i:=g.yr.toNat) (by omega)
  have hrl:=hms r0 (List.mem_of_getElem? hr0)
  obtain ⟨⟨cT,tcs,tl⟩,hdT,hrT,_⟩:=hT.at (y:=g.yr.toNat) (by omega)
  obtain ⟨htl,t0,t1,ht0,ht1,ht2⟩:=hT.cell hdT hrT (e:=g.py.toNat) (by omega)
  have htn:tl.length=entsN ms:=by rw [show tl=_ from hrT];exact rowE_len
  have htl:tcs.length=entsN ms * 4:=htl
  have hDl:LQ 8 (dfr ms g):=dfr_l hz1 hz2 hz3 hz4
  obtain ⟨hsz,hse⟩:=hF g.id
  rw [hse] at hsz
  have hsll:(salesOf sales g.id).length≤12:=Nat.le_trans (List.length_filter_le _ _) hsl
  refine fct_of (tS_get81) (by omega) (len1 rfl) fun B j hj=>?_
  refine xR ?_
  refine fl_box rfl rfl fun b2=>?_
  refine fl_frzZ z (p:=[]) rfl rfl rfl (fun _ h=>h) fun zff2 hzff2 f2=>?_
  refine fl_bx rfl fun b3=>?_
  refine fl_frzZ zff2 (p:=[]) rfl rfl rfl (fun _ h=>h) fun zff3 hzff3 f3=>?_
  refine lN ?_
  refine fx_drwS ?_
  refine G1 2 O ?_
  refine fg_ldA (i:=⟨_,_,.load _ _ _⟩) (off:=0) rfl rfl trivial rfl (at0p f3) ti rfl (by simp) rfl sR ?_
  refine gC zff3 (c_rat_Whole (by omega) (by decide) (by decide)) O O O O fun v15 z15 hz15 hv15=>?_
  have hv15:=qv_op hv15
  obtain ⟨c15,d15,hv,hm15,hn15⟩:=hv15
  subst hv
  have hm15:=hm15.mono (zAq (hz0.trans (hzff2.trans hzff3)))
  have hn15:=hn15.mono (zAq (hz0.trans (hzff2.trans hzff3)))
  refine gC z15 (c_rat_Whole (by omega) (by decide) (by decide)) O O O O fun v16 z16 hz16 hv16=>?_
  have hv16:=qv_op hv16
  obtain ⟨c16,d16,hv,hm16,hn16⟩:=hv16
  subst hv
  have hm16:=hm16.mono (zAq (hz0.trans (hzff2.trans (hzff3.trans hz15))))
  have hn16:=hn16.mono (zAq (hz0.trans (hzff2.trans (hzff3.trans hz15))))
  refine gC z16 (c_rat_Whole (by omega) (by decide) (by decide)) O O O O fun v17 z17 hz17 hv17=>?_
  have hv17:=qv_op hv17
  obtain ⟨c17,d17,hv,hm17,hn17⟩:=hv17
  subst hv
  have hm17:=hm17.mono (zAq (hz0.trans (hzff2.trans (hzff3.trans (hz15.trans hz16)))))
  have hn17:=hn17.mono (zAq (hz0.trans (hzff2.trans (hzff3.trans (hz15.trans hz16)))))
  refine gP rfl rfl trivial ?_
  refine fl_bd (cs:=[Cs g.id,Cb (decide ((0:Rat).num<0)),c15,Cb (decide (((0:Rat).den:Int)<0)),d15,Cb (decide ((0:Rat).num<0)),c16,Cb (decide (((0:Rat).den:Int)<0)),d16,Cb (decide ((0:Rat).num<0)),c17,Cb (decide (((0:Rat).den:Int)<0)),d17,Cb false,Cz,Cb false,Cz]) rfl (lN ?_)
  refine gA O O (fun b4 hT4=>?_)
  refine gS O O O ?_
  refine fl_stAll rfl rfl rfl rfl rep0 ?_
  refine lN ?_
  refine fg_nil ?_
  refine R4 4 O ?_
  refine fl_ldA1 rfl (at0p (zI _ _ f2)) ?_
  refine fl_ldA (off:=0) rfl (at0p (zI _ _ f3)) rfl (by simp) rfl ?_
  refine lF rfl ?_
  refine fl_ldA (off:=1) rfl (at0p (zI _ _ f3)) rfl (by simp) rfl ?_
  refine fl_fr1 rfl ?_
  refine fl_callLZ z17 [.blk br (.cells 192 [.sl bo 0 ms.length 6,cI,cM,cN,Ci (pa:Nat),.mp bm])] (both_lentI (by omega) (yi:=g.yr) (y:=g.yr.toNat) (by omega) hm.m hr0 (by rw [hrl];exact hgp) (by rw [hrl];exact hgq) hg0.m hg1.m hg2.m hg3.m) rfl rfl rfl fun v23 z23 H23 hz23 ⟨hv23,hH23⟩=>?_
  subst hv23 hH23
  refine lN ?_
  refine fx_join (fun fs=>∃ (q:Rat) (cD:C) (dD:C) (zi:Mem),LZ z23 zi [.blk br (.cells 192 [.sl bo 0 ms.length 6,cI,cM,cN,Ci (pa:Nat),.mp bm]),.blk b4 (.cells 93 [Cs g.id,Cb (decide (q.num<0)),cD,Cb (decide ((q.den:Int)<0)),dD,Cb (decide ((0:Rat).num<0)),c16,Cb (decide (((0:Rat).den:Int)<0)),d16,Cb (decide ((0:Rat).num<0)),c17,Cb (decide (((0:Rat).den:Int)<0)),d17,Cb false,Cz,Cb false,Cz]),.blk bo (.cells 87 hs),many (T0.map (rowT 35 4)),many (R.map (rowT 35 4)),many [.row (.c cI) 93 17 i its]] [(2,Ap b2),(3,Ap b3),(4,Ap b4)] fs∧(q=dfr ms g)∧(CZ 1 RW zi cD (toL q.num.natAbs))∧(CZ 1 RW zi dD (toL (q.den:Int).natAbs))) ?_ fun fs hJ=>?_
  · skip
    refine fx_condB rfl (fun hc23=>?_) (fun hc23=>?_)
    · skip
      refine xG ?_
      refine lF rfl ?_
      refine fl_ldA (off:=4) rfl (at0p (zI _ _ f3)) rfl (by simp) rfl ?_
      refine lF rfl ?_
      refine fl_ldA (off:=8) rfl (at0p (zI _ _ f3)) rfl (by simp) rfl ?_
      refine lZ z23 (c_rat_Mul (by omega) hg0.m hg1.m (by omega) (by omega) hg2.m hg3.m (by omega) (by omega)) rfl rfl fun v28 z28 _ hv28=>?_
      have hv28:=qv_op hv28
      obtain ⟨c28,d28,hv,hm28,hn28⟩:=hv28
      subst hv
      have hm28:=hm28.mono (zAq (hz0.trans (hzff2.trans (hzff3.trans (hz15.trans (hz16.trans (hz17.trans hz23)))))))
      have hn28:=hn28.mono (zAq (hz0.trans (hzff2.trans (hzff3.trans (hz15.trans (hz16.trans (hz17.trans hz23)))))))
      refine lF rfl ?_
      refine fl_stE (cs':=[Cs g.id,Cb (decide ((rv g.mg * rv g.us).num<0)),c28,Cb (decide (((rv g.mg * rv g.us).den:Int)<0)),d28,Cb (decide ((0:Rat).num<0)),c16,Cb (decide (((0:Rat).den:Int)<0)),d16,Cb (decide ((0:Rat).num<0)),c17,Cb (decide (((0:Rat).den:Int)<0)),d17,Cb false,Cz,Cb false,Cz]) rfl rfl rfl P1 rfl rfl (Nat.le_of_ble_eq_true rfl) ?_
      refine lN ?_
      exact sq_n ⟨(rv g.mg * rv g.us),c28,d28,_,LZ.m [] O,dfr_y hc23,(hm28.mono zd_le),(hn28.mono zd_le)⟩
    · skip
      refine fx_skip ?_
      exact sq_n ⟨0,c15,d15,_,LZ.m [] O,dfr_n hc23,hm15.m,hn15.m⟩
  · skip
    obtain ⟨q,cD,dD,zi,hJ23,hq,hcD,hdD⟩:=hJ
    subst hq
    refine hJ23.open fun e hzi=>?_
    refine fx_outR (p:=[_,_,_]) rfl hdT ?_
    refine fx_rowC (p:=[]) rfl (by show 0<tl.length;omega) fun bd hbd=>?_
    have hbd:cT=.sl bd 0 tl.length 4:=by injection hbd
    subst hbd
    have heT:hs[g.yr.toNat * 6]? = some (.sl bd 0 tl.length 4):=hd_T eh el eT hdT
    refine fx_drwS ?_
    refine fg_ldA (i:=⟨_,_,.load _ _ _⟩) (off:=0) rfl rfl trivial rfl (at0p f2) ti rfl (by simp) rfl sR ?_
    refine gP rfl rfl trivial ?_
    refine fl_nilck rfl (lN ?_)
    refine G1 4 O ?_
    refine gl1 O O (.inr Y1) O ?_
    refine G1 2 O ?_
    refine fg_ldA (i:=⟨_,_,.load _ _ _⟩) (off:=1) rfl rfl trivial rfl (at0p f3) ti rfl (by simp) rfl sR ?_
    refine gP rfl rfl trivial ?_
    refine fl_iad rfl rfl g.yr.toNat (by omega) (by omega) (lN ?_)
    refine G1 2 O ?_
    refine fg_ld1 (i:=⟨_,_,.load _ _ _⟩) rfl rfl trivial rfl (.inr Y3) (by rw [Nat.zero_add];exact heT) sR ?_
    refine G0 2 O ?_
    refine fx_drwS ?_
    refine G1 4 O ?_
    refine fg_ldA (i:=⟨_,_,.load _ _ _⟩) (off:=2) rfl rfl trivial rfl (at0p f3) ti rfl (by simp) rfl sR ?_
    refine G1 4 O ?_
    refine fg_ldA (i:=⟨_,_,.load _ _ _⟩) (off:=2) rfl rfl trivial rfl (at0p f3) ti rfl (by simp) rfl sR ?_
    refine gP rfl rfl trivial ?_
    refine fl_iad rfl rfl g.py.toNat (by omega) (by omega) (lN ?_)
    refine fg_ld4 (i:=⟨_,_,.load _ _ _⟩) rfl rfl trivial rfl (.inr mem0) (by rw [Nat.zero_add];exact ht0) sR ?_
    refine G1 2 O ?_
    refine gl4 O O (.inr Y2) O ?_
    refine gC zi (c_rat_Add (by omega) ht1.m ht2.m (Nat.le_trans (hT.2.2 _ _).1 (by omega)) (Nat.le_trans (hT.2.2 _ _).2 (by omega)) hcD hdD (Nat.le_trans hDl.1 (by omega)) (Nat.le_trans hDl.2 (by omega))) O O O O fun v50 z50 hz50 hv50=>?_
    simp only [valR_c] at hv50
    obtain ⟨c50,d50,hv,hm50,hn50⟩:=hv50
    subst hv
    have hm50:=hm50.mono (zAq (hz0.trans (hzff2.trans (hzff3.trans (hz15.trans (hz16.trans (hz17.trans (hz23.trans hzi))))))))
    have hn50:=hn50.mono (zAq (hz0.trans (hzff2.trans (hzff3.trans (hz15.trans (hz16.trans (hz17.trans (hz23.trans hzi))))))))
    refine gP rfl rfl trivial ?_
    refine fl_iad rfl rfl g.py.toNat (by omega) (by omega) (lN ?_)
    refine gS O O O ?_
    refine fl_stE (cs':=setL tcs (g.py.toNat * 4) [Cb (decide ((atE lt g.yr.toNat g.py.toNat+dfr ms g).num<0)),c50,Cb (decide (((atE lt g.yr.toNat g.py.toNat+dfr ms g).den:Int)<0)),d50]) rfl rfl rfl rep0 (by rw [Nat.zero_add]) rfl (by omega) ?_
    refine lN ?_
    refine fg_nil ?_
    refine xR ?_
    refine fl_putT (p:=[_,_,_]) hT hdT hrT rfl (by omega) (by omega) rfl (zd_mono zI) (hm50) (hn50) hDl fun T1 hT1 eT1=>?_
    refine lF rfl ?_
    refine fl_ld4 rfl Y1 rfl ?_
    refine fl_bslice (cs:=[Cb (decide ((dfr ms g).num<0)),cD,Cb (decide (((dfr ms g).den:Int)<0)),dD]) rfl fun b54=>?_
    refine fl_frzZ z50 (p:=[]) rfl rfl rfl (fun _ h=>h) fun zff54 hzff54 f54=>?_
    have hsum:SZ 4 RV zff54 (.c (.sl b54 0 1 4)) [dfr ms g]:=(CL.one rfl ⟨_,_,rfl,hcD.m,hdD.m⟩).sz rfl (Nat.le_of_ble_eq_true rfl) f54
    have hs8:∀ q,q∈[dfr ms g]→LQ 8 q:=fun q hq=>by rw [List.mem_singleton.1 hq];exact hDl
    refine lZ zff54 (c_rat_SumL (by omega) (m:=8) hsum hs8 (Nat.le_of_ble_eq_true rfl)) rfl rfl fun v55 z55 hz55 hv55=>?_
    rw [show sumQ [dfr ms g]=dfr ms g from Rat.add_zero _] at hv55
    obtain ⟨c55,d55,hv,hm55,hn55⟩:=hv55
    subst hv
    have hm55:=hm55.mono (zAq (hz0.trans (hzff2.trans (hzff3.trans (hz15.trans (hz16.trans (hz17.trans (hz23.trans (hzi.trans (hz50.trans hzff54))))))))))
    have hn55:=hn55.mono (zAq (hz0.trans (hzff2.trans (hzff3.trans (hz15.trans (hz16.trans (hz17.trans (hz23.trans (hzi.trans (hz50.trans hzff54))))))))))
    refine fl_al4 fun b6=>?_
    refine fl_st4 rfl rfl rep0 ?_
    refine lN ?_
    refine R4 4 O ?_
    refine fl_ldA1 rfl (at0p (zI _ _ f2)) ?_
    refine fl_ldA (off:=0) rfl (at0p (zI _ _ f3)) rfl (by simp) rfl ?_
    refine lZ z55 (c_profit_runner_later (by omega)) rfl rfl fun v58 z58 hz58 ⟨p1,p2,hv58,hp1,hp2⟩=>?_
    subst hv58
    refine fl_fr2 rfl ?_
    refine fl_fr5 rfl ?_
    refine fl_fr4 rfl ?_
    refine fl_fr4 rfl ?_
    refine lN ?_
    refine fx_seq (fx_block ?_)
    refine fx_range (us:=[]) (cs:=[(false,[.ptr p2 0]),(false,[.ptr p1 0])]) (Hs:=[.blk br (.cells 192 [.sl bo 0 ms.length 6,cI,cM,cN,Ci (pa:Nat),.mp bm]),.blk bo (.cells 87 hs),many (R.map (rowT 35 4)),.blk b4 (.cells 93 [Cs g.id,Cb (decide ((dfr ms g).num<0)),cD,Cb (decide (((dfr ms g).den:Int)<0)),dD,Cb (decide ((0:Rat).num<0)),c16,Cb (decide (((0:Rat).den:Int)<0)),d16,Cb (decide ((0:Rat).num<0)),c17,Cb (decide (((0:Rat).den:Int)<0)),d17,Cb false,Cz,Cb false,Cz]),.blk b6 (.cells 35 [Cb (decide ((dfr ms g).num<0)),c55,Cb (decide (((dfr ms g).den:Int)<0)),d55])]) (Hr:=_) (Post:=fun z' H'=>∃ Hq,H'=.blk br (.cells 192 [.sl bo 0 ms.length 6,cI,cM,cN,Ci (pa:Nat),.mp bm])::Hq∧JG z0 ms pa g (salesOf sales g.id) bo b4 b6 hs BB lr w cD dD (yrs ms g (ms.length - (g.yr.toNat+1)) (g.yr.toNat+1)) z' Hq) rfl rfl rfl (fun call' b hA hY=>?_) fun z40 H40 hz40 hJ40=>?_
    · refine c_later_body (by omega) hA (at0p hp2) (at0p hp1) hg0.m hg1.m hg2.m hg3.m hm.m hy1 hy2 hgp hgq hms (J := JG z0 ms pa g (salesOf sales g.id) bo b4 b6 hs BB lr w cD dD) (fun L z z' H hz h => h.mono hz) (fun L1 y z5 Hq hj hz5 hyy hyl hLn => hY _ _ _ _ rfl fun B9 => ?_) (JG.start (hR.mono (zd_mono zI)) eR hDl hcD.m hdD.m hm16.m hn16.m hm17.m hn17.m hm55.m hn55.m)
      obtain ⟨Ra,s,a0,a1,a2,a3,a4,a5,rfl,hsE,hR1,eR1,k0,k1,k2,k3,k4,k5,hls,hll⟩:=hj
      refine R5 32 O ?_
      refine fx_block ?_
      refine R5 32 O ?_
      refine fx_condB rfl (fun hc62=>?_) (fun hc62=>?_)
      · skip
        refine R4 4 O ?_
        refine fl_ldA1 rfl (at0p ((hzff3.trans (hz15.trans (hz16.trans (hz17.trans (hz23.trans (hzi.trans (hz50.trans (hzff54.trans (hz55.trans (hz58.trans hz5)))))))))) _ _ f2)) ?_
        refine fl_nilck rfl ?_
        refine lF rfl ?_
        refine fl_ld1 rfl mem0 rfl ?_
        refine R3 8 O ?_
        refine fx_drwS ?_
        obtain ⟨r1,hr1⟩:=at_lt (l:=ms) (i:=y) hyl
        have hrl1:=hms r1 (List.mem_of_getElem? hr1)
        obtain ⟨x1,hx1⟩:=at_lt (l:=r1) (i:=g.py.toNat) (by omega)
        have hmb:=mb_at hr1 hx1
        refine fg_ldA (i:=⟨_,_,.load _ _ _⟩) (off:=0) rfl rfl trivial rfl (at0p f2) (fun _ _ h=>.inl ((hzff3.trans (hz15.trans (hz16.trans (hz17.trans (hz23.trans (hzi.trans (hz50.trans (hzff54.trans (hz55.trans (hz58.trans hz5)))))))))) _ _ h)) rfl (by simp) rfl sR ?_
        refine gP rfl rfl trivial ?_
        refine fl_nilck rfl (lN ?_)
        refine G1 2 O ?_
        refine gl1 O O Ht O ?_
        refine G1 2 O ?_
        refine gP rfl rfl trivial ?_
        refine fl_iadS rfl rfl hm y rfl r1 hr1 fun b72 p72 cs at72 hR=>lN ?_
        obtain ⟨c72,hcs,q72⟩:=hR
        subst hcs
        refine fg_ldA (i:=⟨_,_,.load _ _ _⟩) (off:=0) rfl rfl trivial rfl at72 (fun _ _ h=>.inl ((hzff2.trans (hzff3.trans (hz15.trans (hz16.trans (hz17.trans (hz23.trans (hzi.trans (hz50.trans (hzff54.trans (hz55.trans (hz58.trans hz5))))))))))) _ _ h)) rfl (by simp) rfl sR ?_
        refine G1 2 O ?_
        refine fg_ldA (i:=⟨_,_,.load _ _ _⟩) (off:=2) rfl rfl trivial rfl (at0p f3) (fun _ _ h=>.inl ((hz15.trans (hz16.trans (hz17.trans (hz23.trans (hzi.trans (hz50.trans (hzff54.trans (hz55.trans (hz58.trans hz5))))))))) _ _ h)) rfl (by simp) rfl sR ?_
        refine gP rfl rfl trivial ?_
        refine fl_iadS rfl rfl q72 g.py.toNat (by omega) x1 hx1 fun b76 p76 cs at76 hR=>lN ?_
        have hcs:cs=_:=hR
        subst hcs
        refine fg_ldA (i:=⟨_,_,.load _ _ _⟩) (off:=0) rfl rfl trivial rfl at76 (fun _ _ h=>.inl ((hzff2.trans (hzff3.trans (hz15.trans (hz16.trans (hz17.trans (hz23.trans (hzi.trans (hz50.trans (hzff54.trans (hz55.trans (hz58.trans hz5))))))))))) _ _ h)) rfl (by simp) rfl sR ?_
        refine fg_nil ?_
        refine fx_cseq ?_
        refine fx_condB rfl (fun hc77=>?_) (fun hc77=>?_)
        · skip
          refine R4 4 O ?_
          refine fl_ldA (off:=2) rfl (at0p ((hz15.trans (hz16.trans (hz17.trans (hz23.trans (hzi.trans (hz50.trans (hzff54.trans (hz55.trans (hz58.trans hz5))))))))) _ _ f3)) rfl (by simp) rfl ?_
          refine R2 8 O ?_
          refine fl_ldA1 rfl (at0p ((hzff3.trans (hz15.trans (hz16.trans (hz17.trans (hz23.trans (hzi.trans (hz50.trans (hzff54.trans (hz55.trans (hz58.trans hz5)))))))))) _ _ f2)) ?_
          refine R1 4 O ?_
          refine fl_ld4 rfl Y4 rfl ?_
          obtain ⟨⟨cR1,rcs,rl⟩,hdR,hrR,_⟩:=hR1.at (y:=y) hyl
          obtain ⟨hcl,w0,w1,hw0,hq0,hq1⟩:=hR1.cell hdR hrR (e:=g.py.toNat) (by omega)
          have hrn:rl.length=entsN ms:=by rw [show rl=_ from hrR];exact rowE_len
          have heR:hs[y * 6+1]? = some cR1:=hd_R eh el eR1 hdR
          refine fl_outR (p:=[_,_]) rfl hdR ?_
          refine fl_fr1 rfl ?_
          refine fl_fr2 rfl ?_
          refine fl_fr2 rfl ?_
          refine fl_callLZ z5 [.row (.c cR1) 35 4 rl.length rcs,.blk bo (.cells 87 hs),.blk br (.cells 192 [.sl bo 0 ms.length 6,cI,cM,cN,Ci (pa:Nat),.mp bm])] (FCt.agr (agr_noY _) (c_releaseI (by omega) (show g.py=((g.py.toNat:Nat):Int) by omega) heR hyl (by omega) (by rw [hrn];exact hcl) hw0 (hq0.mono zd_le) (hq1.mono zd_le) k4 k5 ((hR1.2.2 _ _).mono (by omega)) (hll.mono (by omega)))) rfl rfl rfl fun v84 z84 H84 hz84 ⟨hv84,bd1,ra,rb,hcd,hH84,hra,hrb⟩=>?_
          subst hv84 hcd hH84
          have hra:=hra.mono (zAq (hz0.trans (hzff2.trans (hzff3.trans (hz15.trans (hz16.trans (hz17.trans (hz23.trans (hzi.trans (hz50.trans (hzff54.trans (hz55.trans (hz58.trans hz5)))))))))))))
          have hrb:=hrb.mono (zAq (hz0.trans (hzff2.trans (hzff3.trans (hz15.trans (hz16.trans (hz17.trans (hz23.trans (hzi.trans (hz50.trans (hzff54.trans (hz55.trans (hz58.trans hz5)))))))))))))
          refine fl_putT (p:=[_,_]) hR1 hdR hrR rfl (by omega) hyl rfl (zd_mono zI) (hra) (hrb) hll fun Rb hR2 eR20=>?_
          have eR2:=eR20.trans eR1
          refine fl_fr1 rfl ?_
          refine lN ?_
          refine fx_ss ?_
          refine fx_drwS ?_
          refine gl4 O O (.inr Y4) O ?_
          refine gC z84 (FC.agr (agr_noY _) (c_rat_Whole (by omega) (by decide) (by decide))) O O O O fun v86 z86 hz86 hv86=>?_
          have hv86:=qv_op hv86
          obtain ⟨c86,d86,hv,hm86,hn86⟩:=hv86
          subst hv
          have hm86:=hm86.mono (zAq (hz0.trans (hzff2.trans (hzff3.trans (hz15.trans (hz16.trans (hz17.trans (hz23.trans (hzi.trans (hz50.trans (hzff54.trans (hz55.trans (hz58.trans (hz5.trans hz84))))))))))))))
          have hn86:=hn86.mono (zAq (hz0.trans (hzff2.trans (hzff3.trans (hz15.trans (hz16.trans (hz17.trans (hz23.trans (hzi.trans (hz50.trans (hzff54.trans (hz55.trans (hz58.trans (hz5.trans hz84))))))))))))))
          refine G1 2 O ?_
          refine gS O O O ?_
          refine fl_stE (cs':=[Cs g.id,Cb (decide ((dfr ms g).num<0)),cD,Cb (decide (((dfr ms g).den:Int)<0)),dD,Cb (decide (s.sold.num<0)),a0,Cb (decide ((s.sold.den:Int)<0)),a1,Cb (decide (s.left.num<0)),a4,Cb (decide ((s.left.den:Int)<0)),a5,Cb false,Cz,Cb false,Cz]) rfl rfl rfl P3 rfl rfl (Nat.le_of_ble_eq_true rfl) ?_
          refine lN ?_
          refine gS O O O ?_
          refine fl_st4 rfl rfl (repS P3) ?_
          refine lN ?_
          refine fg_nil ?_
          refine fx_eseq ?_
          refine rd_q (z:=z86) rfl rfl (List.Sublist.refl _) ?_
          exact ⟨_,rfl,Rb,⟨0,s.sold,s.left,s.rel++[((y,g.py.toNat),s.left)]⟩,a0,a1,a4,a5,c86,d86,rfl,st_na hsE hc62 (hmb.trans hc77),TB.nx hR2 (zd_mono zI) (by rw [List.length_append,List.length_singleton];omega),eR2,k0.m,k1.m,k4.m,k5.m,(hm86.mono zd_le),(hn86.mono zd_le),hls.mono (by rw [List.length_append,List.length_singleton];omega),lq_zero.mono (by rw [List.length_append,List.length_singleton];omega)⟩
        · skip
          refine R4 8 O ?_
          refine fl_ldA1 rfl (at0p ((hzff3.trans (hz15.trans (hz16.trans (hz17.trans (hz23.trans (hzi.trans (hz50.trans (hzff54.trans (hz55.trans (hz58.trans hz5)))))))))) _ _ f2)) ?_
          refine R1 4 O ?_
          refine fl_ld4 rfl Y4 rfl ?_
          obtain ⟨⟨cR1,rcs,rl⟩,hdR,hrR,_⟩:=hR1.at (y:=y) hyl
          obtain ⟨hcl,w0,w1,hw0,hq0,hq1⟩:=hR1.cell hdR hrR (e:=pa) (by omega)
          have hrn:rl.length=entsN ms:=by rw [show rl=_ from hrR];exact rowE_len
          have heR:hs[y * 6+1]? = some cR1:=hd_R eh el eR1 hdR
          refine fl_outR (p:=[_,_]) rfl hdR ?_
          refine fl_fr1 rfl ?_
          refine fl_fr2 rfl ?_
          refine fl_fr2 rfl ?_
          refine fl_callLZ z5 [.row (.c cR1) 35 4 rl.length rcs,.blk bo (.cells 87 hs),.blk br (.cells 192 [.sl bo 0 ms.length 6,cI,cM,cN,Ci (pa:Nat),.mp bm])] (FCt.agr (agr_noY _) (c_releaseI (by omega) rfl heR hyl (by omega) (by rw [hrn];exact hcl) hw0 (hq0.mono zd_le) (hq1.mono zd_le) k4 k5 ((hR1.2.2 _ _).mono (by omega)) (hll.mono (by omega)))) rfl rfl rfl fun v84 z84 H84 hz84 ⟨hv84,bd1,ra,rb,hcd,hH84,hra,hrb⟩=>?_
          subst hv84 hcd hH84
          have hra:=hra.mono (zAq (hz0.trans (hzff2.trans (hzff3.trans (hz15.trans (hz16.trans (hz17.trans (hz23.trans (hzi.trans (hz50.trans (hzff54.trans (hz55.trans (hz58.trans hz5)))))))))))))
          have hrb:=hrb.mono (zAq (hz0.trans (hzff2.trans (hzff3.trans (hz15.trans (hz16.trans (hz17.trans (hz23.trans (hzi.trans (hz50.trans (hzff54.trans (hz55.trans (hz58.trans hz5)))))))))))))
          refine fl_putT (p:=[_,_]) hR1 hdR hrR rfl (by omega) hyl rfl (zd_mono zI) (hra) (hrb) hll fun Rb hR2 eR20=>?_
          have eR2:=eR20.trans eR1
          refine fl_fr1 rfl ?_
          refine lN ?_
          refine fx_ss ?_
          refine fx_drwS ?_
          refine gl4 O O (.inr Y4) O ?_
          refine gC z84 (FC.agr (agr_noY _) (c_rat_Whole (by omega) (by decide) (by decide))) O O O O fun v86 z86 hz86 hv86=>?_
          have hv86:=qv_op hv86
          obtain ⟨c86,d86,hv,hm86,hn86⟩:=hv86
          subst hv
          have hm86:=hm86.mono (zAq (hz0.trans (hzff2.trans (hzff3.trans (hz15.trans (hz16.trans (hz17.trans (hz23.trans (hzi.trans (hz50.trans (hzff54.trans (hz55.trans (hz58.trans (hz5.trans hz84))))))))))))))
          have hn86:=hn86.mono (zAq (hz0.trans (hzff2.trans (hzff3.trans (hz15.trans (hz16.trans (hz17.trans (hz23.trans (hzi.trans (hz50.trans (hzff54.trans (hz55.trans (hz58.trans (hz5.trans hz84))))))))))))))
          refine G1 2 O ?_
          refine gS O O O ?_
          refine fl_stE (cs':=[Cs g.id,Cb (decide ((dfr ms g).num<0)),cD,Cb (decide (((dfr ms g).den:Int)<0)),dD,Cb (decide (s.sold.num<0)),a0,Cb (decide ((s.sold.den:Int)<0)),a1,Cb (decide (s.left.num<0)),a4,Cb (decide ((s.left.den:Int)<0)),a5,Cb false,Cz,Cb false,Cz]) rfl rfl rfl P3 rfl rfl (Nat.le_of_ble_eq_true rfl) ?_
          refine lN ?_
          refine gS O O O ?_
          refine fl_st4 rfl rfl (repS P3) ?_
          refine lN ?_
          refine fg_nil ?_
          refine fx_eseq ?_
          refine rd_q (z:=z86) rfl rfl (List.Sublist.refl _) ?_
          exact ⟨_,rfl,Rb,⟨0,s.sold,s.left,s.rel++[((y,pa),s.left)]⟩,a0,a1,a4,a5,c86,d86,rfl,st_nb hsE hc62 (hmb.trans hc77),TB.nx hR2 (zd_mono zI) (by rw [List.length_append,List.length_singleton];omega),eR2,k0.m,k1.m,k4.m,k5.m,(hm86.mono zd_le),(hn86.mono zd_le),hls.mono (by rw [List.length_append,List.length_singleton];omega),lq_zero.mono (by rw [List.length_append,List.length_singleton];omega)⟩
      · skip
        refine fx_kseq ?_
        refine fx_drwS ?_
        refine fg_ldA (i:=⟨_,_,.load _ _ _⟩) (off:=0) rfl rfl trivial rfl (at0p f2) (fun _ _ h=>.inl ((hzff3.trans (hz15.trans (hz16.trans (hz17.trans (hz23.trans (hzi.trans (hz50.trans (hzff54.trans (hz55.trans (hz58.trans hz5)))))))))) _ _ h)) rfl (by simp) rfl sR ?_
        refine gP rfl rfl trivial ?_
        refine fl_nilck rfl (lN ?_)
        refine G1 2 O ?_
        refine gl1 O O Ht O ?_
        refine G1 2 O ?_
        refine fg_ldA (i:=⟨_,_,.load _ _ _⟩) (off:=0) rfl rfl trivial rfl (at0p f3) (fun _ _ h=>.inl ((hz15.trans (hz16.trans (hz17.trans (hz23.trans (hzi.trans (hz50.trans (hzff54.trans (hz55.trans (hz58.trans hz5))))))))) _ _ h)) rfl (by simp) rfl sR ?_
        obtain ⟨rf,hf,hv⟩:=findG g.id F
        refine fg_lookZ (i:=⟨_,_,.look _ _ _ _ _ _⟩) rfl rfl trivial rfl rfl rfl rfl ((hzff2.trans (hzff3.trans (hz15.trans (hz16.trans (hz17.trans (hz23.trans (hzi.trans (hz50.trans (hzff54.trans (hz55.trans (hz58.trans hz5))))))))))) _ _ hmp) hf hv ?_
        refine gP rfl rfl trivial ?_
        refine fl_lenS rfl hsz (lN ?_)
        refine G0 2 O ?_
        refine fx_block ?_
        refine fx_loop (fun n fs=>∃ (jj:Nat) (Rc:List (Ro Rat)) (s3:GSt) (f0:C) (f1:C) (f4:C) (f5:C) (zy:Mem),LZ z5 zy [.blk br (.cells 192 [.sl bo 0 ms.length 6,cI,cM,cN,Ci (pa:Nat),.mp bm]),.blk bo (.cells 87 hs),many (Rc.map (rowT 35 4)),.blk b4 (.cells 93 [Cs g.id,Cb (decide ((dfr ms g).num<0)),cD,Cb (decide (((dfr ms g).den:Int)<0)),dD,Cb (decide (s3.sold.num<0)),f0,Cb (decide ((s3.sold.den:Int)<0)),f1,Cb (decide (s3.lft.num<0)),a2,Cb (decide ((s3.lft.den:Int)<0)),a3,Cb false,Cz,Cb false,Cz]),.blk b6 (.cells 35 [Cb (decide (s3.left.num<0)),f4,Cb (decide ((s3.left.den:Int)<0)),f5])] [(2,Ap b2),(3,Ap b3),(4,Ap b4),(6,Ap b6),(7,Az y),(94,.c (uOg F (tx g.id))),(95,Az ((salesOf sales g.id).length)),(96,Az jj)] fs∧n=(salesOf sales g.id).length - jj∧(jj≤(salesOf sales g.id).length)∧(s3=((salesOf sales g.id).take jj).foldl (stepS g (dfr ms g) y) s)∧(TB (zd z0 zy) Rc (lr++s3.rel) ms.length (entsN ms) (w+1500 * L1.length+13 * jj))∧(Rc.map (·.1)=BB)∧(CZ 1 RW zy f0 (toL s3.sold.num.natAbs))∧(CZ 1 RW zy f1 (toL (s3.sold.den:Int).natAbs))∧(CZ 1 RW zy a2 (toL s3.lft.num.natAbs))∧(CZ 1 RW zy a3 (toL (s3.lft.den:Int).natAbs))∧(CZ 1 RW zy f4 (toL s3.left.num.natAbs))∧(CZ 1 RW zy f5 (toL (s3.left.den:Int).natAbs))∧(LQ (8+160 * L1.length+13 * jj) s3.sold)∧(LQ (8+160 * L1.length+13 * jj) s3.left)) ?_ _ ⟨0,Ra,s,a0,a1,a4,a5,_,LZ.m [] O,rfl,Nat.zero_le _,rfl,hR1,eR1,k0,k1,k2,k3,k4,k5,hls,hll⟩ (kK (by omega))
        intro n fs ⟨jj,Rc,s3,f0,f1,f4,f5,zy,hL0,hmz0,hjj,hs3,hR3,eR3,k6,k7,k8,k9,kA,kB,hls3,hll3⟩
        refine hL0.open fun e hzy=>?_
        refine R5 8 O ?_
        refine xD rfl (fun hc97=>?_) (fun hc97=>?_)
        · skip
          refine fx_kseq ?_
          refine fx_seq (fx_block ?_)
          refine xR ?_
          obtain ⟨x,hx⟩:=at_lt (l:=salesOf sales g.id) (i:=jj) (by omega)
          obtain ⟨hx3,hx4⟩:=hss x (sO_sub (List.mem_of_getElem? hx))
          refine fl_iadS rfl rfl hsz jj rfl x hx fun b98 p98 cs at98 hR=>?_
          obtain ⟨u0,u1,hcs,r0,r1⟩:=hR
          subst hcs
          refine fl_ldA (off:=0) rfl (at98.mono (hzff2.trans (hzff3.trans (hz15.trans (hz16.trans (hz17.trans (hz23.trans (hzi.trans (hz50.trans (hzff54.trans (hz55.trans (hz58.trans (hz5.trans zI))))))))))))) rfl (by simp) rfl ?_
          refine fl_alloc fun b11=>?_
          refine fl_stAll rfl rfl rfl rfl rep0 ?_
          refine lN ?_
          refine R4 4 O ?_
          refine fl_ld1 rfl mem0 rfl ?_
          refine R0 4 O ?_
          refine xD rfl (fun hc103=>?_) (fun hc103=>?_)
          · skip
            refine R4 4 O ?_
            refine fl_ld4 rfl Y4 rfl ?_
            refine lF rfl ?_
            refine fl_ld4 rfl mem0 rfl ?_
            refine lZ zy (FC.agr (agr_noY _) (c_rat_Mul (by omega) (hcD.mono (hz50.trans (hzff54.trans (hz55.trans (hz58.trans (hz5.trans zI)))))) (hdD.mono (hz50.trans (hzff54.trans (hz55.trans (hz58.trans (hz5.trans zI)))))) (Nat.le_trans hDl.1 (by omega)) (Nat.le_trans hDl.2 (by omega)) (r0.mono (hzff2.trans (hzff3.trans (hz15.trans (hz16.trans (hz17.trans (hz23.trans (hzi.trans (hz50.trans (hzff54.trans (hz55.trans (hz58.trans (hz5.trans zI))))))))))))) (r1.mono (hzff2.trans (hzff3.trans (hz15.trans (hz16.trans (hz17.trans (hz23.trans (hzi.trans (hz50.trans (hzff54.trans (hz55.trans (hz58.trans (hz5.trans zI))))))))))))) (by omega) (by omega))) rfl rfl fun v108 z108 hz108 hv108=>?_
            rw [valR_c] at hv108
            have hv108:=qv_op hv108
            obtain ⟨c108,d108,hv,hm108,hn108⟩:=hv108
            subst hv
            have hm108:=hm108.mono (zAq (hz0.trans (hzff2.trans (hzff3.trans (hz15.trans (hz16.trans (hz17.trans (hz23.trans (hzi.trans (hz50.trans (hzff54.trans (hz55.trans (hz58.trans (hz5.trans hzy))))))))))))))
            have hn108:=hn108.mono (zAq (hz0.trans (hzff2.trans (hzff3.trans (hz15.trans (hz16.trans (hz17.trans (hz23.trans (hzi.trans (hz50.trans (hzff54.trans (hz55.trans (hz58.trans (hz5.trans hzy))))))))))))))
            have hN:LQ 12 (dfr ms g * rv x.sh):=hDl.mul (lq_rv hx3 hx4)
            refine fl_al4 fun b12=>?_
            refine fl_st4 rfl rfl rep0 ?_
            refine lN ?_
            refine xR ?_
            refine fl_ldA1 rfl (at0p ((hzff3.trans (hz15.trans (hz16.trans (hz17.trans (hz23.trans (hzi.trans (hz50.trans (hzff54.trans (hz55.trans (hz58.trans (hz5.trans zI))))))))))) _ _ f2)) ?_
            refine R1 4 O ?_
            refine fl_ldA (off:=2) rfl (at0p ((hz15.trans (hz16.trans (hz17.trans (hz23.trans (hzi.trans (hz50.trans (hzff54.trans (hz55.trans (hz58.trans (hz5.trans zI)))))))))) _ _ f3)) rfl (by simp) rfl ?_
            refine fl_ld4 rfl mem0 rfl ?_
            obtain ⟨⟨cR1,rcs,rl⟩,hdR,hrR,_⟩:=hR3.at (y:=y) hyl
            obtain ⟨hcl,w0,w1,hw0,hq0,hq1⟩:=hR3.cell hdR hrR (e:=g.py.toNat) (by omega)
            have hrn:rl.length=entsN ms:=by rw [show rl=_ from hrR];exact rowE_len
            have heR:hs[y * 6+1]? = some cR1:=hd_R eh el eR3 hdR
            refine fl_outR (p:=[_,_,_,_]) rfl hdR ?_
            refine fl_fr3 rfl ?_
            refine fl_fr4 rfl ?_
            refine fl_fr2 rfl ?_
            refine fl_callLZ z108 [.row (.c cR1) 35 4 rl.length rcs,.blk bo (.cells 87 hs),.blk br (.cells 192 [.sl bo 0 ms.length 6,cI,cM,cN,Ci (pa:Nat),.mp bm])] (FCt.agr (agr_noY _) (c_releaseI (by omega) (show g.py=((g.py.toNat:Nat):Int) by omega) heR hyl (by omega) (by rw [hrn];exact hcl) hw0 hq0.m hq1.m (hm108.mono zd_le) (hn108.mono zd_le) ((hR3.2.2 _ _).mono (by omega)) (hN.mono (by omega)))) rfl rfl rfl fun v114 z114 H114 hz114 ⟨hv114,bd1,ra,rb,hcd,hH114,hra,hrb⟩=>?_
            subst hv114 hcd hH114
            have hra:=hra.mono (zAq (hz0.trans (hzff2.trans (hzff3.trans (hz15.trans (hz16.trans (hz17.trans (hz23.trans (hzi.trans (hz50.trans (hzff54.trans (hz55.trans (hz58.trans (hz5.trans (hzy.trans hz108)))))))))))))))
            have hrb:=hrb.mono (zAq (hz0.trans (hzff2.trans (hzff3.trans (hz15.trans (hz16.trans (hz17.trans (hz23.trans (hzi.trans (hz50.trans (hzff54.trans (hz55.trans (hz58.trans (hz5.trans (hzy.trans hz108)))))))))))))))
            refine fl_putT (p:=[_,_,_,_]) hR3 hdR hrR rfl (by omega) hyl rfl (zd_mono zI) (hra) (hrb) hN fun Rd hR4 eR40=>?_
            have eR4:=eR40.trans eR3
            refine fl_fr1 rfl ?_
            refine fl_fr3 rfl ?_
            refine fl_fr3 rfl ?_
            refine lN ?_
            refine fx_drw ?_
            refine G1 2 O ?_
            refine gl4 O O (.inr (memS Y4)) O ?_
            refine gl4 O O Ht O ?_
            refine gC z114 (FC.agr (agr_noY _) (c_rat_Add (by omega) k6.m k7.m (Nat.le_trans hls3.1 (by omega)) (Nat.le_trans hls3.2 (by omega)) hm108.m hn108.m (Nat.le_trans hN.1 (by omega)) (Nat.le_trans hN.2 (by omega)))) O O O O fun v118 z118 hz118 hv118=>?_
            simp only [valR_c] at hv118
            obtain ⟨c118,d118,hv,hm118,hn118⟩:=hv118
            subst hv
            have hm118:=hm118.mono (zAq (hz0.trans (hzff2.trans (hzff3.trans (hz15.trans (hz16.trans (hz17.trans (hz23.trans (hzi.trans (hz50.trans (hzff54.trans (hz55.trans (hz58.trans (hz5.trans (hzy.trans (hz108.trans hz114))))))))))))))))
            have hn118:=hn118.mono (zAq (hz0.trans (hzff2.trans (hzff3.trans (hz15.trans (hz16.trans (hz17.trans (hz23.trans (hzi.trans (hz50.trans (hzff54.trans (hz55.trans (hz58.trans (hz5.trans (hzy.trans (hz108.trans hz114))))))))))))))))
            refine gl4 O O (.inr (memS (memS Y4))) O ?_
            refine gl4 O O Ht O ?_
            refine gC z118 (FC.agr (agr_noY _) (c_rat_Sub (by omega) kA.m kB.m (Nat.le_trans hll3.1 (by omega)) (Nat.le_trans hll3.2 (by omega)) hm108.m hn108.m (Nat.le_trans hN.1 (by omega)) (Nat.le_trans hN.2 (by omega)))) O O O O fun v121 z121 _ hv121=>?_
            simp only [valR_c] at hv121
            obtain ⟨c121,d121,hv,hm121,hn121⟩:=hv121
            subst hv
            have hm121:=hm121.mono (zAq (hz0.trans (hzff2.trans (hzff3.trans (hz15.trans (hz16.trans (hz17.trans (hz23.trans (hzi.trans (hz50.trans (hzff54.trans (hz55.trans (hz58.trans (hz5.trans (hzy.trans (hz108.trans (hz114.trans hz118)))))))))))))))))
            have hn121:=hn121.mono (zAq (hz0.trans (hzff2.trans (hzff3.trans (hz15.trans (hz16.trans (hz17.trans (hz23.trans (hzi.trans (hz50.trans (hzff54.trans (hz55.trans (hz58.trans (hz5.trans (hzy.trans (hz108.trans (hz114.trans hz118)))))))))))))))))
            refine G1 2 O ?_
            refine gS O O O ?_
            refine fl_stE (cs':=[Cs g.id,Cb (decide ((dfr ms g).num<0)),cD,Cb (decide (((dfr ms g).den:Int)<0)),dD,Cb (decide ((s3.sold+dfr ms g * rv x.sh).num<0)),c118,Cb (decide (((s3.sold+dfr ms g * rv x.sh).den:Int)<0)),d118,Cb (decide (s3.lft.num<0)),a2,Cb (decide ((s3.lft.den:Int)<0)),a3,Cb false,Cz,Cb false,Cz]) rfl rfl rfl (repS (repS P3)) rfl rfl (Nat.le_of_ble_eq_true rfl) ?_
            refine lN ?_
            refine gS O O O ?_
            refine fl_st4 rfl rfl (repS (repS (repS P3))) ?_
            refine lN ?_
            refine fg_nil ?_
            refine sq_n ?_
            refine xG ?_
            refine lB rfl rfl (bI_add (n:=jj+1) (by omega) (by omega)) ?_
            refine R0 2 O ?_
            exact lq_n (by omega) ⟨jj+1,Rd,⟨s3.left - dfr ms g * rv x.sh,s3.sold+dfr ms g * rv x.sh,s3.lft,s3.rel++[((y,g.py.toNat),dfr ms g * rv x.sh)]⟩,c118,d118,c121,d121,_,LZ.m [_,_] O,rfl,by omega,by rw [tk_some hx,List.foldl_append,← hs3];exact (stepS_y hc103).symm,TB.nx hR4 (zd_mono zI) (by omega),eR4,hm118.m,hn118.m,k8.m,k9.m,(hm121.mono zd_le),(hn121.mono zd_le),(hls3.add hN).mono (by omega),(hll3.sub hN).mono (by omega)⟩
          · skip
            refine fx_skip ?_
            refine sq_n ?_
            refine xG ?_
            refine lB rfl rfl (bI_add (n:=jj+1) (by omega) (by omega)) ?_
            refine R0 2 O ?_
            exact lq_n (by omega) ⟨jj+1,Rc,s3,f0,f1,f4,f5,_,LZ.m [_] O,rfl,by omega,by rw [tk_some hx,List.foldl_append,← hs3];exact (stepS_n hc103).symm,TB.wd (by exact hR3) (by omega),eR3,k6,k7,k8,k9,kA,kB,hls3.mono (by omega),hll3.mono (by omega)⟩
        · skip
          refine fx_eseq ?_
          refine lq_e ?_
          rw [List.take_of_length_le (by omega)] at hs3
          refine rd_q (z:=zy) rfl rfl (List.Sublist.refl _) ?_
          exact ⟨_,rfl,Rc,s3,f0,f1,a2,a3,f4,f5,rfl,st_y hsE hc62 hs3,TB.wd (by exact hR3) (by rw [List.length_append,List.length_singleton];omega),eR3,k6,k7,k8,k9,kA,kB,hls3.mono (by rw [List.length_append,List.length_singleton];omega),hll3.mono (by rw [List.length_append,List.length_singleton];omega)⟩
    obtain ⟨Hq,rfl,hj⟩:=hJ40
    obtain ⟨Rb,s,a0,a1,a2,a3,a4,a5,rfl,hsE,hR2,eR2,k0,k1,k2,k3,k4,k5,hls,hll⟩:=hj
    refine sq_n ?_
    refine xR ?_
    refine fl_ld4 rfl Y4 rfl ?_
    refine lF rfl ?_
    refine fl_stE (cs':=[Cs g.id,Cb (decide ((dfr ms g).num<0)),cD,Cb (decide (((dfr ms g).den:Int)<0)),dD,Cb (decide (s.sold.num<0)),a0,Cb (decide ((s.sold.den:Int)<0)),a1,Cb (decide (s.lft.num<0)),a2,Cb (decide ((s.lft.den:Int)<0)),a3,Cb (decide (s.left.num<0)),a4,Cb (decide ((s.left.den:Int)<0)),a5]) rfl rfl rfl P3 rfl rfl (Nat.le_of_ble_eq_true rfl) ?_
    refine fl_fr6 rfl ?_
    refine fl_fr3 rfl ?_
    refine fl_fr6 rfl ?_
    refine fl_fr4 rfl ?_
    refine fl_fr4 rfl ?_
    refine lN ?_
    refine fx_drw ?_
    refine fg_ldA (i:=⟨_,_,.load _ _ _⟩) (off:=0) rfl rfl trivial rfl (at0p f2) (fun _ _ h=>.inl ((hzff3.trans (hz15.trans (hz16.trans (hz17.trans (hz23.trans (hzi.trans (hz50.trans (hzff54.trans (hz55.trans (hz58.trans hz40)))))))))) _ _ h)) rfl (by simp) rfl sR ?_
    refine fg_ldA (i:=⟨_,_,.load _ _ _⟩) (off:=0) rfl rfl trivial rfl (at0p f2) (fun _ _ h=>.inl ((hzff3.trans (hz15.trans (hz16.trans (hz17.trans (hz23.trans (hzi.trans (hz50.trans (hzff54.trans (hz55.trans (hz58.trans hz40)))))))))) _ _ h)) rfl (by simp) rfl sR ?_
    refine gP rfl rfl trivial ?_
    refine fl_nilck rfl (lN ?_)
    refine G1 4 O ?_
    refine gl1 O O Ht O ?_
    refine fg_ldAll (i:=⟨_,_,.load _ _ _⟩) rfl rfl trivial rfl (.inr (memS Y4)) rfl sR ?_
    refine fg_own (k:=.cells 93 [Cs g.id,Cb (decide ((dfr ms g).num<0)),cD,Cb (decide (((dfr ms g).den:Int)<0)),dD,Cb (decide (s.sold.num<0)),a0,Cb (decide ((s.sold.den:Int)<0)),a1,Cb (decide (s.lft.num<0)),a2,Cb (decide ((s.lft.den:Int)<0)),a3,Cb (decide (s.left.num<0)),a4,Cb (decide ((s.left.den:Int)<0)),a5]) (w:=fun b=>.c (.sl b 0 1 17)) rfl trivial rfl (fun _=>rfl) (fun st hst=>?_) (fun b133 hT133=>?_)
    · simp only [stepE,fillS,AS.ev,hst 132 (by simp [Ins.sl,Od.sls,Od.sl])];rfl
    refine fg_appM (i:=⟨_,_,.app _ _ _ _ _ _⟩) (u:=.c cI) (ty:=93) (ty':=93) (size:=17) (n:=i) (m:=0) (p:=[]) (q:=[]) (cs:=its) rfl rfl trivial rfl rfl (fun _ _ h=>h.imp (fun h=>h) memS) rfl rfl mem0 (fun _=>(repS (repS P3))) rfl (by omega) (by omega) fun c134 hc134=>?_
    refine gP rfl rfl trivial ?_
    refine fl_nilck rfl (lN ?_)
    refine G1 4 O ?_
    refine gS O O O ?_
    refine fl_stE (cs':=[.sl bo 0 ms.length 6,c134,cM,cN,Ci (pa:Nat),.mp bm]) rfl rfl rfl P1 rfl rfl (Nat.le_of_ble_eq_true rfl) ?_
    refine lN ?_
    refine fg_nil ?_
    refine ret_h (.inr rfl) rn (.cons _ (.cons_cons _ (.cons_cons _ (.cons_cons _ (.cons_cons _ (.cons_cons _ (.cons _ (.cons _ .slnil)))))))) ?_
    exact ⟨rfl,T1,Rb,c134,_,rfl,(hT1.mono (zd_mono (hzff54.trans (hz55.trans (hz58.trans hz40))))),TB.wd (by rw [goodR_g,← hsE];exact hR2) (by have:=yrs_len ms g (ms.length - (g.yr.toNat+1)) (g.yr.toNat+1);omega),eT1.trans eT,eR2,((hI.mono (hzff2.trans (hzff3.trans (hz15.trans (hz16.trans (hz17.trans (hz23.trans (hzi.trans (hz50.trans (hzff54.trans (hz55.trans (hz58.trans hz40))))))))))))).append (CL.one rfl ⟨cD,dD,a0,a1,a2,a3,a4,a5,by rw [itemOf,goodR_g,← hsE],(hcD.mono (hz50.trans (hzff54.trans (hz55.trans (hz58.trans hz40))))),(hdD.mono (hz50.trans (hzff54.trans (hz55.trans (hz58.trans hz40))))),by rw [itemOf,goodR_g,← hsE];exact k0,by rw [itemOf,goodR_g,← hsE];exact k1,by rw [itemOf,goodR_g,← hsE];exact k2,by rw [itemOf,goodR_g,← hsE];exact k3,by rw [itemOf,goodR_g,← hsE];exact k4,by rw [itemOf,goodR_g,← hsE];exact k5⟩)⟩
end Go.Proofs.YtlceligcgelbdaaGreat
