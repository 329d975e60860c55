/- The reference's ledger, walked. -/
import Derived.WalkKit
import Derived.Orders
import Derived.Test.YtlceligcgelbdaaGreatJF8
set_option linter.unusedVariables false
set_option linter.unusedSimpArgs false
set_option maxRecDepth 100000
set_option maxHeartbeats 1000000
namespace Go.Proofs.YtlceligcgelbdaaGreat
open Go.CE Go.RowKit Go.Num
open Go.Eng (setL)
open Go.Eng (setL)
def rowsX (ms:List (List Bool)) (pi:Int) (goods:List PGood) (sales:List PSale) (e:Int):List PRow:=if e=0 then rowsK (takenL ms goods) (relL ms pi.toNat goods sales) ms.length (entsN ms) ms.length else []
def itemsX (ms:List (List Bool)) (pi:Int) (goods:List PGood) (sales:List PSale) (e:Int):List PItem:=if e=0 then goods.map (itemOf ms pi.toNat sales) else []
theorem errq_0 {ms:List (List Bool)} {pi:Int} {goods:List PGood} {sales:List PSale} {e:Int} (h:ErrQ ms pi goods sales e) (he:e=0):RightG ms pi goods sales∧SoldG ms goods sales:=by
 rcases h with ⟨_,h⟩ | ⟨h,_⟩ | ⟨h,_⟩
 ·exact h
 ·omega
 omega
def HDq (hs A B:List C):Prop:=A.length=B.length∧hs.length=A.length * 6∧∀ (y:Nat) (a b:C),A[y]? = some a→B[y]? = some b→hs[y * 6]? = some a∧hs[y * 6+1]? = some b
theorem HDq.nil:HDq [] ([]:List C) []:=⟨rfl,rfl,fun y a b h=>by simp at h⟩
section
variable {hs A B:List C} {a b u v w x:C} {T R:List (Ro Rat)} {d:Ro Rat} {y:Nat}
theorem HDq.snoc (h:HDq hs A B):HDq (hs++[a,b,u,v,w,x]) (A++[a]) (B++[b]):=by
 obtain ⟨h1,h2,h3⟩:=h
 refine ⟨by simp [h1],by simp [h2];omega,fun y c d hc hd=>?_⟩
 rcases Nat.lt_or_ge y A.length with hy | hy
 ·rw [List.getElem?_append_left hy] at hc
  rw [List.getElem?_append_left (by omega)] at hd
  obtain ⟨g1,g2⟩:=h3 y c d hc hd
  exact ⟨by rw [List.getElem?_append_left (by omega)];exact g1,by rw [List.getElem?_append_left (by omega)];exact g2⟩
 have hyl:=(List.getElem?_eq_some_iff.1 hc).1
 simp at hyl
 obtain rfl:y=A.length:=by omega
 rw [List.getElem?_append_right (Nat.le_refl _),Nat.sub_self] at hc
 rw [h1,List.getElem?_append_right (Nat.le_refl _),Nat.sub_self] at hd
 injection hc with hc
 injection hd with hd
 subst hc hd
 exact ⟨by rw [List.getElem?_append_right (by omega),show A.length * 6 - hs.length=0 by omega];rfl,by rw [List.getElem?_append_right (by omega),show A.length * 6+1 - hs.length=1 by omega];rfl⟩
theorem HDq.tt (h:HDq hs A B) (e:T.map (·.1)=A) (hd:T[y]? = some d):hs[y * 6]? = some d.1:=by
 have ha:A[y]? = some d.1:=by rw [← e,List.getElem?_map,hd];rfl
 obtain ⟨b,hb⟩:=at_lt (l:=B) (i:=y) (by rw [← h.1];exact (List.getElem?_eq_some_iff.1 ha).1)
 exact (h.2.2 y _ b ha hb).1
theorem HDq.rr (h:HDq hs A B) (e:R.map (·.1)=B) (hd:R[y]? = some d):hs[y * 6+1]? = some d.1:=by
 have hb:B[y]? = some d.1:=by rw [← e,List.getElem?_map,hd];rfl
 obtain ⟨a,ha⟩:=at_lt (l:=A) (i:=y) (by rw [h.1];exact (List.getElem?_eq_some_iff.1 hb).1)
 exact (h.2.2 y a _ ha hb).2
end
theorem setL_at1 {l:List C} {i:Nat} {c:C} (h:l[i]? = some c):setL l i [c]=l:=by
 obtain ⟨h1,h2⟩:=List.getElem?_eq_some_iff.1 h
 rw [Go.Eng.setL_def]
 show l.take i++[c]++l.drop (i+1)=l
 rw [← h2,List.append_assoc]
 show l.take i++(l[i]::l.drop (i+1))=l
 rw [← List.drop_eq_getElem_cons h1,List.take_append_drop]
theorem TB.zero {z:Mem} {R:List (Ro Rat)} {l:List Ent} {Y m w v y e:Nat} {x:Rat} (h:TB z R l Y m w) (hx:x=0) (hw:w≤v):TB z R (l++[((y,e),x)]) Y m v:=by
 have e1:∀ y' e',atE (l++[((y,e),x)]) y' e'=atE l y' e':=fun y' e'=>by
  rw [atE_app,atE_one,hx]
  split<;>rw [Rat.add_zero]
 refine ⟨h.1,?_,fun y' e'=>by rw [e1];exact (h.2.2 y' e').mono hw⟩
 rw [h.2.1]
 refine List.map_congr_left fun y' _=>?_
 exact List.map_congr_left fun e' _=>(e1 y' e').symm
section
variable {ms:List (List Bool)} {g:PGood} {y pa:Nat} {a b:Bool} {ss sales:List PSale} {L:List Nat} {s:GSt} {e kk:Nat} {x:PSale} {id:ByteArray}
theorem qv_dfr {z:Mem} {v:AV} (h:bothM ms g g.yr.toNat=true) (hv:QV z v (rv g.mg * rv g.us)):QV z v (dfr ms g):=by rw [← dfr_y h];exact hv
theorem bo_t (h1:mb ms y g.py.toNat=a) (h2:mb ms y g.pr.toNat=b) (h:a=true):b=bothM ms g y:=by rw [bothM,h1,h2,h];rfl
theorem bo_f (h1:mb ms y g.py.toNat=a) (h:a=false):false=bothM ms g y:=by rw [bothM,h1,h];rfl
theorem nb_a (h1:mb ms y g.py.toNat=a) (h:(!a)=true):true = !bothM ms g y:=by rw [bothM,h1,nbB h];rfl
theorem nb_b (h1:mb ms y g.py.toNat=a) (h2:mb ms y g.pr.toNat=b) (h:(!a)=false):(!b) = !bothM ms g y:=by rw [bothM,h1,h2,not_c h];rfl
theorem st_n (hs:s=gst ms pa g ss L) (hb:bothM ms g y=false) (h:e=if mb ms y g.py.toNat=true then g.py.toNat else pa):(⟨0,s.sold,s.left,s.rel++[((y,e),s.left)]⟩:GSt)=gst ms pa g ss (L++[y]):=by
 rw [gst_app,← hs,stepY,if_neg (by rw [hb];exact Bool.false_ne_true),← h]
theorem so_ty (hx:sales[kk]? = some x) (h:x.id=id):salesOf (sales.take (kk+1)) id=salesOf (sales.take kk) id++[x]:=by
 rw [tk_some hx,salesOf,List.filter_append,List.filter_cons_of_pos (by simpa using h)]
 rfl
theorem so_tn (hx:sales[kk]? = some x) (h:¬ x.id=id):salesOf (sales.take (kk+1)) id=salesOf (sales.take kk) id:=by
 rw [tk_some hx,salesOf,List.filter_append,List.filter_cons_of_neg (by simpa using h)]
 simp [salesOf]
end
theorem fl_putTq {call:Call'} {Bs:Base} {fs:Sf} {L:List I} {Q:Sf→Prop} {z z':Mem} {R:List (Ro Rat)} {l:List Ent} {ty Y m w v y e n bd:Nat} {cs:List C} {l':List Rat} {x:Rat} {a b:C} {p q:List HA} (hT:TB z R l Y m w) (hd:R[y]? = some (.sl bd 0 n 4,cs,l')) (hr:l'=rowE l y m) (hn:l'.length=n) (he:e<m) (hy:y<Y)
  (E:fs.H=.blk bd (.cells ty (setL cs (e * 4) [Cb (decide ((atE l y e+x).num<0)),a,Cb (decide (((atE l y e+x).den:Int)<0)),b]))::(p++many ((R.eraseIdx y).map (rowT ty 4))::q)) (hz:zle z z') (ha:CZ 1 RW z' a (toL (atE l y e+x).num.natAbs)) (hb:CZ 1 RW z' b (toL ((atE l y e+x).den:Int).natAbs)) (hx:LQ v x)
  (hw:∀ R1,TB z' R1 (l++[((y,e),x)]) Y m (w+v+1)→R1.map (·.1)=R.map (·.1)→FL call Bs L (fs.heap (p++many (R1.map (rowT ty 4))::q)) Q):FL call Bs L fs Q:=by
 have h1:=(hT.cell hd hr he).1
 have hnm:n=m:=by rw [← hn,hr,rowE_len]
 subst hnm
 refine fl_asrow (p:=[]) (n:=n) (size:=4) E (setL_l he h1) ?_
 refine fl_backR (R:=R) (y:=y) (ty:=ty) (size:=4) (p:=p) (q:=q) (.sl bd 0 n 4,setL cs (e * 4) [Cb (decide ((atE l y e+x).num<0)),a,Cb (decide (((atE l y e+x).den:Int)<0)),b],l'.set e (atE l y e+x)) (by simp [rowT,Sf.heap,hn]) (by rw [hT.len];exact hy) ?_
 exact hw _ (hT.rel hz hy hd hr he ha hb hx) (fst_set hd rfl)
def RB2 (z:Mem) (e:List C):Option Rat→Prop
 | none=>e.length=4
 | some q=>RV z e q
theorem RB2.mono {z z':Mem} {e:List C}:∀ {o:Option Rat},RB2 z e o→zle z z'→RB2 z' e o
 | none,h,_=>h
 | some _,h,hz=>RMono.mono (R:=RV) hz h
theorem RB2.len {z:Mem} {e:List C}:∀ {o:Option Rat},RB2 z e o→e.length=4
 | none,h=>h
 | some _,⟨_,_,h,_⟩=>by rw [h];rfl
def RLRow2:RT PRow:=fun z cs a=>∃ c d e,cs=c::d::e∧CZ 4 RV z c a.1.1∧CZ 4 RV z d a.1.2∧RB2 z e a.2
instance:RMono RLRow2:=⟨fun hz ⟨c,d,e,h,g0,g1,g2⟩=>⟨c,d,e,h,g0.mono hz,g1.mono hz,g2.mono hz⟩⟩
section
variable {z z':Mem} {A B cs hs:List C} {a b c:C} {y Y m w v k:Nat} {T R:List (Ro Rat)} {tk rl:List Ent} {l r:List C} {q:Rat}
theorem drop_at1 {j:Nat} {c d:C} {r:List C} (h:(cs.drop j).take 6=c::d::r):cs[j+1]? = some d:=by
 have:=congrArg (fun l=>l[1]?) h
 simp only [List.getElem?_take,List.getElem?_drop] at this
 simpa using this
theorem cl_hd2 (hh:HDq hs A B) (eT:T.map (·.1)=A) (eR:R.map (·.1)=B) (hT:TB z T tk Y m w) (hR:TB z R rl Y m v) (gT:TZ z' T) (gR:TZ z' R):CL 6 RLRow2 z' hs (rowsK tk rl Y m 0):=by
 have hA:A.length=Y:=by rw [← eT,List.length_map,hT.len]
 refine ⟨by rw [hh.2.1,rowsK_len,hA],fun i a hi=>?_⟩
 have hlt:i<Y:=by
  have:=(List.getElem?_eq_some_iff.1 hi).1
  rwa [rowsK_len] at this
 rw [rowsK_get hlt] at hi
 injection hi with hi
 subst hi
 obtain ⟨d,hd,hdr,_⟩:=hT.at hlt
 obtain ⟨e,he,her,_⟩:=hR.at hlt
 have h1:=hh.tt eT hd
 have h2:=hh.rr eR he
 have hl:hs.length=Y * 6:=by rw [hh.2.1,hA]
 have e1:(hs.drop (i * 6)).take 6=d.1::e.1::(hs.drop (i * 6+2)).take 4:=by
  obtain ⟨g1,g2⟩:=List.getElem?_eq_some_iff.1 h1
  obtain ⟨g3,g4⟩:=List.getElem?_eq_some_iff.1 h2
  rw [List.drop_eq_getElem_cons g1,List.drop_eq_getElem_cons g3,g2,g4]
  rfl
 rw [e1]
 exact ⟨by simp;omega,d.1,e.1,_,rfl,by rw [← hdr];exact gT d (List.mem_of_getElem? hd),by rw [← her];exact gR e (List.mem_of_getElem? he),by show ((hs.drop (i * 6+2)).take 4).length=4;simp;omega⟩
theorem cl_row2 (h:CL 6 RLRow2 z cs (rowsK tk rl Y m k)) (hy:y<Y):∃ c d u0 u1 u2 u3,(cs.drop (y * 6)).take 6=[c,d,u0,u1,u2,u3]∧CZ 4 RV z c (rowE tk y m)∧CZ 4 RV z d (rowE rl y m):=by
 obtain ⟨h1,c,d,e,h2,h3,h4,h5⟩:=h.2 y _ (rowsK_get hy)
 have h6:=h5.len
 match e,h6 with
 | [u0,u1,u2,u3],_=>exact ⟨c,d,u0,u1,u2,u3,h2,h3,h4⟩
theorem cl_bal2 {c d:C} {u0 u1:C} (h:CL 6 RLRow2 z cs (rowsK tk rl Y m y)) (hy:y<Y) (hc:CZ 4 RV z c (rowE tk y m)) (hd:CZ 4 RV z d (rowE rl y m)) (hq:q=bals tk rl m (y+1)) (h0:CZ 1 RW z u0 (toL q.num.natAbs)) (h1:CZ 1 RW z u1 (toL (q.den:Int).natAbs)) :
  CL 6 RLRow2 z (setL cs (y * 6) [c,d,Cb (decide (q.num<0)),u0,Cb (decide ((q.den:Int)<0)),u1]) (rowsK tk rl Y m (y+1)):=by
 rw [← rowsK_set hy,← hq]
 exact cl_set h (by rw [rowsK_len];exact hy) rfl ⟨c,d,_,rfl,hc,hd,_,_,rfl,h0,h1⟩
theorem rl_all (h : CL 6 RLRow2 z cs (rowsK tk rl Y m Y)) : CL 6 RLRow z cs (rowsK tk rl Y m Y) := ⟨h.1, fun i a hi => by
  obtain ⟨h1,c,d,e,h2,h3,h4,h5⟩:=h.2 i a hi
  refine ⟨h1,c,d,e,h2,h3,h4,?_⟩
  have hlt:i<Y:=by
    have:=(List.getElem?_eq_some_iff.1 hi).1
    rwa [rowsK_len] at this
  rw [rowsK_get hlt,if_pos hlt] at hi
  injection hi with hi
  subst hi
  exact h5⟩
end
theorem c_ref22_Run {k:Nat} (hk:14≤k) {z:Mem} {cM:C} {pi:Int} {gv sv:AV} {ms:List (List Bool)} {goods:List PGood} {sales:List PSale} (hm:CZ 1 (RC 1 (RE Value.bool)) z cM ms) (hG:SZ 12 RGood z gv goods) (hS:SZ 6 RSale z sv sales) (hml:ms.length≤8) (hm8:∀ r,r∈ms→r.length≤8) (hgl:goods.length≤8) (hgs:∀ g,g∈goods→SG g) (hsl:sales.length≤12) (hss:∀ x,x∈sales→x.sh.nm.length≤3∧x.sh.dm.length≤3):FC (E k) 28 [.c cM,Ai pi,gv,sv] z fun u z'=>∃ (e:Int) (cR cI:C),u=.tup [.agg [cR,cI],int_ e]∧ErrQ ms pi goods sales e∧CZ 6 RLRow z' cR (rowsX ms pi goods sales e)∧CZ 17 RItem z' cI (itemsX ms pi goods sales e):=by
 refine fc_of (tS_get28) (by omega) (len1 rfl) fun B j hj=>?_
 refine xR ?_
 refine fl_al2 fun b8=>?_
 refine R2 4 O ?_
 refine fl_al2 fun b10=>?_
 refine lN ?_
 refine R4 56 O ?_
 refine lZ z (c_ref22_wrong (by omega) hm hG hS hgs hsl hss) rfl rfl fun v28 z28 hz28 ⟨e28,hv28,hEQ⟩=>?_
 subst hv28
 refine R3 73 O ?_
 refine fx_condN rfl (fun hc30=>?_) (fun hc30=>?_)
 ·refine R4 4 O ?_
  refine fl_ld2 rfl mem0 rfl ?_
  refine lM rfl ?_
  refine fl_st2 rfl rfl P1 ?_
  refine R0 3 O ?_
  refine fx_rseq ?_
  refine rQ (.inl rfl) (rc2 rfl Y1 (rt rfl rn)) ?_
  exact ⟨_,_,_,rfl,hEQ,by rw [rowsX,if_neg hc30];exact .nil,by rw [itemsX,if_neg hc30];exact .nil⟩
 refine R4 8 O ?_
 have hRS:=errq_0 hEQ hc30
 have hRG:=hRS.1
 have hSG:=hRS.2
 obtain ⟨hpos,hp0,hpe⟩:=ms_pos hRG.p
 obtain ⟨pa,rfl⟩:=Int.eq_ofNat_of_zero_le hp0
 have hpe:pa<entsN ms:=hpe
 have he8:=ents8 hm8
 refine lC rfl ?_
 refine fl_row0 184 6 ?_
 refine fl_many0 ?_
 refine fl_many0 ?_
 refine fl_fr1 rfl ?_
 refine fl_fr2 rfl ?_
 refine fl_fr3 rfl ?_
 refine lN ?_
 refine fx_seq (fx_block ?_)
 refine fx_loop (fun n fs=>∃ (i:Nat) (cu:C) (hs:List C) (Ta:List (Ro Rat)) (Ra0:List (Ro Rat)) (zz:Mem),LZ z28 zz [.blk b10 (.cells 67 [cu,Cz]),.row (.c cu) 184 6 i hs,many (Ta.map (rowT 51 4)),many (Ra0.map (rowT 51 4)),.blk b8 (.cells 67 [Cz,Cz])] [(0,.c cM),(1,Ai (pa:Nat)),(2,gv),(3,sv),(8,Ap b8),(10,Ap b10),(12,Az i)] fs∧n=ms.length - i∧(i≤ms.length)∧(TB zz Ta [] i (entsN ms) 1)∧(TB zz Ra0 [] i (entsN ms) 1)∧(HDq hs (Ta.map (·.1)) (Ra0.map (·.1)))) ?_ _ ⟨0,Cz,[],[],[],_,LZ.m [] O,rfl,Nat.zero_le _,TB.nil,TB.nil,HDq.nil⟩ (kK (by omega))
 intro n fs ⟨i,cu,hs,Ta,Ra0,zz,hL0,hmz0,hi,hTa,hRa0,hhs⟩
 refine hL0.open fun e hzz=>?_
 refine R4 16 O ?_
 refine fl_lenS rfl hm ?_
 refine R3 4 O ?_
 refine xD rfl (fun hc36=>?_) (fun hc36=>?_)
 ·refine fx_kseq ?_
  refine fx_seq (fx_block ?_)
  refine fx_drw ?_
  refine G1 2 O ?_
  refine gl1 O O Ht O ?_
  refine G1 4 O ?_
  obtain ⟨r,hr⟩:=at_lt (l:=ms) (i:=i) (by omega)
  have hrl:=hRG.m r (List.mem_of_getElem? hr)
  refine gP rfl rfl trivial ?_
  refine fl_iadS rfl rfl hm i rfl r hr fun b43 p43 cs at43 hR=>lN ?_
  obtain ⟨c43,hcs,q43⟩:=hR
  subst hcs
  refine fg_ldA (i:=⟨_,_,.load _ _ _⟩) (off:=0) rfl rfl trivial rfl at43 ti rfl (by simp) rfl sR ?_
  refine gP rfl rfl trivial ?_
  refine fl_lenS rfl q43 (lN ?_)
  refine fg_callOZ zz (i:=⟨_,_,.call _ _⟩) (c_ref22_noughts (by omega) (m:=r.length) (by omega)) rfl rfl trivial rfl rfl rfl rfl fun v46 z46 H46 hz46 ⟨c46,cs46,hv46,hH46,hcl46⟩=>?_
  subst hv46 hH46
  have hcl46:=CL.mono hcl46 zd_le
  refine G1 4 O ?_
  refine gP rfl rfl trivial ?_
  refine fl_iadS rfl rfl hm i rfl r hr fun b49 p49 cs at49 hR=>lN ?_
  obtain ⟨c49,hcs,q49⟩:=hR
  subst hcs
  refine fg_ldA (i:=⟨_,_,.load _ _ _⟩) (off:=0) rfl rfl trivial rfl at49 ti rfl (by simp) rfl sR ?_
  refine gP rfl rfl trivial ?_
  refine fl_lenS rfl q49 (lN ?_)
  refine fg_callOZ z46 (i:=⟨_,_,.call _ _⟩) (c_ref22_noughts (by omega) (m:=r.length) (by omega)) rfl rfl trivial rfl rfl rfl rfl fun v52 z52 H52 hz52 ⟨c52,cs52,hv52,hH52,hcl52⟩=>?_
  subst hv52 hH52
  have hcl52:=CL.mono hcl52 zd_le
  refine gC z52 (c_ref04_Zero (by omega)) O O O O fun v53 z53 _ hv53=>?_
  have hv53:=qv_op hv53
  obtain ⟨c53,d53,hv,hm53,hn53⟩:=hv53
  subst hv
  have hm53:=hm53.mono (zAq (hz28.trans (hzz.trans (hz46.trans hz52))))
  have hn53:=hn53.mono (zAq (hz28.trans (hzz.trans (hz46.trans hz52))))
  refine gP rfl rfl trivial ?_
  refine fl_bd (cs:=[c46,c52,Cb (decide ((0:Rat).num<0)),c53,Cb (decide (((0:Rat).den:Int)<0)),d53]) rfl (lN ?_)
  refine fg_own (k:=.cells 184 [c46,c52,Cb (decide ((0:Rat).num<0)),c53,Cb (decide (((0:Rat).den:Int)<0)),d53]) (w:=fun b=>.c (.sl b 0 1 6)) rfl trivial rfl (fun _=>rfl) (fun st hst=>?_) (fun b55 hT55=>?_)
  ·simp only [stepE,fillS,AS.ev,hst 54 (by simp [Ins.sl,Od.sls,Od.sl])];rfl
  refine fg_app (i:=⟨_,_,.app _ _ _ _ _ _⟩) rfl trivial rfl rfl rfl rfl ?_
  refine fl_appB (n:=i) (m:=1) (cs:=hs) rfl rfl mem0 rfl (fun _=>(repS P3)) (by omega) (by omega) fun c56 hc56=>?_
  refine lN ?_
  refine G1 2 O ?_
  refine gS O O O ?_
  refine fl_stE (cs':=[c56,Cz]) rfl rfl rfl P3 rfl rfl (Nat.le_of_ble_eq_true rfl) ?_
  refine lN ?_
  refine fg_nil ?_
  refine sq_n ?_
  refine xG ?_
  refine fl_fr2 rfl ?_
  refine fl_intoR (p:=[_,_,_,_]) rfl ?_
  refine fl_fr1 rfl ?_
  refine fl_intoR (p:=[_,_,_,_]) rfl ?_
  refine lC rfl ?_
  refine lB rfl rfl (bI_add (n:=i+1) (by omega) (by omega)) ?_
  refine R0 2 O ?_
  exact lq_n (by omega) ⟨i+1,c56,(hs++[c46,c52,Cb (decide ((0:Rat).num<0)),c53,Cb (decide (((0:Rat).den:Int)<0)),d53]),(Ta++[(c46,cs46,List.replicate r.length 0)]),(Ra0++[(c52,cs52,List.replicate r.length 0)]),_,LZ.m [_] O,rfl,by omega,by rw [hrl];exact TB.snoc (hTa.m) (by rw [← hrl];exact hcl46.m),by rw [hrl];exact TB.snoc (hRa0.m) (by rw [← hrl];exact hcl52.m),by rw [List.map_append,List.map_append];exact HDq.snoc hhs⟩
 refine fx_eseq ?_
 refine lq_e ?_
 refine sq_n ?_
 refine R4 4 O ?_
 obtain rfl:i=ms.length:=by omega
 refine fl_rowC (p:=[_]) rfl hpos fun bo hbo=>?_
 have hbo:cu=.sl bo 0 ms.length 6:=by injection hbo
 subst hbo
 have hhl:=hhs.2.1
 rw [List.length_map,hTa.len] at hhl
 refine fl_row0 186 17 ?_
 refine fl_fr4 rfl ?_
 refine fl_fr4 rfl ?_
 refine fl_fr4 rfl ?_
 refine fl_fr4 rfl ?_
 refine R0 2 O ?_
 refine fx_seq (fx_block ?_)
 refine fx_loop (fun n fs=>∃ (jj:Nat) (cI:C) (Tb:List (Ro Rat)) (Rb:List (Ro Rat)) (its:List C) (zy:Mem),LZ zz zy [.blk b10 (.cells 67 [.sl bo 0 ms.length 6,cI]),.blk bo (.cells 184 hs),many (Tb.map (rowT 51 4)),many (Rb.map (rowT 51 4)),.row (.c cI) 186 17 jj its,.blk b8 (.cells 67 [Cz,Cz])] [(0,.c cM),(1,Ai (pa:Nat)),(2,gv),(3,sv),(8,Ap b8),(10,Ap b10),(13,Az jj)] fs∧n=goods.length - jj∧(jj≤goods.length)∧(TB zy Tb (takenL ms (goods.take jj)) ms.length (entsN ms) (1+9 * jj))∧(TB zy Rb (relL ms pa (goods.take jj) sales) ms.length (entsN ms) (1+12000 * jj))∧(Tb.map (·.1)=Ta.map (·.1))∧(Rb.map (·.1)=Ra0.map (·.1))∧(CL 17 RItem zy its ((goods.take jj).map (itemOf ms pa sales)))) ?_ _ ⟨0,Cz,Ta,Ra0,[],_,LZ.m [] O,rfl,Nat.zero_le _,hTa,hRa0,rfl,rfl,CL.nil⟩ (kK (by omega))
 intro n fs ⟨jj,cI,Tb,Rb,its,zy,hL1,hmz1,hjj,hTb,hRb,eTb,eRb,hIb⟩
 refine hL1.open fun e hzy=>?_
 refine R4 24 O ?_
 refine fl_lenS rfl hG ?_
 refine R3 4 O ?_
 refine xD rfl (fun hc61=>?_) (fun hc61=>?_)
 ·refine fx_kseq ?_
  refine fx_seq (fx_block ?_)
  refine xR ?_
  obtain ⟨g,hg⟩:=at_lt (l:=goods) (i:=jj) (by omega)
  have hgg:=List.mem_of_getElem? hg
  obtain ⟨z1_,z2_,z3_,z4_⟩:=hgs g hgg
  have hDl:LQ 8 (dfr ms g):=dfr_l z1_ z2_ z3_ z4_
  obtain ⟨hgy,hgp,hgq⟩:=goodB_i (hRG.g g hgg)
  obtain ⟨hy1,hy2⟩:=isE_i hgy
  obtain ⟨hp1_,hp2_⟩:=isE_i hgp
  obtain ⟨hq1_,hq2_⟩:=isE_i hgq
  obtain ⟨r0,hr0⟩:=at_lt (l:=ms) (i:=g.yr.toNat) (by omega)
  have hrl0:=hRG.m r0 (List.mem_of_getElem? hr0)
  obtain ⟨xa,hxa⟩:=at_lt (l:=r0) (i:=g.py.toNat) (by omega)
  obtain ⟨xb,hxb⟩:=at_lt (l:=r0) (i:=g.pr.toNat) (by omega)
  have hma:=mb_at hr0 hxa
  have hmc:=mb_at hr0 hxb
  refine R1 5 O ?_
  refine fl_iadS (zz:=zy) rfl rfl hG.m jj rfl g hg fun b66 p66 cs at66 hR=>?_
  obtain ⟨e0,e1,e2,e3,hcs,g0,g1,g2,g3⟩:=hR
  subst hcs
  refine fl_ldA (off:=0) rfl at66 rfl (by simp) rfl ?_
  refine fl_alloc fun b14=>?_
  refine fl_stAll rfl rfl rfl rfl rep0 ?_
  refine lN ?_
  refine fx_drwS ?_
  refine G1 2 O ?_
  refine gl1 O O Ht O ?_
  refine gC zy (c_ref04_Zero (by omega)) O O O O fun v70 z70 hz70 hv70=>?_
  have hv70:=qv_op hv70
  obtain ⟨c70,d70,hv,hm70,hn70⟩:=hv70
  subst hv
  have hm70:=hm70.mono (zAq (hz28.trans (hzz.trans hzy)))
  have hn70:=hn70.mono (zAq (hz28.trans (hzz.trans hzy)))
  refine gC z70 (c_ref04_Zero (by omega)) O O O O fun v71 z71 hz71 hv71=>?_
  have hv71:=qv_op hv71
  obtain ⟨c71,d71,hv,hm71,hn71⟩:=hv71
  subst hv
  have hm71:=hm71.mono (zAq (hz28.trans (hzz.trans (hzy.trans hz70))))
  have hn71:=hn71.mono (zAq (hz28.trans (hzz.trans (hzy.trans hz70))))
  refine gC z71 (c_ref04_Zero (by omega)) O O O O fun v72 z72 hz72 hv72=>?_
  have hv72:=qv_op hv72
  obtain ⟨c72,d72,hv,hm72,hn72⟩:=hv72
  subst hv
  have hm72:=hm72.mono (zAq (hz28.trans (hzz.trans (hzy.trans (hz70.trans hz71)))))
  have hn72:=hn72.mono (zAq (hz28.trans (hzz.trans (hzy.trans (hz70.trans hz71)))))
  refine gC z72 (c_ref04_Zero (by omega)) O O O O fun v73 z73 hz73 hv73=>?_
  have hv73:=qv_op hv73
  obtain ⟨c73,d73,hv,hm73,hn73⟩:=hv73
  subst hv
  have hm73:=hm73.mono (zAq (hz28.trans (hzz.trans (hzy.trans (hz70.trans (hz71.trans hz72))))))
  have hn73:=hn73.mono (zAq (hz28.trans (hzz.trans (hzy.trans (hz70.trans (hz71.trans hz72))))))
  refine gP rfl rfl trivial ?_
  refine fl_bd (cs:=[Cs g.id,Cb (decide ((0:Rat).num<0)),c70,Cb (decide (((0:Rat).den:Int)<0)),d70,Cb (decide ((0:Rat).num<0)),c71,Cb (decide (((0:Rat).den:Int)<0)),d71,Cb (decide ((0:Rat).num<0)),c72,Cb (decide (((0:Rat).den:Int)<0)),d72,Cb (decide ((0:Rat).num<0)),c73,Cb (decide (((0:Rat).den:Int)<0)),d73]) rfl (lN ?_)
  refine gA O O (fun b15 hT15=>?_)
  refine gS O O O ?_
  refine fl_stAll rfl rfl rfl rfl rep0 ?_
  refine lN ?_
  refine fg_nil ?_
  refine fx_ss ?_
  refine fx_join (fun fs=>∃ (nb:Bool) (zi:Mem),LZ z73 zi [.blk b15 (.cells 186 [Cs g.id,Cb (decide ((0:Rat).num<0)),c70,Cb (decide (((0:Rat).den:Int)<0)),d70,Cb (decide ((0:Rat).num<0)),c71,Cb (decide (((0:Rat).den:Int)<0)),d71,Cb (decide ((0:Rat).num<0)),c72,Cb (decide (((0:Rat).den:Int)<0)),d72,Cb (decide ((0:Rat).num<0)),c73,Cb (decide (((0:Rat).den:Int)<0)),d73]),.blk b14 (.cells 177 [Cs g.id,Ci g.yr,Ci g.py,Ci g.pr,Cb g.mg.n,e0,Cb g.mg.d,e1,Cb g.us.n,e2,Cb g.us.d,e3]),.blk b10 (.cells 67 [.sl bo 0 ms.length 6,cI]),.blk bo (.cells 184 hs),many (Tb.map (rowT 51 4)),many (Rb.map (rowT 51 4)),.row (.c cI) 186 17 jj its,.blk b8 (.cells 67 [Cz,Cz])] [(0,.c cM),(1,Ai (pa:Nat)),(2,gv),(3,sv),(8,Ap b8),(10,Ap b10),(13,Az jj),(14,Ap b14),(15,Ap b15),(94,Ab nb)] fs∧(nb=bothM ms g g.yr.toNat)) ?_ fun fs hJ=>?_
  ·refine fx_drw ?_
   refine G1 4 O ?_
   refine gl1 O O (.inr Y1) O ?_
   refine gP rfl rfl trivial ?_
   refine fl_iadS rfl rfl hm g.yr.toNat (by omega) r0 hr0 fun b78 p78 cs at78 hR=>lN ?_
   obtain ⟨c78,hcs,q78⟩:=hR
   subst hcs
   refine fg_ldA (i:=⟨_,_,.load _ _ _⟩) (off:=0) rfl rfl trivial rfl at78 ti rfl (by simp) rfl sR ?_
   refine G1 2 O ?_
   refine gl1 O O (.inr Y1) O ?_
   refine gP rfl rfl trivial ?_
   refine fl_iadS rfl rfl q78 g.py.toNat (by omega) xa hxa fun b82 p82 cs at82 hR=>lN ?_
   have hcs:cs=_:=hR
   subst hcs
   refine fg_ldA (i:=⟨_,_,.load _ _ _⟩) (off:=0) rfl rfl trivial rfl at82 ti rfl (by simp) rfl sR ?_
   refine G1 2 O ?_
   refine fg_splitB 84 rfl (fun hg84=>?_) (fun hg84=>?_)
   ·refine G1 4 O ?_
    refine gl1 O O (.inr Y1) O ?_
    refine gP rfl rfl rfl ?_
    refine fl_iadS rfl rfl hm g.yr.toNat (by omega) r0 hr0 fun b88 p88 cs at88 hR=>lN ?_
    obtain ⟨c88,hcs,q88⟩:=hR
    subst hcs
    refine fg_ldA (i:=⟨_,_,.load _ _ _⟩) (off:=0) rfl rfl rfl rfl at88 ti rfl (by simp) rfl sR ?_
    refine G1 2 O ?_
    refine gl1 O O (.inr Y1) O ?_
    refine gP rfl rfl rfl ?_
    refine fl_iadS rfl rfl q88 g.pr.toNat (by omega) xb hxb fun b92 p92 cs at92 hR=>lN ?_
    have hcs:cs=_:=hR
    subst hcs
    refine fg_ldA (i:=⟨_,_,.load _ _ _⟩) (off:=0) rfl rfl rfl rfl at92 ti rfl (by simp) rfl sR ?_
    refine G0 2 O ?_
    exact sq_n ⟨xb,_,LZ.m [] O,bo_t hma hmc hg84⟩
   refine G0 1024 O ?_
   exact sq_n ⟨false,_,LZ.m [] O,bo_f hma hg84⟩
  obtain ⟨nb,zi,hJd75,hnb⟩:=hJ
  refine hJd75.open fun e hzi=>?_
  refine fx_join (fun fs=>∃ (q:Rat) (cD:C) (dD:C) (T1:List (Ro Rat)) (zk:Mem),LZ zi zk [.blk b15 (.cells 186 [Cs g.id,Cb (decide (q.num<0)),cD,Cb (decide ((q.den:Int)<0)),dD,Cb (decide ((0:Rat).num<0)),c71,Cb (decide (((0:Rat).den:Int)<0)),d71,Cb (decide ((0:Rat).num<0)),c72,Cb (decide (((0:Rat).den:Int)<0)),d72,Cb (decide ((0:Rat).num<0)),c73,Cb (decide (((0:Rat).den:Int)<0)),d73]),.blk b14 (.cells 177 [Cs g.id,Ci g.yr,Ci g.py,Ci g.pr,Cb g.mg.n,e0,Cb g.mg.d,e1,Cb g.us.n,e2,Cb g.us.d,e3]),.blk b10 (.cells 67 [.sl bo 0 ms.length 6,cI]),.blk bo (.cells 184 hs),many (T1.map (rowT 51 4)),many (Rb.map (rowT 51 4)),.row (.c cI) 186 17 jj its,.blk b8 (.cells 67 [Cz,Cz])] [(0,.c cM),(1,Ai (pa:Nat)),(2,gv),(3,sv),(8,Ap b8),(10,Ap b10),(13,Az jj),(14,Ap b14),(15,Ap b15)] fs∧(q=dfr ms g)∧(CZ 1 RW zk cD (toL q.num.natAbs))∧(CZ 1 RW zk dD (toL (q.den:Int).natAbs))∧(TB zk T1 ((takenL ms (goods.take jj))++[((g.yr.toNat,g.py.toNat),dfr ms g)]) ms.length (entsN ms) (1+9 * jj+9))∧(T1.map (·.1)=Tb.map (·.1))) ?_ fun fs hJ=>?_
  ·refine fx_condB rfl (fun hc94=>?_) (fun hc94=>?_)
   ·refine R4 4 O ?_
    refine fl_ld4 rfl Y1 rfl ?_
    refine lF rfl ?_
    refine fl_ld4 rfl Y1 rfl ?_
    refine lZ zi (c_ref04_Mul (by omega) g0.m g1.m (by omega) (by omega) g2.m g3.m (by omega) (by omega)) rfl rfl fun v99 z99 _ hv99=>?_
    have hv99:=qv_dfr (hnb.symm.trans hc94) hv99
    have hv99:=qv_op hv99
    obtain ⟨c99,d99,hv,hm99,hn99⟩:=hv99
    subst hv
    have hm99:=hm99.mono (zAq (hz28.trans (hzz.trans (hzy.trans (hz70.trans (hz71.trans (hz72.trans (hz73.trans hzi))))))))
    have hn99:=hn99.mono (zAq (hz28.trans (hzz.trans (hzy.trans (hz70.trans (hz71.trans (hz72.trans (hz73.trans hzi))))))))
    refine lF rfl ?_
    refine fl_stE (cs':=[Cs g.id,Cb (decide ((dfr ms g).num<0)),c99,Cb (decide (((dfr ms g).den:Int)<0)),d99,Cb (decide ((0:Rat).num<0)),c71,Cb (decide (((0:Rat).den:Int)<0)),d71,Cb (decide ((0:Rat).num<0)),c72,Cb (decide (((0:Rat).den:Int)<0)),d72,Cb (decide ((0:Rat).num<0)),c73,Cb (decide (((0:Rat).den:Int)<0)),d73]) rfl rfl rfl rep0 rfl rfl (Nat.le_of_ble_eq_true rfl) ?_
    obtain ⟨⟨cT,tcs,tl⟩,hdT,hrT,_⟩:=hTb.at (y:=g.yr.toNat) (by omega)
    obtain ⟨hclT,t0,t1,ht0,hq0,hq1⟩:=hTb.cell hdT hrT (e:=g.py.toNat) (by omega)
    have htn:tl.length=entsN ms:=by rw [show tl=_ from hrT];exact rowE_len
    refine fl_outR (p:=[_,_,_,_]) rfl hdT ?_
    refine fl_rowC (p:=[]) rfl (by show 0<tl.length;omega) fun bd hbd=>?_
    have hbd:cT=.sl bd 0 tl.length 4:=by injection hbd
    subst hbd
    have heT:hs[g.yr.toNat * 6]? = some (.sl bd 0 tl.length 4):=HDq.tt hhs (eTb) hdT
    refine lN ?_
    refine fx_drw ?_
    refine fg_part (p:=[]) rfl fun hTd=>?_
    refine G1 2 O ?_
    refine gl1 O O (.inr Y2) O ?_
    refine G1 2 O ?_
    refine gl1 O O (.inr Y1) O ?_
    refine G1 2 O ?_
    refine gl1 O O (.inr Y2) O ?_
    refine G1 2 O ?_
    refine gl1 O O (.inr Y1) O ?_
    refine gP rfl rfl trivial ?_
    refine fl_iad rfl rfl (g.yr.toNat) (by omega) (by omega) (lN ?_)
    refine G1 2 O ?_
    refine fg_ld1 (i:=⟨_,_,.load _ _ _⟩) rfl rfl trivial rfl (.inr Y3) (by rw [Nat.zero_add];exact heT) sR ?_
    refine G1 2 O ?_
    refine gl1 O O (.inr Y1) O ?_
    refine G1 2 O ?_
    refine gl4 O O Ht O ?_
    refine fg_callLZ z99 (i:=⟨_,_,.call _ _⟩) (c_plus1 (by omega) (e0:=g.py.toNat) (m0:=tl.length) (by omega) (by rw [htn];omega) (by rw [htn];exact hclT) ht0 hq0.m hq1.m (hm99.mono zd_le) (hn99.mono zd_le) ((hTb.2.2 _ _).mono (by omega)) (hDl.mono (by omega))) rfl rfl trivial rfl rfl rfl rfl (one_fp hTd) rfl fun v116 z116 H116 _ hv116=>?_
    obtain ⟨hv,ra,rb,hH116,hra,hrb⟩:=hv116
    subst hv hH116
    refine gP rfl rfl trivial ?_
    refine fl_iad rfl rfl (g.yr.toNat) (by omega) (by omega) (lN ?_)
    refine G1 2 O ?_
    refine gS O O O ?_
    refine fl_stE (cs':=hs) rfl rfl rfl (repS P3) (by rw [Nat.zero_add];exact setL_at1 heT) rfl (by show _+1≤_;omega) ?_
    refine fl_putTq (ty:=51) (p:=[_,_,_,_]) hTb hdT hrT rfl (by omega) (by omega) rfl zI hra hrb hDl fun T1 hT1 eT1=>?_
    refine lN ?_
    refine fg_nil ?_
    exact sq_n ⟨(dfr ms g),c99,d99,T1,_,LZ.m [] O,rfl,hm99.m,hn99.m,TB.wd (by exact hT1) (by omega),eT1⟩
   refine fx_skip ?_
   exact sq_n ⟨0,c70,d70,Tb,_,LZ.m [] O,dfr_n (hnb.symm.trans hc94),hm70.m,hn70.m,TB.zero (by exact hTb.m) (dfr_n (hnb.symm.trans hc94)).symm (by omega),rfl⟩
  obtain ⟨q,cD,dD,T1,zk,hJ94,hq,hcD,hdD,hT1,eT1⟩:=hJ
  subst hq
  refine hJ94.open fun e hzk=>?_
  refine R4 4 O ?_
  refine fl_ld4 rfl mem0 rfl ?_
  refine fl_al4 fun b16=>?_
  refine fl_st4 rfl rfl rep0 ?_
  refine lN ?_
  refine R4 8 O ?_
  refine fl_ld1 rfl Y2 rfl ?_
  refine lB rfl rfl (later_ad (by omega) (by omega)) ?_
  refine R0 2 O ?_
  refine fx_seq (fx_block ?_)
  refine fx_loop (fun n fs=>∃ (y:Nat) (L1:List Nat) (s:GSt) (Ra:List (Ro Rat)) (a0:C) (a1:C) (a2:C) (a3:C) (a4:C) (a5:C) (zu:Mem),LZ zk zu [.blk b16 (.cells 51 [Cb (decide (s.left.num<0)),a4,Cb (decide ((s.left.den:Int)<0)),a5]),.blk b15 (.cells 186 [Cs g.id,Cb (decide ((dfr ms g).num<0)),cD,Cb (decide (((dfr ms g).den:Int)<0)),dD,Cb (decide (s.sold.num<0)),a0,Cb (decide ((s.sold.den:Int)<0)),a1,Cb (decide (s.lft.num<0)),a2,Cb (decide ((s.lft.den:Int)<0)),a3,Cb (decide ((0:Rat).num<0)),c73,Cb (decide (((0:Rat).den:Int)<0)),d73]),.blk b14 (.cells 177 [Cs g.id,Ci g.yr,Ci g.py,Ci g.pr,Cb g.mg.n,e0,Cb g.mg.d,e1,Cb g.us.n,e2,Cb g.us.d,e3]),.blk b10 (.cells 67 [.sl bo 0 ms.length 6,cI]),.blk bo (.cells 184 hs),many (T1.map (rowT 51 4)),many (Ra.map (rowT 51 4)),.row (.c cI) 186 17 jj its,.blk b8 (.cells 67 [Cz,Cz])] [(0,.c cM),(1,Ai (pa:Nat)),(2,gv),(3,sv),(8,Ap b8),(10,Ap b10),(13,Az jj),(14,Ap b14),(15,Ap b15),(16,Ap b16),(17,Az y)] fs∧n=ms.length - y∧(y≤ms.length)∧(g.yr.toNat<y)∧(L1++yrs ms g (ms.length - y) y=yrs ms g (ms.length - (g.yr.toNat+1)) (g.yr.toNat+1))∧(L1.length=y - (g.yr.toNat+1))∧(s=gst ms pa g (salesOf sales g.id) L1)∧(TB zu Ra ((relL ms pa (goods.take jj) sales)++s.rel) ms.length (entsN ms) (1+12000 * jj+1500 * L1.length))∧(Ra.map (·.1)=Rb.map (·.1))∧(CZ 1 RW zu a0 (toL s.sold.num.natAbs))∧(CZ 1 RW zu a1 (toL (s.sold.den:Int).natAbs))∧(CZ 1 RW zu a2 (toL s.lft.num.natAbs))∧(CZ 1 RW zu a3 (toL (s.lft.den:Int).natAbs))∧(CZ 1 RW zu a4 (toL s.left.num.natAbs))∧(CZ 1 RW zu a5 (toL (s.left.den:Int).natAbs))∧(LQ (8+160 * L1.length) s.sold)∧(LQ (8+160 * L1.length) s.left)∧(s.lft=0)) ?_ _ ⟨(g.yr.toNat+1),[],⟨dfr ms g,0,0,[]⟩,Rb,c71,d71,c72,d72,cD,dD,_,LZ.m [] O,rfl,by omega,Nat.lt_succ_self _,rfl,by simp,rfl,by show TB _ Rb ((relL ms pa (goods.take jj) sales)++[]) _ _ _;rw [List.append_nil];exact TB.wd (by exact hRb.m) (by omega),rfl,hm71.m,hn71.m,hm72.m,hn72.m,hcD,hdD,lq_zero.mono (by omega),hDl.mono (by omega),rfl⟩ (kK (by omega))
  intro n fs ⟨y,L1,s,Ra,a0,a1,a2,a3,a4,a5,zu,hL2,hmz2,hyle,hyy,hL,hLn,hsE,hRa,eRa,k0,k1,k2,k3,k4,k5,hls,hll,hlf⟩
  refine hL2.open fun e hzu=>?_
  refine R4 16 O ?_
  refine fl_lenS rfl hm ?_
  refine R3 4 O ?_
  refine xD rfl (fun hc127=>?_) (fun hc127=>?_)
  ·refine fx_kseq ?_
   refine fx_seq (fx_block ?_)
   refine fx_ss ?_
   have hyl:y<ms.length:=by omega
   obtain ⟨r1,hr1⟩:=at_lt (l:=ms) (i:=y) hyl
   have hrl1:=hRG.m r1 (List.mem_of_getElem? hr1)
   obtain ⟨x1,hx1⟩:=at_lt (l:=r1) (i:=g.py.toNat) (by omega)
   obtain ⟨x2,hx2⟩:=at_lt (l:=r1) (i:=g.pr.toNat) (by omega)
   have hmd:=mb_at hr1 hx1
   have hme:=mb_at hr1 hx2
   refine fx_join (fun fs=>∃ (nb2:Bool) (zp:Mem),LZ zu zp [.blk b16 (.cells 51 [Cb (decide (s.left.num<0)),a4,Cb (decide ((s.left.den:Int)<0)),a5]),.blk b15 (.cells 186 [Cs g.id,Cb (decide ((dfr ms g).num<0)),cD,Cb (decide (((dfr ms g).den:Int)<0)),dD,Cb (decide (s.sold.num<0)),a0,Cb (decide ((s.sold.den:Int)<0)),a1,Cb (decide (s.lft.num<0)),a2,Cb (decide ((s.lft.den:Int)<0)),a3,Cb (decide ((0:Rat).num<0)),c73,Cb (decide (((0:Rat).den:Int)<0)),d73]),.blk b14 (.cells 177 [Cs g.id,Ci g.yr,Ci g.py,Ci g.pr,Cb g.mg.n,e0,Cb g.mg.d,e1,Cb g.us.n,e2,Cb g.us.d,e3]),.blk b10 (.cells 67 [.sl bo 0 ms.length 6,cI]),.blk bo (.cells 184 hs),many (T1.map (rowT 51 4)),many (Ra.map (rowT 51 4)),.row (.c cI) 186 17 jj its,.blk b8 (.cells 67 [Cz,Cz])] [(0,.c cM),(1,Ai (pa:Nat)),(2,gv),(3,sv),(8,Ap b8),(10,Ap b10),(13,Az jj),(14,Ap b14),(15,Ap b15),(16,Ap b16),(17,Az y),(149,Ab nb2)] fs∧(nb2 = !bothM ms g y)) ?_ fun fs hJ=>?_
   ·refine fx_drw ?_
    refine G1 4 O ?_
    refine gP rfl rfl trivial ?_
    refine fl_iadS rfl rfl hm y rfl r1 hr1 fun b132 p132 cs at132 hR=>lN ?_
    obtain ⟨c132,hcs,q132⟩:=hR
    subst hcs
    refine fg_ldA (i:=⟨_,_,.load _ _ _⟩) (off:=0) rfl rfl trivial rfl at132 ti rfl (by simp) rfl sR ?_
    refine G1 2 O ?_
    refine gl1 O O (.inr Y2) O ?_
    refine gP rfl rfl trivial ?_
    refine fl_iadS rfl rfl q132 g.py.toNat (by omega) x1 hx1 fun b136 p136 cs at136 hR=>lN ?_
    have hcs:cs=_:=hR
    subst hcs
    refine fg_ldA (i:=⟨_,_,.load _ _ _⟩) (off:=0) rfl rfl trivial rfl at136 ti rfl (by simp) rfl sR ?_
    refine G1 4 O ?_
    refine fg_splitB 139 rfl (fun hg139=>?_) (fun hg139=>?_)
    ·refine G0 1024 O ?_
     exact sq_n ⟨true,_,LZ.m [] O,nb_a hmd hg139⟩
    refine G1 4 O ?_
    refine gP rfl rfl rfl ?_
    refine fl_iadS rfl rfl hm y rfl r1 hr1 fun b142 p142 cs at142 hR=>lN ?_
    obtain ⟨c142,hcs,q142⟩:=hR
    subst hcs
    refine fg_ldA (i:=⟨_,_,.load _ _ _⟩) (off:=0) rfl rfl rfl rfl at142 ti rfl (by simp) rfl sR ?_
    refine G1 2 O ?_
    refine gl1 O O (.inr Y2) O ?_
    refine gP rfl rfl rfl ?_
    refine fl_iadS rfl rfl q142 g.pr.toNat (by omega) x2 hx2 fun b146 p146 cs at146 hR=>lN ?_
    have hcs:cs=_:=hR
    subst hcs
    refine fg_ldA (i:=⟨_,_,.load _ _ _⟩) (off:=0) rfl rfl rfl rfl at146 ti rfl (by simp) rfl sR ?_
    refine G0 4 O ?_
    exact sq_n ⟨(!x2),_,LZ.m [] O,nb_b hmd hme hg139⟩
   obtain ⟨nb2,zp,hJd130,hnb2⟩:=hJ
   refine hJd130.open fun e hzp=>?_
   refine fx_cseq ?_
   refine fx_condB rfl (fun hc149=>?_) (fun hc149=>?_)
   ·refine R4 4 O ?_
    have hbf:=nbB (hnb2.symm.trans hc149)
    have hlfl:LQ 1 s.lft:=by rw [hlf];exact lq_zero
    refine R3 16 O ?_
    refine fx_drwS ?_
    refine G1 4 O ?_
    refine gP rfl rfl trivial ?_
    refine fl_iadS rfl rfl hm y rfl r1 hr1 fun b153 p153 cs at153 hR=>lN ?_
    obtain ⟨c153,hcs,q153⟩:=hR
    subst hcs
    refine fg_ldA (i:=⟨_,_,.load _ _ _⟩) (off:=0) rfl rfl trivial rfl at153 ti rfl (by simp) rfl sR ?_
    refine G1 2 O ?_
    refine gl1 O O (.inr Y2) O ?_
    refine gP rfl rfl trivial ?_
    refine fl_iadS rfl rfl q153 g.py.toNat (by omega) x1 hx1 fun b157 p157 cs at157 hR=>lN ?_
    have hcs:cs=_:=hR
    subst hcs
    refine fg_ldA (i:=⟨_,_,.load _ _ _⟩) (off:=0) rfl rfl trivial rfl at157 ti rfl (by simp) rfl sR ?_
    refine fg_nil ?_
    refine fx_join (fun fs=>∃ (ei:Int) (e9:Nat) (zq:Mem),LZ zp zq [.blk b16 (.cells 51 [Cb (decide (s.left.num<0)),a4,Cb (decide ((s.left.den:Int)<0)),a5]),.blk b15 (.cells 186 [Cs g.id,Cb (decide ((dfr ms g).num<0)),cD,Cb (decide (((dfr ms g).den:Int)<0)),dD,Cb (decide (s.sold.num<0)),a0,Cb (decide ((s.sold.den:Int)<0)),a1,Cb (decide (s.lft.num<0)),a2,Cb (decide ((s.lft.den:Int)<0)),a3,Cb (decide ((0:Rat).num<0)),c73,Cb (decide (((0:Rat).den:Int)<0)),d73]),.blk b14 (.cells 177 [Cs g.id,Ci g.yr,Ci g.py,Ci g.pr,Cb g.mg.n,e0,Cb g.mg.d,e1,Cb g.us.n,e2,Cb g.us.d,e3]),.blk b10 (.cells 67 [.sl bo 0 ms.length 6,cI]),.blk bo (.cells 184 hs),many (T1.map (rowT 51 4)),many (Ra.map (rowT 51 4)),.row (.c cI) 186 17 jj its,.blk b8 (.cells 67 [Cz,Cz])] [(0,.c cM),(1,Ai (pa:Nat)),(2,gv),(3,sv),(8,Ap b8),(10,Ap b10),(13,Az jj),(14,Ap b14),(15,Ap b15),(16,Ap b16),(17,Az y),(18,Ai ei)] fs∧(ei=((e9:Nat):Int))∧(e9=if mb ms y g.py.toNat=true then g.py.toNat else pa)∧(e9<entsN ms)) ?_ fun fs hJ=>?_
    ·refine fx_condB rfl (fun hc158=>?_) (fun hc158=>?_)
     ·refine xG ?_
      refine lF rfl ?_
      refine fl_ld1 rfl Y2 rfl ?_
      refine R0 2 O ?_
      exact sq_n ⟨g.py,g.py.toNat,_,LZ.m [] O,by omega,(if_pos (hmd.trans hc158)).symm,by omega⟩
     refine fx_skip ?_
     exact sq_n ⟨((pa:Nat):Int),pa,_,LZ.m [] O,rfl,(if_neg (by rw [hmd,hc158];exact Bool.false_ne_true)).symm,hpe⟩
    obtain ⟨ei,e9,zq,hJ158,hei,he9,hel⟩:=hJ
    refine hJ158.open fun e hzq=>?_
    obtain ⟨⟨cR1,tcs,tl⟩,hdT,hrT,_⟩:=hRa.at (y:=y) hyl
    obtain ⟨hclT,t0,t1,ht0,hq0,hq1⟩:=hRa.cell hdT hrT (e:=e9) hel
    have htn:tl.length=entsN ms:=by rw [show tl=_ from hrT];exact rowE_len
    refine fx_outR (p:=[_,_,_,_,_,_]) rfl hdT ?_
    refine fx_rowC (p:=[]) rfl (by show 0<tl.length;omega) fun bd hbd=>?_
    have hbd:cR1=.sl bd 0 tl.length 4:=by injection hbd
    subst hbd
    have heT:hs[y * 6+1]? = some (.sl bd 0 tl.length 4):=HDq.rr hhs (eRa.trans eRb) hdT
    refine fx_ss ?_
    refine fx_drwS ?_
    refine fg_part (p:=[]) rfl fun hTd=>?_
    refine G1 2 O ?_
    refine gl1 O O (.inr Y3) O ?_
    refine G1 4 O ?_
    refine gl1 O O (.inr Y3) O ?_
    refine G1 2 O ?_
    refine gP rfl rfl trivial ?_
    refine fl_iad rfl rfl (y) (by omega) (by omega) (lN ?_)
    refine G1 2 O ?_
    refine fg_ld1 (i:=⟨_,_,.load _ _ _⟩) rfl rfl trivial rfl (.inr Y4) (by rw [Nat.zero_add];exact heT) sR ?_
    refine G1 2 O ?_
    refine gl4 O O Ht O ?_
    refine fg_callLZ zq (i:=⟨_,_,.call _ _⟩) (c_plus1 (by omega) (e0:=e9) (m0:=tl.length) hei (by rw [htn];omega) (by rw [htn];exact hclT) ht0 hq0.m hq1.m k4.m k5.m ((hRa.2.2 _ _).mono (by omega)) (hll.mono (by omega))) rfl rfl trivial rfl rfl rfl rfl (one_fp hTd) rfl fun v172 z172 H172 hz172 hv172=>?_
    obtain ⟨hv,ra,rb,hH172,hra,hrb⟩:=hv172
    subst hv hH172
    refine gP rfl rfl trivial ?_
    refine fl_iad rfl rfl (y) (by omega) (by omega) (lN ?_)
    refine G1 2 O ?_
    refine gS O O O ?_
    refine fl_stE (cs':=hs) rfl rfl rfl (repS (repS P3)) (by rw [Nat.zero_add];exact setL_at1 heT) rfl (by show _+1≤_;omega) ?_
    refine fl_putTq (ty:=51) (p:=[_,_,_,_,_,_]) hRa hdT hrT rfl (by omega) hyl rfl zI hra hrb hll fun R1 hR1 eR1=>?_
    refine lN ?_
    refine fg_nil ?_
    refine R4 8 O ?_
    refine fl_ld4 rfl Y1 rfl ?_
    refine fl_ld4 rfl mem0 rfl ?_
    refine lZ z172 (c_ref04_Add (by omega) k2.m k3.m (Nat.le_trans hlfl.1 (by decide)) (Nat.le_trans hlfl.2 (by decide)) k4.m k5.m (Nat.le_trans hll.1 (by omega)) (Nat.le_trans hll.2 (by omega))) rfl rfl fun v178 z178 hz178 hv178=>?_
    simp only [valR_c] at hv178
    rw [hlf,Rat.zero_add] at hv178
    have hv178:=qv_op hv178
    obtain ⟨c178,d178,hv,hm178,hn178⟩:=hv178
    subst hv
    have hm178:=hm178.mono (zAq (hz28.trans (hzz.trans (hzy.trans (hz70.trans (hz71.trans (hz72.trans (hz73.trans (hzi.trans (hzk.trans (hzu.trans (hzp.trans (hzq.trans hz172)))))))))))))
    have hn178:=hn178.mono (zAq (hz28.trans (hzz.trans (hzy.trans (hz70.trans (hz71.trans (hz72.trans (hz73.trans (hzi.trans (hzk.trans (hzu.trans (hzp.trans (hzq.trans hz172)))))))))))))
    refine lF rfl ?_
    refine fl_stE (cs':=[Cs g.id,Cb (decide ((dfr ms g).num<0)),cD,Cb (decide (((dfr ms g).den:Int)<0)),dD,Cb (decide (s.sold.num<0)),a0,Cb (decide ((s.sold.den:Int)<0)),a1,Cb (decide (s.left.num<0)),c178,Cb (decide ((s.left.den:Int)<0)),d178,Cb (decide ((0:Rat).num<0)),c73,Cb (decide (((0:Rat).den:Int)<0)),d73]) rfl rfl rfl P1 rfl rfl (Nat.le_of_ble_eq_true rfl) ?_
    refine lN ?_
    refine R4 4 O ?_
    refine lZ z178 (c_ref04_Zero (by omega)) rfl rfl fun v180 z180 _ hv180=>?_
    have hv180:=qv_op hv180
    obtain ⟨c180,d180,hv,hm180,hn180⟩:=hv180
    subst hv
    have hm180:=hm180.mono (zAq (hz28.trans (hzz.trans (hzy.trans (hz70.trans (hz71.trans (hz72.trans (hz73.trans (hzi.trans (hzk.trans (hzu.trans (hzp.trans (hzq.trans (hz172.trans hz178))))))))))))))
    have hn180:=hn180.mono (zAq (hz28.trans (hzz.trans (hzy.trans (hz70.trans (hz71.trans (hz72.trans (hz73.trans (hzi.trans (hzk.trans (hzu.trans (hzp.trans (hzq.trans (hz172.trans hz178))))))))))))))
    refine fl_st4 rfl rfl rep0 ?_
    refine lN ?_
    refine fx_eseq ?_
    refine sq_e ?_
    refine lq_e ?_
    refine sq_n ?_
    refine xR ?_
    refine fl_ld4 rfl mem0 rfl ?_
    refine lF rfl ?_
    refine fl_stE (cs':=[Cs g.id,Cb (decide ((dfr ms g).num<0)),cD,Cb (decide (((dfr ms g).den:Int)<0)),dD,Cb (decide (s.sold.num<0)),a0,Cb (decide ((s.sold.den:Int)<0)),a1,Cb (decide (s.left.num<0)),c178,Cb (decide ((s.left.den:Int)<0)),d178,Cb (decide ((0:Rat).num<0)),c180,Cb (decide (((0:Rat).den:Int)<0)),d180]) rfl rfl rfl P1 rfl rfl (Nat.le_of_ble_eq_true rfl) ?_
    refine lN ?_
    refine xG ?_
    refine lF rfl ?_
    refine fl_ld1 rfl Y3 rfl ?_
    refine fl_ldAll rfl Y1 rfl ?_
    refine fl_bslice (cs:=[Cs g.id,Cb (decide ((dfr ms g).num<0)),cD,Cb (decide (((dfr ms g).den:Int)<0)),dD,Cb (decide (s.sold.num<0)),a0,Cb (decide ((s.sold.den:Int)<0)),a1,Cb (decide (s.left.num<0)),c178,Cb (decide ((s.left.den:Int)<0)),d178,Cb (decide ((0:Rat).num<0)),c180,Cb (decide (((0:Rat).den:Int)<0)),d180]) rfl fun b240=>?_
    refine fl_appB (n:=jj) (m:=1) (cs:=its) rfl rfl mem0 rfl (fun _=>(repS (repS (repS (repS (repS P3)))))) (by omega) (by omega) fun c241 hc241=>?_
    refine lF rfl ?_
    refine fl_stE (cs':=[.sl bo 0 ms.length 6,c241]) rfl rfl rfl (repS P3) rfl rfl (Nat.le_of_ble_eq_true rfl) ?_
    refine lN ?_
    refine sq_n ?_
    refine xG ?_
    refine lC rfl ?_
    refine lB rfl rfl (bI_add (n:=jj+1) (by omega) (by omega)) ?_
    refine R0 2 O ?_
    have hsF:(⟨0,s.sold,s.left,s.rel++[((y,e9),s.left)]⟩:GSt)=gst ms pa g (salesOf sales g.id) (yrs ms g (ms.length - (g.yr.toNat+1)) (g.yr.toNat+1)):=by rw [st_n hsE hbf he9];rw [later_end hL hyl hbf]
    exact lq_n (by omega) ⟨jj+1,c241,T1,R1,_,_,LZ.m [_,_,_,_] O,rfl,by omega,by rw [taken_s hg];exact TB.wd (by exact hT1.m) (by omega),by rw [rel_s hg,goodR_g,← hsF];exact TB.nx hR1 zI (by omega),eT1.trans eTb,eR1.trans (eRa.trans eRb),by rw [tk_some hg,List.map_append];exact (hIb.m).append (CL.one rfl ⟨cD,dD,a0,a1,c178,d178,c180,d180,by rw [itemOf,goodR_g,← hsF],hcD.m,hdD.m,by rw [itemOf,goodR_g,← hsF];exact k0.m,by rw [itemOf,goodR_g,← hsF];exact k1.m,by rw [itemOf,goodR_g,← hsF];exact hm178.m,by rw [itemOf,goodR_g,← hsF];exact hn178.m,by rw [itemOf,goodR_g,← hsF];exact (hm180.mono zd_le),by rw [itemOf,goodR_g,← hsF];exact (hn180.mono zd_le)⟩)⟩
   refine R5 8 O ?_
   refine fx_block ?_
   refine fx_loop (fun n fs=>∃ (kk:Nat) (Rc:List (Ro Rat)) (s3:GSt) (f0:C) (f1:C) (f4:C) (f5:C) (zx:Mem),LZ zp zx [.blk b16 (.cells 51 [Cb (decide (s3.left.num<0)),f4,Cb (decide ((s3.left.den:Int)<0)),f5]),.blk b15 (.cells 186 [Cs g.id,Cb (decide ((dfr ms g).num<0)),cD,Cb (decide (((dfr ms g).den:Int)<0)),dD,Cb (decide (s3.sold.num<0)),f0,Cb (decide ((s3.sold.den:Int)<0)),f1,Cb (decide (s3.lft.num<0)),a2,Cb (decide ((s3.lft.den:Int)<0)),a3,Cb (decide ((0:Rat).num<0)),c73,Cb (decide (((0:Rat).den:Int)<0)),d73]),.blk b14 (.cells 177 [Cs g.id,Ci g.yr,Ci g.py,Ci g.pr,Cb g.mg.n,e0,Cb g.mg.d,e1,Cb g.us.n,e2,Cb g.us.d,e3]),.blk b10 (.cells 67 [.sl bo 0 ms.length 6,cI]),.blk bo (.cells 184 hs),many (T1.map (rowT 51 4)),many (Rc.map (rowT 51 4)),.row (.c cI) 186 17 jj its,.blk b8 (.cells 67 [Cz,Cz])] [(0,.c cM),(1,Ai (pa:Nat)),(2,gv),(3,sv),(8,Ap b8),(10,Ap b10),(13,Az jj),(14,Ap b14),(15,Ap b15),(16,Ap b16),(17,Az y),(19,Az kk)] fs∧n=sales.length - kk∧(kk≤sales.length)∧(s3=(salesOf (sales.take kk) g.id).foldl (stepS g (dfr ms g) y) s)∧(TB zx Rc ((relL ms pa (goods.take jj) sales)++s3.rel) ms.length (entsN ms) (1+12000 * jj+1500 * L1.length+13 * kk))∧(Rc.map (·.1)=Rb.map (·.1))∧(CZ 1 RW zx f0 (toL s3.sold.num.natAbs))∧(CZ 1 RW zx f1 (toL (s3.sold.den:Int).natAbs))∧(CZ 1 RW zx f4 (toL s3.left.num.natAbs))∧(CZ 1 RW zx f5 (toL (s3.left.den:Int).natAbs))∧(LQ (8+160 * L1.length+13 * kk) s3.sold)∧(LQ (8+160 * L1.length+13 * kk) s3.left)∧(s3.lft=s.lft)) ?_ _ ⟨0,Ra,s,a0,a1,a4,a5,_,LZ.m [] O,rfl,Nat.zero_le _,rfl,TB.wd (by exact hRa.m) (by omega),eRa,k0.m,k1.m,k4.m,k5.m,hls,hll,rfl⟩ (kK (by omega))
   intro n fs ⟨kk,Rc,s3,f0,f1,f4,f5,zx,hL3,hmz3,hkk,hs3,hRc,eRc,k6,k7,kA,kB,hls3,hll3,hl3⟩
   refine hL3.open fun e hzx=>?_
   refine R4 24 O ?_
   refine fl_lenS rfl hS ?_
   refine R3 4 O ?_
   refine xD rfl (fun hc184=>?_) (fun hc184=>?_)
   ·refine fx_kseq ?_
    refine fx_seq (fx_block ?_)
    refine fx_drwS ?_
    obtain ⟨x,hx⟩:=at_lt (l:=sales) (i:=kk) (by omega)
    obtain ⟨x3,x4⟩:=hss x (List.mem_of_getElem? hx)
    refine G1 5 O ?_
    refine gP rfl rfl trivial ?_
    refine fl_iadS rfl rfl hS kk rfl x hx fun b189 p189 cs at189 hR=>lN ?_
    obtain ⟨rc,rd,hcs,hrc,hrd⟩:=hR
    subst hcs
    refine G1 2 O ?_
    refine fg_ldA (i:=⟨_,_,.load _ _ _⟩) (off:=0) rfl rfl trivial rfl at189 ti rfl (by simp) rfl sR ?_
    refine G1 2 O ?_
    refine gl1 O O (.inr Y2) O ?_
    refine gP rfl rfl trivial ?_
    refine lB rfl rfl (b_eqlS _ _) (lN ?_)
    refine G1 2 O ?_
    refine fg_splitD 195 rfl (fun hg195=>?_) (fun hg195=>?_)
    ·refine G1 5 O ?_
     refine gP rfl rfl rfl ?_
     refine fl_iadS rfl rfl hS kk rfl x hx fun b198 p198 cs at198 hR=>lN ?_
     obtain ⟨tc,td,hcs,htc,htd⟩:=hR
     subst hcs
     refine G1 2 O ?_
     refine fg_ldA (i:=⟨_,_,.load _ _ _⟩) (off:=1) rfl rfl rfl rfl at198 ti rfl (by simp) rfl sR ?_
     refine G0 8 O ?_
     refine xD rfl (fun hc203=>?_) (fun hc203=>?_)
     ·refine fx_drwS ?_
      refine G1 2 O ?_
      refine gl4 O O (.inr Y1) O ?_
      refine G1 5 O ?_
      refine gP rfl rfl trivial ?_
      refine fl_iadS rfl rfl hS kk rfl x hx fun b208 p208 cs at208 hR=>lN ?_
      obtain ⟨uc,ud,hcs,huc,hud⟩:=hR
      subst hcs
      refine G1 2 O ?_
      refine fg_ldA (i:=⟨_,_,.load _ _ _⟩) (off:=2) rfl rfl trivial rfl at208 ti rfl (by simp) rfl sR ?_
      refine gC zx (c_ref04_Mul (by omega) hcD.m hdD.m (Nat.le_trans hDl.1 (by omega)) (Nat.le_trans hDl.2 (by omega)) huc.m hud.m (by omega) (by omega)) O O O O fun v211 z211 hz211 hv211=>?_
      rw [valR_c] at hv211
      have hv211:=qv_op hv211
      obtain ⟨c211,d211,hv,hm211,hn211⟩:=hv211
      subst hv
      have hm211:=hm211.mono (zAq (hz28.trans (hzz.trans (hzy.trans (hz70.trans (hz71.trans (hz72.trans (hz73.trans (hzi.trans (hzk.trans (hzu.trans (hzp.trans hzx))))))))))))
      have hn211:=hn211.mono (zAq (hz28.trans (hzz.trans (hzy.trans (hz70.trans (hz71.trans (hz72.trans (hz73.trans (hzi.trans (hzk.trans (hzu.trans (hzp.trans hzx))))))))))))
      have hN:LQ 12 (dfr ms g * rv x.sh):=hDl.mul (lq_rv x3 x4)
      refine gA O O (fun b20 hT20=>?_)
      refine gS O O O ?_
      refine fl_st4 rfl rfl rep0 ?_
      obtain ⟨⟨cR1,tcs,tl⟩,hdT,hrT,_⟩:=hRc.at (y:=y) hyl
      obtain ⟨hclT,t0,t1,ht0,hq0,hq1⟩:=hRc.cell hdT hrT (e:=g.py.toNat) (by omega)
      have htn:tl.length=entsN ms:=by rw [show tl=_ from hrT];exact rowE_len
      refine fl_outR (p:=[_,_,_,_,_,_,_]) rfl hdT ?_
      refine fl_rowC (p:=[]) rfl (by show 0<tl.length;omega) fun bd hbd=>?_
      have hbd:cR1=.sl bd 0 tl.length 4:=by injection hbd
      subst hbd
      have heT:hs[y * 6+1]? = some (.sl bd 0 tl.length 4):=HDq.rr hhs (eRc.trans eRb) hdT
      refine lN ?_
      refine fg_nil ?_
      refine fx_drwS ?_
      refine fg_part (p:=[]) rfl fun hTd=>?_
      refine G1 2 O ?_
      refine gl1 O O (.inr Y4) O ?_
      refine G1 4 O ?_
      refine gl1 O O (.inr Y4) O ?_
      refine G1 2 O ?_
      refine gP rfl rfl trivial ?_
      refine fl_iad rfl rfl (y) (by omega) (by omega) (lN ?_)
      refine G1 2 O ?_
      refine fg_ld1 (i:=⟨_,_,.load _ _ _⟩) rfl rfl trivial rfl (.inr (memS Y4)) (by rw [Nat.zero_add];exact heT) sR ?_
      refine G1 2 O ?_
      refine gl1 O O (.inr Y3) O ?_
      refine gl4 O O Ht O ?_
      refine fg_callLZ z211 (i:=⟨_,_,.call _ _⟩) (c_plus1 (by omega) (e0:=g.py.toNat) (m0:=tl.length) (by omega) (by rw [htn];omega) (by rw [htn];exact hclT) ht0 hq0.m hq1.m (hm211.mono zd_le) (hn211.mono zd_le) ((hRc.2.2 _ _).mono (by omega)) (hN.mono (by omega))) rfl rfl trivial rfl rfl rfl rfl (one_fp hTd) rfl fun v224 z224 H224 hz224 hv224=>?_
      obtain ⟨hv,ra,rb,hH224,hra,hrb⟩:=hv224
      subst hv hH224
      refine gP rfl rfl trivial ?_
      refine fl_iad rfl rfl (y) (by omega) (by omega) (lN ?_)
      refine G1 2 O ?_
      refine gS O O O ?_
      refine fl_stE (cs':=hs) rfl rfl rfl (repS (repS (repS P3))) (by rw [Nat.zero_add];exact setL_at1 heT) rfl (by show _+1≤_;omega) ?_
      refine fl_putTq (ty:=51) (p:=[_,_,_,_,_,_,_]) hRc hdT hrT rfl (by omega) hyl rfl zI hra hrb hN fun Rd hRd eRd=>?_
      refine lN ?_
      refine fg_nil ?_
      refine R4 4 O ?_
      refine fl_ld4 rfl Y2 rfl ?_
      refine fl_ld4 rfl mem0 rfl ?_
      refine lZ z224 (c_ref04_Add (by omega) k6.m k7.m (Nat.le_trans hls3.1 (by omega)) (Nat.le_trans hls3.2 (by omega)) hm211.m hn211.m (Nat.le_trans hN.1 (by omega)) (Nat.le_trans hN.2 (by omega))) rfl rfl fun v230 z230 hz230 hv230=>?_
      simp only [valR_c] at hv230
      have hv230:=qv_op hv230
      obtain ⟨c230,d230,hv,hm230,hn230⟩:=hv230
      subst hv
      have hm230:=hm230.mono (zAq (hz28.trans (hzz.trans (hzy.trans (hz70.trans (hz71.trans (hz72.trans (hz73.trans (hzi.trans (hzk.trans (hzu.trans (hzp.trans (hzx.trans (hz211.trans hz224))))))))))))))
      have hn230:=hn230.mono (zAq (hz28.trans (hzz.trans (hzy.trans (hz70.trans (hz71.trans (hz72.trans (hz73.trans (hzi.trans (hzk.trans (hzu.trans (hzp.trans (hzx.trans (hz211.trans hz224))))))))))))))
      refine lF rfl ?_
      refine fl_stE (cs':=[Cs g.id,Cb (decide ((dfr ms g).num<0)),cD,Cb (decide (((dfr ms g).den:Int)<0)),dD,Cb (decide ((s3.sold+dfr ms g * rv x.sh).num<0)),c230,Cb (decide (((s3.sold+dfr ms g * rv x.sh).den:Int)<0)),d230,Cb (decide (s3.lft.num<0)),a2,Cb (decide ((s3.lft.den:Int)<0)),a3,Cb (decide ((0:Rat).num<0)),c73,Cb (decide (((0:Rat).den:Int)<0)),d73]) rfl rfl rfl P2 rfl rfl (Nat.le_of_ble_eq_true rfl) ?_
      refine lN ?_
      refine xG ?_
      refine fl_ld4 rfl Y1 rfl ?_
      refine fl_ld4 rfl mem0 rfl ?_
      refine lZ z230 (c_ref04_Sub (by omega) kA.m kB.m (Nat.le_trans hll3.1 (by omega)) (Nat.le_trans hll3.2 (by omega)) hm211.m hn211.m (Nat.le_trans hN.1 (by omega)) (Nat.le_trans hN.2 (by omega))) rfl rfl fun v234 z234 _ hv234=>?_
      simp only [valR_c] at hv234
      have hv234:=qv_op hv234
      obtain ⟨c234,d234,hv,hm234,hn234⟩:=hv234
      subst hv
      have hm234:=hm234.mono (zAq (hz28.trans (hzz.trans (hzy.trans (hz70.trans (hz71.trans (hz72.trans (hz73.trans (hzi.trans (hzk.trans (hzu.trans (hzp.trans (hzx.trans (hz211.trans (hz224.trans hz230)))))))))))))))
      have hn234:=hn234.mono (zAq (hz28.trans (hzz.trans (hzy.trans (hz70.trans (hz71.trans (hz72.trans (hz73.trans (hzi.trans (hzk.trans (hzu.trans (hzp.trans (hzx.trans (hz211.trans (hz224.trans hz230)))))))))))))))
      refine fl_st4 rfl rfl P1 ?_
      refine lN ?_
      refine sq_n ?_
      refine xG ?_
      refine lC rfl ?_
      refine lB rfl rfl (bI_add (n:=kk+1) (by omega) (by omega)) ?_
      refine R0 2 O ?_
      exact lq_n (by omega) ⟨kk+1,Rd,⟨s3.left - dfr ms g * rv x.sh,s3.sold+dfr ms g * rv x.sh,s3.lft,s3.rel++[((y,g.py.toNat),dfr ms g * rv x.sh)]⟩,c230,d230,c234,d234,_,LZ.m [_] O,rfl,by omega,by rw [so_ty hx hg195,List.foldl_append,← hs3];exact (stepS_y hc203).symm,TB.nx hRd zI (by omega),eRd.trans eRc,hm230.m,hn230.m,(hm234.mono zd_le),(hn234.mono zd_le),(hls3.add hN).mono (by omega),(hll3.sub hN).mono (by omega),hl3⟩
     refine fx_skip ?_
     refine sq_n ?_
     refine xG ?_
     refine lC rfl ?_
     refine lB rfl rfl (bI_add (n:=kk+1) (by omega) (by omega)) ?_
     refine R0 2 O ?_
     exact lq_n (by omega) ⟨kk+1,Rc,s3,f0,f1,f4,f5,_,LZ.m [] O,rfl,by omega,by rw [so_ty hx hg195,List.foldl_append,← hs3];exact (stepS_n hc203).symm,TB.wd (by exact hRc) (by omega),eRc,k6,k7,kA,kB,hls3.mono (by omega),hll3.mono (by omega),hl3⟩
    refine G0 256 O ?_
    refine fx_condF rfl ?_
    refine fx_skip ?_
    refine sq_n ?_
    refine xG ?_
    refine lC rfl ?_
    refine lB rfl rfl (bI_add (n:=kk+1) (by omega) (by omega)) ?_
    refine R0 2 O ?_
    exact lq_n (by omega) ⟨kk+1,Rc,s3,f0,f1,f4,f5,_,LZ.m [] O,rfl,by omega,by rw [so_tn hx hg195];exact hs3,TB.wd (by exact hRc) (by omega),eRc,k6,k7,kA,kB,hls3.mono (by omega),hll3.mono (by omega),hl3⟩
   refine fx_eseq ?_
   refine lq_e ?_
   refine sq_n ?_
   refine xG ?_
   refine lC rfl ?_
   refine lB rfl rfl (bI_add (n:=y+1) (by omega) (by omega)) ?_
   refine R0 2 O ?_
   rw [List.take_of_length_le (by omega)] at hs3
   have hbt:=hnb2.symm.trans hc149
   exact lq_n (by omega) ⟨y+1,(L1++[y]),s3,Rc,f0,f1,a2,a3,f4,f5,_,LZ.m [] O,rfl,by omega,by omega,later_nx hL hyl (not_c hbt),by rw [List.length_append,List.length_singleton];omega,st_y hsE hbt hs3,TB.wd (by exact hRc) (by rw [List.length_append,List.length_singleton];omega),eRc,k6,k7,by rw [hl3];exact k2.m,by rw [hl3];exact k3.m,kA,kB,hls3.mono (by rw [List.length_append,List.length_singleton];omega),hll3.mono (by rw [List.length_append,List.length_singleton];omega),hl3.trans hlf⟩
  refine fx_eseq ?_
  refine lq_e ?_
  refine sq_n ?_
  refine xR ?_
  refine fl_ld4 rfl mem0 rfl ?_
  refine lF rfl ?_
  refine fl_stE (cs':=[Cs g.id,Cb (decide ((dfr ms g).num<0)),cD,Cb (decide (((dfr ms g).den:Int)<0)),dD,Cb (decide (s.sold.num<0)),a0,Cb (decide ((s.sold.den:Int)<0)),a1,Cb (decide (s.lft.num<0)),a2,Cb (decide ((s.lft.den:Int)<0)),a3,Cb (decide (s.left.num<0)),a4,Cb (decide ((s.left.den:Int)<0)),a5]) rfl rfl rfl P1 rfl rfl (Nat.le_of_ble_eq_true rfl) ?_
  refine lN ?_
  refine xG ?_
  refine lF rfl ?_
  refine fl_ld1 rfl Y3 rfl ?_
  refine fl_ldAll rfl Y1 rfl ?_
  refine fl_bslice (cs:=[Cs g.id,Cb (decide ((dfr ms g).num<0)),cD,Cb (decide (((dfr ms g).den:Int)<0)),dD,Cb (decide (s.sold.num<0)),a0,Cb (decide ((s.sold.den:Int)<0)),a1,Cb (decide (s.lft.num<0)),a2,Cb (decide ((s.lft.den:Int)<0)),a3,Cb (decide (s.left.num<0)),a4,Cb (decide ((s.left.den:Int)<0)),a5]) rfl fun b240=>?_
  refine fl_appB (n:=jj) (m:=1) (cs:=its) rfl rfl mem0 rfl (fun _=>(repS (repS (repS (repS (repS P3)))))) (by omega) (by omega) fun c241 hc241=>?_
  refine lF rfl ?_
  refine fl_stE (cs':=[.sl bo 0 ms.length 6,c241]) rfl rfl rfl (repS P3) rfl rfl (Nat.le_of_ble_eq_true rfl) ?_
  refine lN ?_
  refine sq_n ?_
  refine xG ?_
  refine lC rfl ?_
  refine lB rfl rfl (bI_add (n:=jj+1) (by omega) (by omega)) ?_
  refine R0 2 O ?_
  have hsF:s=gst ms pa g (salesOf sales g.id) (yrs ms g (ms.length - (g.yr.toNat+1)) (g.yr.toNat+1)):=by rw [hsE];rw [later_out hL (by omega)]
  exact lq_n (by omega) ⟨jj+1,c241,T1,Ra,_,_,LZ.m [_,_,_,_] O,rfl,by omega,by rw [taken_s hg];exact TB.wd (by exact hT1.m) (by omega),by rw [rel_s hg,goodR_g,← hsF];exact TB.wd (by exact hRa) (by omega),eT1.trans eTb,eRa.trans eRb,by rw [tk_some hg,List.map_append];exact (hIb.m).append (CL.one rfl ⟨cD,dD,a0,a1,a2,a3,a4,a5,by rw [itemOf,goodR_g,← hsF],hcD.m,hdD.m,by rw [itemOf,goodR_g,← hsF];exact k0,by rw [itemOf,goodR_g,← hsF];exact k1,by rw [itemOf,goodR_g,← hsF];exact k2,by rw [itemOf,goodR_g,← hsF];exact k3,by rw [itemOf,goodR_g,← hsF];exact k4,by rw [itemOf,goodR_g,← hsF];exact k5⟩)⟩
 refine fx_eseq ?_
 refine lq_e ?_
 refine sq_n ?_
 refine xR ?_
 obtain rfl:jj=goods.length:=by omega
 rw [List.take_of_length_le (Nat.le_refl _)] at hTb hRb hIb
 replace hTb:=hTb.wd (v:=73) (by omega)
 replace hRb:=hRb.wd (v:=96001) (by omega)
 refine fl_frzMR (p:=[_,_]) (D:=Tb) rfl (TB.frz (hTb) (by omega)) fun zfT hzfT hZT=>?_
 have hZT:TZ zfT Tb:=hZT
 refine fl_frzMR (p:=[_,_]) (D:=Rb) rfl (TB.frz ((hRb.mono (hzfT))) (by omega)) fun zfR hzfR hZR=>?_
 have hZR:TZ zfR Rb:=hZR
 have hrows:=cl_hd2 hhs eTb eRb hTb hRb (hZT.mono (hzfR)) hZR
 refine lZ zfR (c_ref04_Zero (by omega)) rfl rfl fun v243 z243 hz243 hv243=>?_
 have hv243:=qv_op hv243
 obtain ⟨c243,d243,hv,hm243,hn243⟩:=hv243
 subst hv
 have hm243:=hm243.mono (zAq (hz28.trans (hzz.trans (hzy.trans (hzfT.trans hzfR)))))
 have hn243:=hn243.mono (zAq (hz28.trans (hzz.trans (hzy.trans (hzfT.trans hzfR)))))
 refine fl_al4 fun b21=>?_
 refine fl_st4 rfl rfl rep0 ?_
 refine lN ?_
 refine R5 8 O ?_
 refine fx_seq (fx_block ?_)
 refine fx_loop (fun n fs=>∃ (y:Nat) (q:Rat) (c3:C) (d3:C) (cs:List C) (zw:Mem),LZ z243 zw [.blk b21 (.cells 51 [Cb (decide (q.num<0)),c3,Cb (decide ((q.den:Int)<0)),d3]),.blk b10 (.cells 67 [.sl bo 0 ms.length 6,cI]),.blk bo (.cells 184 cs),.row (.c cI) 186 17 goods.length its,.blk b8 (.cells 67 [Cz,Cz])] [(8,Ap b8),(10,Ap b10),(21,Ap b21),(22,Az y)] fs∧n=ms.length - y∧(y≤ms.length)∧(q=bals (takenL ms goods) (relL ms pa goods sales) (entsN ms) y)∧(LQ (768612 * y+1) q)∧(CZ 1 RW zw c3 (toL q.num.natAbs))∧(CZ 1 RW zw d3 (toL (q.den:Int).natAbs))∧(CL 6 RLRow2 zw cs (rowsK (takenL ms goods) (relL ms pa goods sales) ms.length (entsN ms) y))) ?_ _ ⟨0,0,c243,d243,hs,_,LZ.m [] O,rfl,Nat.zero_le _,rfl,lq_zero,(hm243.mono zd_le),(hn243.mono zd_le),hrows.m⟩ (kK (by omega))
 intro n fs ⟨y,q,c3,d3,cs,zw,hL4,hmz4,hy,hq,hql,hqm,hqn,hrw⟩
 refine hL4.open fun e hzw=>?_
 refine R4 16 O ?_
 refine fl_ld1 rfl Y1 rfl ?_
 refine fl_len rfl rfl ?_
 refine R3 4 O ?_
 refine xD rfl (fun hc248=>?_) (fun hc248=>?_)
 ·refine fx_kseq ?_
  refine fx_seq (fx_block ?_)
  refine fx_drwS ?_
  have hlt:y<ms.length:=by omega
  have hcl:cs.length=ms.length * 6:=by rw [hrw.1,rowsK_len]
  obtain ⟨ct,cr,u0,u1,u2,u3,h62,hct,hcr⟩:=cl_row2 hrw hlt
  have h60:=drop_at h62
  have h61:=drop_at1 h62
  have hsT:LQ 593 (sumQ (rowE (takenL ms goods) y (entsN ms))):=row_sum hTb.2.2 he8 (by omega)
  have hsR:LQ 768017 (sumQ (rowE (relL ms pa goods sales) y (entsN ms))):=row_sum hRb.2.2 he8 (by omega)
  have hqs:=(hql.add hsT).mono (n:=9000000) (by omega)
  refine gl4 O O Ht O ?_
  refine G1 2 O ?_
  refine gl1 O O (.inr Y1) O ?_
  refine G1 2 O ?_
  refine gP rfl rfl trivial ?_
  refine fl_iad rfl rfl (y) (by omega) (by omega) (lN ?_)
  refine G1 2 O ?_
  refine fg_ld1 (i:=⟨_,_,.load _ _ _⟩) rfl rfl trivial rfl (.inr Y2) (by rw [Nat.zero_add];exact h60) sR ?_
  refine gC zw (c_ref04_SumL (by omega) (m:=73) hct (row_lq hTb.2.2) (by rw [rowE_len];omega)) O O O O fun v258 z258 hz258 hv258=>?_
  have hv258:=qv_op hv258
  obtain ⟨c258,d258,hv,hm258,hn258⟩:=hv258
  subst hv
  have hm258:=hm258.mono (zAq (hz28.trans (hzz.trans (hzy.trans (hzfT.trans (hzfR.trans (hz243.trans hzw)))))))
  have hn258:=hn258.mono (zAq (hz28.trans (hzz.trans (hzy.trans (hzfT.trans (hzfR.trans (hz243.trans hzw)))))))
  refine gC z258 (c_ref04_Add (by omega) hqm.m hqn.m (Nat.le_trans hql.1 (by omega)) (Nat.le_trans hql.2 (by omega)) (hm258.mono zd_le) (hn258.mono zd_le) (Nat.le_trans hsT.1 (by omega)) (Nat.le_trans hsT.2 (by omega))) O O O O fun v259 z259 hz259 hv259=>?_
  simp only [valR_c] at hv259
  have hv259:=qv_op hv259
  obtain ⟨c259,d259,hv,hm259,hn259⟩:=hv259
  subst hv
  have hm259:=hm259.mono (zAq (hz28.trans (hzz.trans (hzy.trans (hzfT.trans (hzfR.trans (hz243.trans (hzw.trans hz258))))))))
  have hn259:=hn259.mono (zAq (hz28.trans (hzz.trans (hzy.trans (hzfT.trans (hzfR.trans (hz243.trans (hzw.trans hz258))))))))
  refine G1 2 O ?_
  refine gl1 O O (.inr Y1) O ?_
  refine G1 2 O ?_
  refine gP rfl rfl trivial ?_
  refine fl_iad rfl rfl (y) (by omega) (by omega) (lN ?_)
  refine G1 2 O ?_
  refine fg_ld1 (i:=⟨_,_,.load _ _ _⟩) rfl rfl trivial rfl (.inr Y2) (by rw [Nat.zero_add];exact h61) sR ?_
  refine gC z259 (c_ref04_SumL (by omega) (m:=96001) hcr.m (row_lq hRb.2.2) (by rw [rowE_len];omega)) O O O O fun v266 z266 hz266 hv266=>?_
  have hv266:=qv_op hv266
  obtain ⟨c266,d266,hv,hm266,hn266⟩:=hv266
  subst hv
  have hm266:=hm266.mono (zAq (hz28.trans (hzz.trans (hzy.trans (hzfT.trans (hzfR.trans (hz243.trans (hzw.trans (hz258.trans hz259)))))))))
  have hn266:=hn266.mono (zAq (hz28.trans (hzz.trans (hzy.trans (hzfT.trans (hzfR.trans (hz243.trans (hzw.trans (hz258.trans hz259)))))))))
  refine gC z266 (c_ref04_Sub (by omega) hm259.m hn259.m (Nat.le_trans hqs.1 (by decide)) (Nat.le_trans hqs.2 (by decide)) (hm266.mono zd_le) (hn266.mono zd_le) (Nat.le_trans hsR.1 (by omega)) (Nat.le_trans hsR.2 (by omega))) O O O O fun v267 z267 _ hv267=>?_
  simp only [valR_c] at hv267
  have hv267:=qv_op hv267
  obtain ⟨c267,d267,hv,hm267,hn267⟩:=hv267
  subst hv
  have hm267:=hm267.mono (zAq (hz28.trans (hzz.trans (hzy.trans (hzfT.trans (hzfR.trans (hz243.trans (hzw.trans (hz258.trans (hz259.trans hz266))))))))))
  have hn267:=hn267.mono (zAq (hz28.trans (hzz.trans (hzy.trans (hzfT.trans (hzfR.trans (hz243.trans (hzw.trans (hz258.trans (hz259.trans hz266))))))))))
  refine gS O O O ?_
  refine fl_st4 rfl rfl rep0 ?_
  refine lN ?_
  refine fg_nil ?_
  refine R4 4 O ?_
  refine fl_ld1 rfl Y1 rfl ?_
  refine lC rfl ?_
  refine fl_iad rfl rfl y rfl (by omega) ?_
  refine fl_ld (v:=.agg [ct,cr,u0,u1,u2,u3]) rfl Y2 (by rw [hcl];omega) (by rw [Nat.zero_add,h62];rfl) ?_
  refine fl_alloc fun b23=>?_
  refine fl_stAll rfl rfl rfl rfl rep0 ?_
  refine lN ?_
  refine xR ?_
  refine fl_ld4 rfl Y1 rfl ?_
  refine lF rfl ?_
  refine fl_stE (cs':=[ct,cr,Cb (decide ((q+sumQ (rowE (takenL ms goods) y (entsN ms)) - sumQ (rowE (relL ms pa goods sales) y (entsN ms))).num<0)),c267,Cb (decide (((q+sumQ (rowE (takenL ms goods) y (entsN ms)) - sumQ (rowE (relL ms pa goods sales) y (entsN ms))).den:Int)<0)),d267]) rfl rfl rfl rep0 rfl rfl (Nat.le_of_ble_eq_true rfl) ?_
  refine lN ?_
  refine xG ?_
  refine lF rfl ?_
  refine fl_ld1 rfl Y2 rfl ?_
  refine lC rfl ?_
  refine fl_ldAll rfl mem0 rfl ?_
  refine fl_iad rfl rfl y rfl (by omega) ?_
  refine fl_stE (cs':=setL cs (y * 6) [ct,cr,Cb (decide ((q+sumQ (rowE (takenL ms goods) y (entsN ms)) - sumQ (rowE (relL ms pa goods sales) y (entsN ms))).num<0)),c267,Cb (decide (((q+sumQ (rowE (takenL ms goods) y (entsN ms)) - sumQ (rowE (relL ms pa goods sales) y (entsN ms))).den:Int)<0)),d267]) rfl rfl rfl P3 (by rw [Nat.zero_add]) rfl (by show _+6≤_;omega) ?_
  refine lN ?_
  refine sq_n ?_
  refine xG ?_
  refine lC rfl ?_
  refine lB rfl rfl (bI_add (n:=y+1) (by omega) (by omega)) ?_
  refine R0 2 O ?_
  exact lq_n (by omega) ⟨y+1,(q+sumQ (rowE (takenL ms goods) y (entsN ms)) - sumQ (rowE (relL ms pa goods sales) y (entsN ms))),c267,d267,_,_,LZ.m [_] O,rfl,by omega,by rw [bals,← hq],((hql.add hsT).sub hsR).mono (by omega),(hm267.mono zd_le),(hn267.mono zd_le),cl_bal2 (hrw.m) hlt (hct.m) (hcr.m) (by rw [bals,← hq]) ((hm267.mono zd_le)) ((hn267.mono zd_le))⟩
 refine fx_eseq ?_
 refine lq_e ?_
 refine sq_n ?_
 refine xR ?_
 refine fl_ld2 rfl Y1 rfl ?_
 refine fl_st2 rfl rfl (repS P3) ?_
 refine lC rfl ?_
 obtain rfl:y=ms.length:=by omega
 have hcl:cs.length=ms.length * 6:=by rw [hrw.1,rowsK_len]
 refine fl_asrow (p:=[_,_]) (n:=ms.length) (size:=6) rfl hcl ?_
 refine fl_frzSv (p:=[_,_]) rfl (rl_all (hrw)) rowsK_len (by omega) fun zo hzo hzrow=>?_
 refine fl_frzSv (p:=[_,_]) rfl ((hIb.mono (hzfT.trans (hzfR.trans (hz243.trans (hzw.trans hzo)))))) (by rw [List.length_map]) (by omega) fun zp hzp hzit=>?_
 refine lN ?_
 refine xT ?_
 refine rQ (.inl rfl) (rc2 rfl Y2 (rt rfl rn)) ?_
 exact ⟨0,_,_,rfl,.inl ⟨rfl,hRG,hSG⟩,by rw [rowsX,if_pos rfl];exact hzrow.m,by rw [itemsX,if_pos rfl];exact hzit⟩
end Go.Proofs.YtlceligcgelbdaaGreat
