/- The reference's goods and sales; whether they may be, walked. -/
import Derived.WalkKit
import Derived.Orders
import Derived.Test.YtlceligcgelbdaaGreatJF7
set_option linter.unusedVariables false
set_option linter.unusedSimpArgs false
set_option maxRecDepth 100000
set_option maxHeartbeats 1000000
namespace Go.Proofs.YtlceligcgelbdaaGreat
open Go.CE Go.RowKit Go.Num
open Go.Eng (setL)
theorem neqS {a:ByteArray}:binW .neq (.string a) (.string a)=some (.bool false):=(b_neqS _ _).trans (by rw [decide_eq_true rfl];rfl)
theorem mk_sale {z:Mem} {a:PSale} {c0 c1:C} (g0:CZ 1 RW z c0 a.sh.nm) (g1:CZ 1 RW z c1 a.sh.dm):RSale z [Cs a.id,Ci a.yr,Cb a.sh.n,c0,Cb a.sh.d,c1] a:=⟨c0,c1,rfl,g0,g1⟩
theorem lrow_ok {z:Mem} {cs:List C} {r:PRow} {b:Rat} (h:RLRow z cs r) (hb:r.2=some b):∃ c d e f,cs=[c,d,Cb (decide (b.num<0)),e,Cb (decide ((b.den:Int)<0)),f]∧CZ 4 RV z c r.1.1∧CZ 4 RV z d r.1.2∧CZ 1 RW z e (toL b.num.natAbs)∧CZ 1 RW z f (toL (b.den:Int).natAbs):=by
 obtain ⟨c,d,e,h1,h2,h3,h4⟩:=h
 rw [hb] at h4
 obtain ⟨e1,e2,h4,h5,h6⟩:=h4
 subst h4
 exact ⟨c,d,e1,e2,h1,h2,h3,h5,h6⟩
theorem sum4_sz {z:Mem} {b ty:Nat} {p q r s:Rat} {c0 c1 c2 c3 c4 c5 c6 c7:C} (h:z b (.cells ty [Cb (decide (p.num<0)),c0,Cb (decide ((p.den:Int)<0)),c1,Cb (decide (q.num<0)),c2,Cb (decide ((q.den:Int)<0)),c3,Cb (decide (r.num<0)),c4,Cb (decide ((r.den:Int)<0)),c5,Cb (decide (s.num<0)),c6,Cb (decide ((s.den:Int)<0)),c7])) (h0:CZ 1 RW z c0 (toL p.num.natAbs)) (h1:CZ 1 RW z c1 (toL (p.den:Int).natAbs)) (h2:CZ 1 RW z c2 (toL q.num.natAbs)) (h3:CZ 1 RW z c3 (toL (q.den:Int).natAbs)) (h4:CZ 1 RW z c4 (toL r.num.natAbs)) (h5:CZ 1 RW z c5 (toL (r.den:Int).natAbs)) (h6:CZ 1 RW z c6 (toL s.num.natAbs)) (h7:CZ 1 RW z c7 (toL (s.den:Int).natAbs)):SZ 4 RV z (.c (.sl b 0 4 4)) [p,q,r,s]:=
 CL.sz (l:=[p,q,r,s]) (show CL 4 RV z ([Cb (decide (p.num<0)),c0,Cb (decide ((p.den:Int)<0)),c1]++([Cb (decide (q.num<0)),c2,Cb (decide ((q.den:Int)<0)),c3]++([Cb (decide (r.num<0)),c4,Cb (decide ((r.den:Int)<0)),c5]++[Cb (decide (s.num<0)),c6,Cb (decide ((s.den:Int)<0)),c7]))) ([p]++([q]++([r]++[s]))) from (CL.one rfl ⟨_,_,rfl,h0,h1⟩).append ((CL.one rfl ⟨_,_,rfl,h2,h3⟩).append ((CL.one rfl ⟨_,_,rfl,h4,h5⟩).append (CL.one rfl ⟨_,_,rfl,h6,h7⟩)))) rfl (len1 rfl) h
theorem c_law22_refGoods {k:Nat} (hk:3≤k) {z:Mem} {v:AV} {l:List PGood} (hx:SZ 12 RGood z v l) (hl:l.length≤1000) (hs:∀ a,a∈l→SG a):FC (E k) 26 [v] z fun u z'=>SZ 12 RGood (zd z z') u l:=by
 have hxl:=hx.le
 refine fc_of (tS_get26) (by omega) (len1 rfl) fun B j hj=>?_
 refine R4 16 O ?_
 refine fl_row0 177 12 ?_
 refine lN ?_
 refine R5 8 O ?_
 refine fx_seq (fx_block ?_)
 refine fx_loop (fun n fs=>∃ (i:Nat) (u:AV) (csx:List C) (zz:Mem),LZ z zz [.row u 177 12 i csx] [(0,v),(3,u),(4,Az i)] fs∧n=l.length - i∧(i≤l.length)∧(CL 12 RGood (zd z zz) csx (l.take i))) ?_ _ ⟨0,nilv,[],_,LZ.m [] O,rfl,Nat.zero_le _,CL.nil⟩ (kK (by omega))
 intro n fs ⟨i,u,csx,zz,hL0,hmz0,hi,hcl⟩
 refine hL0.open fun e hzz=>?_
 refine R4 24 O ?_
 refine fl_lenS rfl hx ?_
 refine R3 4 O ?_
 refine xD rfl (fun hc9=>?_) (fun hc9=>?_)
 ·refine fx_kseq ?_
  refine fx_seq (fx_block ?_)
  refine xR ?_
  obtain ⟨a,ha⟩:=at_lt (l:=l) (i:=i) (by omega)
  obtain ⟨y1,y2,y3,y4⟩:=hs a (List.mem_of_getElem? ha)
  refine R1 5 O ?_
  refine fl_iadS (zz:=zz) rfl rfl hx.m i rfl a ha fun b14 p14 cs at14 hR=>?_
  obtain ⟨u0,u1,u2,u3,hcs,g0,g1,g2,g3⟩:=hR
  subst hcs
  refine fl_ldA (off:=0) rfl at14 rfl (by simp) rfl ?_
  refine fl_alloc fun b5=>?_
  refine fl_stAll rfl rfl rfl rfl rep0 ?_
  refine lN ?_
  refine fx_drw ?_
  refine G1 5 O ?_
  refine gl1 O O Ht O ?_
  refine G1 2 O ?_
  refine gl1 O O Ht O ?_
  refine G1 2 O ?_
  refine gl1 O O Ht O ?_
  refine G1 2 O ?_
  refine gl1 O O Ht O ?_
  refine G1 2 O ?_
  refine gl4 O O Ht O ?_
  refine gC zz (c_fil_RefRat (by omega) g0 g1 (by omega) (by omega)) O O O O fun v27 z27 hz27 hv27=>?_
  obtain ⟨c27,d27,hv,hm27,hn27⟩:=hv27
  subst hv
  have hm27:=hm27.mono (zAq (hzz))
  have hn27:=hn27.mono (zAq (hzz))
  refine G1 2 O ?_
  refine gl4 O O Ht O ?_
  refine gC z27 (c_fil_RefRat (by omega) g2.m g3.m (by omega) (by omega)) O O O O fun v30 z30 _ hv30=>?_
  obtain ⟨c30,d30,hv,hm30,hn30⟩:=hv30
  subst hv
  have hm30:=hm30.mono (zAq (hzz.trans hz27))
  have hn30:=hn30.mono (zAq (hzz.trans hz27))
  refine gP rfl rfl trivial ?_
  refine fl_bd (cs:=[Cs a.id,Ci a.yr,Ci a.py,Ci a.pr,Cb a.mg.n,c27,Cb a.mg.d,d27,Cb a.us.n,c30,Cb a.us.d,d30]) (by kernel_rfl) (lN ?_)
  refine fg_own (k:=.cells 177 [Cs a.id,Ci a.yr,Ci a.py,Ci a.pr,Cb a.mg.n,c27,Cb a.mg.d,d27,Cb a.us.n,c30,Cb a.us.d,d30]) (w:=fun b=>.c (.sl b 0 1 12)) rfl trivial rfl (fun _=>rfl) (fun st hst=>?_) (fun b32 hT32=>?_)
  ·simp only [stepE,fillS,AS.ev,hst 31 (by simp [Ins.sl,Od.sls,Od.sl])];rfl
  refine fg_app (i:=⟨_,_,.app _ _ _ _ _ _⟩) rfl trivial rfl rfl rfl rfl ?_
  refine fl_appB (n:=i) (m:=1) (cs:=csx) rfl rfl mem0 rfl (fun _=>repS P1) (by omega) (by omega) fun c33 hc33=>lN ?_
  refine G0 2 O ?_
  refine sq_n ?_
  refine xG ?_
  refine lC rfl ?_
  refine lB rfl rfl (bI_add (n:=i+1) (by omega) (by omega)) ?_
  refine R0 2 O ?_
  exact lq_n (by omega) ⟨i+1,_,_,_,LZ.m [_,_] O,rfl,by omega,by rw [tk_some ha];exact ((hcl.mono (zd_mono zI))).append (CL.one rfl ⟨_,_,_,_,rfl,(hm27.mono (zd_mono zI)),(hn27.mono (zd_mono zI)),hm30,hn30⟩)⟩
 refine fx_eseq ?_
 refine lq_e ?_
 refine sq_n ?_
 refine R5 14 O ?_
 refine fx_frzN (z0:=z) (p:=[]) rfl zI (hcl) (by rw [List.length_take];omega) (by omega) fun zr _ hsr=>?_
 refine xT ?_
 refine rI O ?_
 rw [List.take_of_length_le (by omega)] at hsr
 exact hsr
theorem c_law22_refSales {k:Nat} (hk:3≤k) {z:Mem} {v:AV} {l:List PSale} (hx:SZ 6 RSale z v l) (hl:l.length≤1000) (hs:∀ a,a∈l→a.sh.nm.length≤1000000∧a.sh.dm.length≤1000000):FC (E k) 27 [v] z fun u z'=>SZ 6 RSale (zd z z') u l:=by
 have hxl:=hx.le
 refine fc_of (tS_get27) (by omega) (len1 rfl) fun B j hj=>?_
 refine R4 16 O ?_
 refine fl_row0 179 6 ?_
 refine lN ?_
 refine R5 8 O ?_
 refine fx_seq (fx_block ?_)
 refine fx_loop (fun n fs=>∃ (i:Nat) (u:AV) (csx:List C) (zz:Mem),LZ z zz [.row u 179 6 i csx] [(0,v),(3,u),(4,Az i)] fs∧n=l.length - i∧(i≤l.length)∧(CL 6 RSale (zd z zz) csx (l.take i))) ?_ _ ⟨0,nilv,[],_,LZ.m [] O,rfl,Nat.zero_le _,CL.nil⟩ (kK (by omega))
 intro n fs ⟨i,u,csx,zz,hL0,hmz0,hi,hcl⟩
 refine hL0.open fun e hzz=>?_
 refine R4 24 O ?_
 refine fl_lenS rfl hx ?_
 refine R3 4 O ?_
 refine xD rfl (fun hc8=>?_) (fun hc8=>?_)
 ·refine fx_kseq ?_
  refine fx_seq (fx_block ?_)
  refine fx_drw ?_
  obtain ⟨a,ha⟩:=at_lt (l:=l) (i:=i) (by omega)
  have hsm:=hs a (List.mem_of_getElem? ha)
  refine G1 11 O ?_
  refine gP rfl rfl trivial ?_
  refine fl_iadS (zz:=zz) rfl rfl hx.m i rfl a ha fun b14 p14 cs at14 hR=>lN ?_
  obtain ⟨c14,d14,hcs,q14,r14⟩:=hR
  subst hcs
  refine G1 2 O ?_
  refine fg_ldA (i:=⟨_,_,.load _ _ _⟩) (off:=0) rfl rfl trivial rfl at14 ti rfl (by simp) rfl sR ?_
  refine G1 5 O ?_
  refine gP rfl rfl trivial ?_
  refine fl_iadS (zz:=zz) rfl rfl hx.m i rfl a ha fun b19 p19 cs at19 hR=>lN ?_
  obtain ⟨c19,d19,hcs,q19,r19⟩:=hR
  subst hcs
  refine G1 2 O ?_
  refine fg_ldA (i:=⟨_,_,.load _ _ _⟩) (off:=1) rfl rfl trivial rfl at19 ti rfl (by simp) rfl sR ?_
  refine G1 5 O ?_
  refine gP rfl rfl trivial ?_
  refine fl_iadS (zz:=zz) rfl rfl hx.m i rfl a ha fun b24 p24 cs at24 hR=>lN ?_
  obtain ⟨c24,d24,hcs,q24,r24⟩:=hR
  subst hcs
  refine G1 2 O ?_
  refine fg_ldA (i:=⟨_,_,.load _ _ _⟩) (off:=2) rfl rfl trivial rfl at24 ti rfl (by simp) rfl sR ?_
  refine gC zz (c_fil_RefRat (by omega) q24.m r24.m (by have:=hsm.1;omega) (by have:=hsm.2;omega)) O O O O fun v27 z27 _ hv27=>?_
  obtain ⟨c27,d27,hv,hm27,hn27⟩:=hv27
  subst hv
  have hm27:=hm27.mono (zAq (hzz))
  have hn27:=hn27.mono (zAq (hzz))
  refine gP rfl rfl trivial ?_
  refine fl_bd (cs:=[Cs a.id,Ci a.yr,Cb a.sh.n,c27,Cb a.sh.d,d27]) rfl (lN ?_)
  refine fg_own (k:=.cells 179 [Cs a.id,Ci a.yr,Cb a.sh.n,c27,Cb a.sh.d,d27]) (w:=fun b=>.c (.sl b 0 1 6)) rfl trivial rfl (fun _=>rfl) (fun st hst=>?_) (fun b29 hT29=>?_)
  ·simp only [stepE,fillS,AS.ev,hst 28 (by simp [Ins.sl,Od.sls,Od.sl])];rfl
  refine fg_app (i:=⟨_,_,.app _ _ _ _ _ _⟩) rfl trivial rfl rfl rfl rfl ?_
  refine fl_appB (n:=i) (m:=1) (cs:=csx) rfl rfl mem0 rfl (fun _=>repS rep0) (by omega) (by omega) fun c30 hc30=>lN ?_
  refine G0 2 O ?_
  refine sq_n ?_
  refine xG ?_
  refine lC rfl ?_
  refine lB rfl rfl (bI_add (n:=i+1) (by omega) (by omega)) ?_
  refine R0 2 O ?_
  exact lq_n (by omega) ⟨i+1,_,_,_,LZ.m [_] O,rfl,by omega,by rw [tk_some ha];exact ((hcl.mono (zd_mono zI))).append (CL.one rfl (mk_sale hm27 hn27))⟩
 refine fx_eseq ?_
 refine lq_e ?_
 refine sq_n ?_
 refine R5 14 O ?_
 refine fx_frzN (z0:=z) (p:=[]) rfl zI (hcl) (by rw [List.length_take];omega) (by omega) fun zr _ hsr=>?_
 refine xT ?_
 refine rI O ?_
 rw [List.take_of_length_le (by omega)] at hsr
 exact hsr
theorem c_law22_sameGoods {k:Nat} (hk:3≤k) {z:Mem} {u v:AV} {l:List PGood} (hx:SZ 12 RGood z u l) (hy:SZ 12 RGood z v l):FC (E k) 32 [u,v] z fun u _=>u=bool_ true:=by
 have hxl:=hx.le
 refine fc_of (tS_get32) (by omega) (len1 rfl) fun B j hj=>?_
 refine R4 48 O ?_
 refine fl_lenS rfl hx ?_
 refine lM rfl ?_
 refine fl_lenS rfl hy ?_
 refine lB rfl rfl neqI ?_
 refine lN ?_
 refine R5 64 O ?_
 refine fx_seq (fx_block ?_)
 refine fx_loop (fun n fs=>∃ (i:Nat),LI z [] [(0,u),(1,v),(5,Az i)] fs∧n=l.length - i∧(i≤l.length)) ?_ _ ⟨0,LI.m [] O,rfl,Nat.zero_le _⟩ (kK (by omega))
 intro n fs ⟨i,hL0,hmz0,hi⟩
 refine hL0.open fun e zl0 _=>?_
 refine R4 24 O ?_
 refine fl_lenS rfl hx ?_
 refine R3 4 O ?_
 refine xD rfl (fun hc14=>?_) (fun hc14=>?_)
 ·refine fx_kseq ?_
  refine fx_seq (fx_block ?_)
  refine fx_drwS ?_
  obtain ⟨a,ha⟩:=at_lt (l:=l) (i:=i) (by omega)
  refine G1 5 O ?_
  refine gP rfl rfl trivial ?_
  refine fl_iadS rfl rfl hx i rfl a ha fun b19 p19 cs at19 hR=>lN ?_
  obtain ⟨s19,t19,u19,w19,hcs,hm19,hn19,ho19,hp19⟩:=hR
  subst hcs
  refine G1 2 O ?_
  refine fg_ldA (i:=⟨_,_,.load _ _ _⟩) (off:=0) rfl rfl trivial rfl at19 ti rfl (by simp) rfl sR ?_
  refine G1 5 O ?_
  refine gP rfl rfl trivial ?_
  refine fl_iadS rfl rfl hy i rfl a ha fun b24 p24 cs at24 hR=>lN ?_
  obtain ⟨s24,t24,u24,w24,hcs,hm24,hn24,ho24,hp24⟩:=hR
  subst hcs
  refine G1 2 O ?_
  refine fg_ldA (i:=⟨_,_,.load _ _ _⟩) (off:=0) rfl rfl trivial rfl at24 ti rfl (by simp) rfl sR ?_
  refine gP rfl rfl trivial ?_
  refine lB rfl rfl neqS (lN ?_)
  refine G1 10 O ?_
  refine gP rfl rfl rfl ?_
  refine fl_iadS rfl rfl hx i rfl a ha fun b31 p31 cs at31 hR=>lN ?_
  obtain ⟨s31,t31,u31,w31,hcs,hm31,hn31,ho31,hp31⟩:=hR
  subst hcs
  refine G1 2 O ?_
  refine fg_ldA (i:=⟨_,_,.load _ _ _⟩) (off:=1) rfl rfl rfl rfl at31 ti rfl (by simp) rfl sR ?_
  refine G1 5 O ?_
  refine gP rfl rfl rfl ?_
  refine fl_iadS rfl rfl hy i rfl a ha fun b36 p36 cs at36 hR=>lN ?_
  obtain ⟨s36,t36,u36,w36,hcs,hm36,hn36,ho36,hp36⟩:=hR
  subst hcs
  refine G1 2 O ?_
  refine fg_ldA (i:=⟨_,_,.load _ _ _⟩) (off:=1) rfl rfl rfl rfl at36 ti rfl (by simp) rfl sR ?_
  refine gP rfl rfl rfl ?_
  refine lB rfl rfl neqI (lN ?_)
  refine G1 22 O ?_
  refine gP rfl rfl rfl ?_
  refine fl_iadS rfl rfl hx i rfl a ha fun b44 p44 cs at44 hR=>lN ?_
  obtain ⟨s44,t44,u44,w44,hcs,hm44,hn44,ho44,hp44⟩:=hR
  subst hcs
  refine G1 2 O ?_
  refine fg_ldA (i:=⟨_,_,.load _ _ _⟩) (off:=2) rfl rfl rfl rfl at44 ti rfl (by simp) rfl sR ?_
  refine G1 5 O ?_
  refine gP rfl rfl rfl ?_
  refine fl_iadS rfl rfl hy i rfl a ha fun b49 p49 cs at49 hR=>lN ?_
  obtain ⟨s49,t49,u49,w49,hcs,hm49,hn49,ho49,hp49⟩:=hR
  subst hcs
  refine G1 2 O ?_
  refine fg_ldA (i:=⟨_,_,.load _ _ _⟩) (off:=2) rfl rfl rfl rfl at49 ti rfl (by simp) rfl sR ?_
  refine gP rfl rfl rfl ?_
  refine lB rfl rfl neqI (lN ?_)
  refine G1 22 O ?_
  refine gP rfl rfl rfl ?_
  refine fl_iadS rfl rfl hx i rfl a ha fun b57 p57 cs at57 hR=>lN ?_
  obtain ⟨s57,t57,u57,w57,hcs,hm57,hn57,ho57,hp57⟩:=hR
  subst hcs
  refine G1 2 O ?_
  refine fg_ldA (i:=⟨_,_,.load _ _ _⟩) (off:=3) rfl rfl rfl rfl at57 ti rfl (by simp) rfl sR ?_
  refine G1 5 O ?_
  refine gP rfl rfl rfl ?_
  refine fl_iadS rfl rfl hy i rfl a ha fun b62 p62 cs at62 hR=>lN ?_
  obtain ⟨s62,t62,u62,w62,hcs,hm62,hn62,ho62,hp62⟩:=hR
  subst hcs
  refine G1 2 O ?_
  refine fg_ldA (i:=⟨_,_,.load _ _ _⟩) (off:=3) rfl rfl rfl rfl at62 ti rfl (by simp) rfl sR ?_
  refine gP rfl rfl rfl ?_
  refine lB rfl rfl neqI (lN ?_)
  refine G1 22 O ?_
  refine gP rfl rfl rfl ?_
  refine fl_iadS rfl rfl hx i rfl a ha fun b70 p70 cs at70 hR=>lN ?_
  obtain ⟨s70,t70,u70,w70,hcs,hm70,hn70,ho70,hp70⟩:=hR
  subst hcs
  refine G1 2 O ?_
  refine fg_ldA (i:=⟨_,_,.load _ _ _⟩) (off:=4) rfl rfl rfl rfl at70 ti rfl (by simp) rfl sR ?_
  refine G1 5 O ?_
  refine gP rfl rfl rfl ?_
  refine fl_iadS rfl rfl hy i rfl a ha fun b75 p75 cs at75 hR=>lN ?_
  obtain ⟨s75,t75,u75,w75,hcs,hm75,hn75,ho75,hp75⟩:=hR
  subst hcs
  refine G1 2 O ?_
  refine fg_ldA (i:=⟨_,_,.load _ _ _⟩) (off:=4) rfl rfl rfl rfl at75 ti rfl (by simp) rfl sR ?_
  refine gE zl0 (c_fil_IsRat (by omega) hm70.m hn70.m hm75.m hn75.m) O O O O fun z78 _=>?_
  refine G1 44 O ?_
  refine gP rfl rfl rfl ?_
  refine fl_iadS rfl rfl hx i rfl a ha fun b84 p84 cs at84 hR=>lN ?_
  obtain ⟨s84,t84,u84,w84,hcs,hm84,hn84,ho84,hp84⟩:=hR
  subst hcs
  refine G1 2 O ?_
  refine fg_ldA (i:=⟨_,_,.load _ _ _⟩) (off:=8) rfl rfl rfl rfl at84 ti rfl (by simp) rfl sR ?_
  refine G1 5 O ?_
  refine gP rfl rfl rfl ?_
  refine fl_iadS rfl rfl hy i rfl a ha fun b89 p89 cs at89 hR=>lN ?_
  obtain ⟨s89,t89,u89,w89,hcs,hm89,hn89,ho89,hp89⟩:=hR
  subst hcs
  refine G1 2 O ?_
  refine fg_ldA (i:=⟨_,_,.load _ _ _⟩) (off:=8) rfl rfl rfl rfl at89 ti rfl (by simp) rfl sR ?_
  refine gE z78 (c_fil_IsRat (by omega) ho84.m hp84.m ho89.m hp89.m) O O O O fun z92 _=>?_
  refine G0 4 O ?_
  refine fx_condF rfl ?_
  refine fx_skip ?_
  refine sq_n ?_
  refine xG ?_
  refine lC rfl ?_
  refine lB rfl rfl (bI_add (n:=i+1) (by omega) (by omega)) ?_
  refine R0 2 O ?_
  exact lq_n (by omega) ⟨i+1,LI.m [] O,rfl,by omega⟩
 refine fx_eseq ?_
 refine lq_e ?_
 refine sq_n ?_
 refine R5 4 O ?_
 refine xT ?_
 refine rI O ?_
 rfl
theorem c_law22_sameSales {k:Nat} (hk:3≤k) {z:Mem} {u v:AV} {l:List PSale} (hx:SZ 6 RSale z u l) (hy:SZ 6 RSale z v l):FC (E k) 33 [u,v] z fun u _=>u=bool_ true:=by
 have hxl:=hx.le
 refine fc_of (tS_get33) (by omega) (len1 rfl) fun B j hj=>?_
 refine R4 48 O ?_
 refine fl_lenS rfl hx ?_
 refine lM rfl ?_
 refine fl_lenS rfl hy ?_
 refine lB rfl rfl neqI ?_
 refine lN ?_
 refine R5 64 O ?_
 refine fx_seq (fx_block ?_)
 refine fx_loop (fun n fs=>∃ (i:Nat),LI z [] [(0,u),(1,v),(5,Az i)] fs∧n=l.length - i∧(i≤l.length)) ?_ _ ⟨0,LI.m [] O,rfl,Nat.zero_le _⟩ (kK (by omega))
 intro n fs ⟨i,hL0,hmz0,hi⟩
 refine hL0.open fun e zl0 _=>?_
 refine R4 24 O ?_
 refine fl_lenS rfl hx ?_
 refine R3 4 O ?_
 refine xD rfl (fun hc14=>?_) (fun hc14=>?_)
 ·refine fx_kseq ?_
  refine fx_seq (fx_block ?_)
  refine fx_drwS ?_
  obtain ⟨a,ha⟩:=at_lt (l:=l) (i:=i) (by omega)
  refine G1 5 O ?_
  refine gP rfl rfl trivial ?_
  refine fl_iadS rfl rfl hx i rfl a ha fun b19 p19 cs at19 hR=>lN ?_
  obtain ⟨s19,t19,hcs,hm19,hn19⟩:=hR
  subst hcs
  refine G1 2 O ?_
  refine fg_ldA (i:=⟨_,_,.load _ _ _⟩) (off:=0) rfl rfl trivial rfl at19 ti rfl (by simp) rfl sR ?_
  refine G1 5 O ?_
  refine gP rfl rfl trivial ?_
  refine fl_iadS rfl rfl hy i rfl a ha fun b24 p24 cs at24 hR=>lN ?_
  obtain ⟨s24,t24,hcs,hm24,hn24⟩:=hR
  subst hcs
  refine G1 2 O ?_
  refine fg_ldA (i:=⟨_,_,.load _ _ _⟩) (off:=0) rfl rfl trivial rfl at24 ti rfl (by simp) rfl sR ?_
  refine gP rfl rfl trivial ?_
  refine lB rfl rfl neqS (lN ?_)
  refine G1 10 O ?_
  refine gP rfl rfl rfl ?_
  refine fl_iadS rfl rfl hx i rfl a ha fun b31 p31 cs at31 hR=>lN ?_
  obtain ⟨s31,t31,hcs,hm31,hn31⟩:=hR
  subst hcs
  refine G1 2 O ?_
  refine fg_ldA (i:=⟨_,_,.load _ _ _⟩) (off:=1) rfl rfl rfl rfl at31 ti rfl (by simp) rfl sR ?_
  refine G1 5 O ?_
  refine gP rfl rfl rfl ?_
  refine fl_iadS rfl rfl hy i rfl a ha fun b36 p36 cs at36 hR=>lN ?_
  obtain ⟨s36,t36,hcs,hm36,hn36⟩:=hR
  subst hcs
  refine G1 2 O ?_
  refine fg_ldA (i:=⟨_,_,.load _ _ _⟩) (off:=1) rfl rfl rfl rfl at36 ti rfl (by simp) rfl sR ?_
  refine gP rfl rfl rfl ?_
  refine lB rfl rfl neqI (lN ?_)
  refine G1 22 O ?_
  refine gP rfl rfl rfl ?_
  refine fl_iadS rfl rfl hx i rfl a ha fun b44 p44 cs at44 hR=>lN ?_
  obtain ⟨s44,t44,hcs,hm44,hn44⟩:=hR
  subst hcs
  refine G1 2 O ?_
  refine fg_ldA (i:=⟨_,_,.load _ _ _⟩) (off:=2) rfl rfl rfl rfl at44 ti rfl (by simp) rfl sR ?_
  refine G1 5 O ?_
  refine gP rfl rfl rfl ?_
  refine fl_iadS rfl rfl hy i rfl a ha fun b49 p49 cs at49 hR=>lN ?_
  obtain ⟨s49,t49,hcs,hm49,hn49⟩:=hR
  subst hcs
  refine G1 2 O ?_
  refine fg_ldA (i:=⟨_,_,.load _ _ _⟩) (off:=2) rfl rfl rfl rfl at49 ti rfl (by simp) rfl sR ?_
  refine gE zl0 (c_fil_IsRat (by omega) hm44.m hn44.m hm49.m hn49.m) O O O O fun z52 _=>?_
  refine G0 4 O ?_
  refine fx_condF rfl ?_
  refine fx_skip ?_
  refine sq_n ?_
  refine xG ?_
  refine lC rfl ?_
  refine lB rfl rfl (bI_add (n:=i+1) (by omega) (by omega)) ?_
  refine R0 2 O ?_
  exact lq_n (by omega) ⟨i+1,LI.m [] O,rfl,by omega⟩
 refine fx_eseq ?_
 refine lq_e ?_
 refine sq_n ?_
 refine R5 4 O ?_
 refine xT ?_
 refine rI O ?_
 rfl
theorem c_law22_row {k:Nat} (hk:3≤k) {z:Mem} {u v:AV} {l:List Rat} (hx:SZ 4 RV z u l) (hy:SZ 4 RV z v l):FC (E k) 82 [u,v] z fun u _=>u=bool_ true:=by
 have hxl:=hx.le
 refine fc_of (tS_get82) (by omega) (len1 rfl) fun B j hj=>?_
 refine R4 48 O ?_
 refine fl_lenS rfl hx ?_
 refine lM rfl ?_
 refine fl_lenS rfl hy ?_
 refine lB rfl rfl neqI ?_
 refine lN ?_
 refine R5 64 O ?_
 refine fx_seq (fx_block ?_)
 refine fx_loop (fun n fs=>∃ (i:Nat),LI z [] [(0,u),(1,v),(5,Az i)] fs∧n=l.length - i∧(i≤l.length)) ?_ _ ⟨0,LI.m [] O,rfl,Nat.zero_le _⟩ (kK (by omega))
 intro n fs ⟨i,hL0,hmz0,hi⟩
 refine hL0.open fun e zl0 _=>?_
 refine R4 24 O ?_
 refine fl_lenS rfl hx ?_
 refine R3 4 O ?_
 refine xD rfl (fun hc14=>?_) (fun hc14=>?_)
 ·refine fx_kseq ?_
  refine fx_seq (fx_block ?_)
  refine fx_drwS ?_
  obtain ⟨a,ha⟩:=at_lt (l:=l) (i:=i) (by omega)
  refine G1 5 O ?_
  refine gP rfl rfl trivial ?_
  refine fl_iadS rfl rfl hx i rfl a ha fun b19 p19 cs at19 hR=>lN ?_
  obtain ⟨x19,y19,hcs,hq19,hr19⟩:=hR
  subst hcs
  refine fg_ldA (i:=⟨_,_,.load _ _ _⟩) (off:=0) rfl rfl trivial rfl at19 ti rfl (by simp) rfl sR ?_
  refine G1 5 O ?_
  refine gP rfl rfl trivial ?_
  refine fl_iadS rfl rfl hy i rfl a ha fun b23 p23 cs at23 hR=>lN ?_
  obtain ⟨x23,y23,hcs,hq23,hr23⟩:=hR
  subst hcs
  refine fg_ldA (i:=⟨_,_,.load _ _ _⟩) (off:=0) rfl rfl trivial rfl at23 ti rfl (by simp) rfl sR ?_
  refine gE zl0 (c_fil_IsRat (by omega) hq19.m hr19.m hq23.m hr23.m) O O O O fun z25 _=>?_
  refine G0 2 O ?_
  refine fx_condF rfl ?_
  refine fx_skip ?_
  refine sq_n ?_
  refine xG ?_
  refine lC rfl ?_
  refine lB rfl rfl (bI_add (n:=i+1) (by omega) (by omega)) ?_
  refine R0 2 O ?_
  exact lq_n (by omega) ⟨i+1,LI.m [] O,rfl,by omega⟩
 refine fx_eseq ?_
 refine lq_e ?_
 refine sq_n ?_
 refine R5 4 O ?_
 refine xT ?_
 refine rI O ?_
 rfl
theorem c_law22_is {k:Nat} (hk:4≤k) {z:Mem} {cR cS cI cJ:C} {L:List PRow} {Is:List PItem} (hR:CZ 6 RLRow z cR L) (hS:CZ 6 RLRow z cS L) (hI:CZ 17 RItem z cI Is) (hJ:CZ 17 RItem z cJ Is) (hL:∀ r,r∈L→∃ b,r.2=some b):FC (E k) 30 [.agg [cR,cI],.agg [cS,cJ]] z fun u _=>u=bool_ true:=by
 have hRl:=hR.le
 have hIl:=hI.le
 refine fc_of (tS_get30) (by omega) (len1 rfl) fun B j hj=>?_
 refine xR ?_
 refine fl_bx rfl fun b2=>?_
 refine fl_bx rfl fun b3=>?_
 refine R2 16 O ?_
 refine fl_ld1 rfl Y1 rfl ?_
 refine fl_lenS rfl hR ?_
 refine lF rfl ?_
 refine fl_ld1 rfl mem0 rfl ?_
 refine fl_lenS rfl hS ?_
 refine lB rfl rfl neqI ?_
 refine R1 4 O ?_
 refine lD rfl ?_
 refine fl_ld1 rfl Y1 rfl ?_
 refine lD rfl ?_
 refine fl_lenS rfl hI ?_
 refine lD rfl ?_
 refine lF rfl ?_
 refine lD rfl ?_
 refine fl_ld1 rfl mem0 rfl ?_
 refine lD rfl ?_
 refine fl_lenS rfl hJ ?_
 refine lD rfl ?_
 refine lB rfl rfl neqI ?_
 refine R3 128 O ?_
 refine fx_seq (fx_block ?_)
 refine fx_loop (fun n fs=>∃ (i:Nat),LI z [.blk b3 (.cells 67 [cS,cJ]),.blk b2 (.cells 74 [cR,cI])] [(2,Ap b2),(3,Ap b3),(5,Az i)] fs∧n=L.length - i∧(i≤L.length)) ?_ _ ⟨0,LI.m [] O,rfl,Nat.zero_le _⟩ (kK (by omega))
 intro n fs ⟨i,hL0,hmz0,hi⟩
 refine hL0.open fun e zl0 _=>?_
 refine R4 16 O ?_
 refine fl_ld1 rfl Y1 rfl ?_
 refine fl_lenS rfl hR ?_
 refine R3 4 O ?_
 refine xD rfl (fun hc29=>?_) (fun hc29=>?_)
 ·refine fx_kseq ?_
  refine fx_seq (fx_block ?_)
  refine fx_drwS ?_
  obtain ⟨r,hr⟩:=at_lt (l:=L) (i:=i) (by omega)
  obtain ⟨bq,hbq⟩:=hL r (List.mem_of_getElem? hr)
  refine G1 2 O ?_
  refine gl1 O O (.inr Y1) O ?_
  refine G1 2 O ?_
  refine gP rfl rfl trivial ?_
  refine fl_iadS rfl rfl hR i rfl r hr fun b35 p35 cs at35 hQ=>lN ?_
  have hx:=lrow_ok hQ hbq
  obtain ⟨t35,r35,e35,f35,hcs,qt35,qr35,qe35,qf35⟩:=hx
  subst hcs
  refine G1 2 O ?_
  refine fg_ldA (i:=⟨_,_,.load _ _ _⟩) (off:=0) rfl rfl trivial rfl at35 ti rfl (by simp) rfl sR ?_
  refine G1 2 O ?_
  refine gl1 O O Ht O ?_
  refine G1 2 O ?_
  refine gP rfl rfl trivial ?_
  refine fl_iadS rfl rfl hS i rfl r hr fun b41 p41 cs at41 hQ=>lN ?_
  have hx:=lrow_ok hQ hbq
  obtain ⟨t41,r41,e41,f41,hcs,qt41,qr41,qe41,qf41⟩:=hx
  subst hcs
  refine G1 2 O ?_
  refine fg_ldA (i:=⟨_,_,.load _ _ _⟩) (off:=0) rfl rfl trivial rfl at41 ti rfl (by simp) rfl sR ?_
  refine gE zl0 (c_law22_row (by omega) qt35.m qt41.m) O O O O fun z44 _=>?_
  refine G1 8 O ?_
  refine gl1 O O (.inr Y1) O ?_
  refine G1 2 O ?_
  refine gP rfl rfl rfl ?_
  refine fl_iadS rfl rfl hR i rfl r hr fun b50 p50 cs at50 hQ=>lN ?_
  have hx:=lrow_ok hQ hbq
  obtain ⟨t50,r50,e50,f50,hcs,qt50,qr50,qe50,qf50⟩:=hx
  subst hcs
  refine G1 2 O ?_
  refine fg_ldA (i:=⟨_,_,.load _ _ _⟩) (off:=1) rfl rfl rfl rfl at50 ti rfl (by simp) rfl sR ?_
  refine G1 2 O ?_
  refine gl1 O O Ht O ?_
  refine G1 2 O ?_
  refine gP rfl rfl rfl ?_
  refine fl_iadS rfl rfl hS i rfl r hr fun b56 p56 cs at56 hQ=>lN ?_
  have hx:=lrow_ok hQ hbq
  obtain ⟨t56,r56,e56,f56,hcs,qt56,qr56,qe56,qf56⟩:=hx
  subst hcs
  refine G1 2 O ?_
  refine fg_ldA (i:=⟨_,_,.load _ _ _⟩) (off:=1) rfl rfl rfl rfl at56 ti rfl (by simp) rfl sR ?_
  refine gE z44 (c_law22_row (by omega) qr50.m qr56.m) O O O O fun z59 _=>?_
  refine G1 20 O ?_
  refine gl1 O O (.inr Y1) O ?_
  refine G1 2 O ?_
  refine gP rfl rfl rfl ?_
  refine fl_iadS rfl rfl hR i rfl r hr fun b66 p66 cs at66 hQ=>lN ?_
  have hx:=lrow_ok hQ hbq
  obtain ⟨t66,r66,e66,f66,hcs,qt66,qr66,qe66,qf66⟩:=hx
  subst hcs
  refine G1 2 O ?_
  refine fg_ldA (i:=⟨_,_,.load _ _ _⟩) (off:=2) rfl rfl rfl rfl at66 ti rfl (by simp) rfl sR ?_
  refine G1 2 O ?_
  refine gl1 O O Ht O ?_
  refine G1 2 O ?_
  refine gP rfl rfl rfl ?_
  refine fl_iadS rfl rfl hS i rfl r hr fun b72 p72 cs at72 hQ=>lN ?_
  have hx:=lrow_ok hQ hbq
  obtain ⟨t72,r72,e72,f72,hcs,qt72,qr72,qe72,qf72⟩:=hx
  subst hcs
  refine G1 2 O ?_
  refine fg_ldA (i:=⟨_,_,.load _ _ _⟩) (off:=2) rfl rfl rfl rfl at72 ti rfl (by simp) rfl sR ?_
  refine gE z59 (c_fil_IsRat (by omega) qe66.m qf66.m qe72.m qf72.m) O O O O fun z75 _=>?_
  refine G0 4 O ?_
  refine fx_condF rfl ?_
  refine fx_skip ?_
  refine sq_n ?_
  refine xG ?_
  refine lC rfl ?_
  refine lB rfl rfl (bI_add (n:=i+1) (by omega) (by omega)) ?_
  refine R0 2 O ?_
  exact lq_n (by omega) ⟨i+1,LI.m [] O,rfl,by omega⟩
 refine fx_eseq ?_
 refine lq_e ?_
 refine sq_n ?_
 refine R5 8 O ?_
 refine fx_seq (fx_block ?_)
 refine fx_loop (fun n fs=>∃ (i:Nat),LI zl0 [.blk b3 (.cells 67 [cS,cJ]),.blk b2 (.cells 74 [cR,cI])] [(2,Ap b2),(3,Ap b3),(6,Az i)] fs∧n=Is.length - i∧(i≤Is.length)) ?_ _ ⟨0,LI.m [] O,rfl,Nat.zero_le _⟩ (kK (by omega))
 intro n fs ⟨i,hL1,hmz1,hi⟩
 refine hL1.open fun e zl1 _=>?_
 refine R4 16 O ?_
 refine fl_ld1 rfl Y1 rfl ?_
 refine fl_lenS rfl hI ?_
 refine R3 4 O ?_
 refine xD rfl (fun hc82=>?_) (fun hc82=>?_)
 ·refine fx_kseq ?_
  refine fx_seq (fx_block ?_)
  refine fx_drwS ?_
  obtain ⟨t,ht⟩:=at_lt (l:=Is) (i:=i) (by omega)
  refine G1 2 O ?_
  refine gl1 O O (.inr Y1) O ?_
  refine G1 2 O ?_
  refine gP rfl rfl trivial ?_
  refine fl_iadS rfl rfl hI i rfl t ht fun b88 p88 cs at88 hQ=>lN ?_
  obtain ⟨ca0,ca1,ca2,ca3,ca4,ca5,ca6,ca7,hcs,hj0,hj1,hj2,hj3,hj4,hj5,hj6,hj7⟩:=hQ
  subst hcs
  refine fg_ldA (i:=⟨_,_,.load _ _ _⟩) (off:=0) rfl rfl trivial rfl at88 ti rfl (by simp) rfl sR ?_
  refine G1 2 O ?_
  refine gl1 O O Ht O ?_
  refine G1 2 O ?_
  refine gP rfl rfl trivial ?_
  refine fl_iadS rfl rfl hJ i rfl t ht fun b93 p93 cs at93 hQ=>lN ?_
  obtain ⟨cb0,cb1,cb2,cb3,cb4,cb5,cb6,cb7,hcs,hk0,hk1,hk2,hk3,hk4,hk5,hk6,hk7⟩:=hQ
  subst hcs
  refine fg_ldA (i:=⟨_,_,.load _ _ _⟩) (off:=0) rfl rfl trivial rfl at93 ti rfl (by simp) rfl sR ?_
  refine gA O O (fun b7 hT7=>?_)
  refine gA O O (fun b8 hT8=>?_)
  refine gT O O O hT7 ?_
  refine fl_stAll rfl rfl rfl rfl P1 ?_
  refine lN ?_
  refine gS O O O ?_
  refine fl_stAll rfl rfl rfl rfl rep0 ?_
  refine lN ?_
  refine fg_nil ?_
  refine R4 4 O ?_
  refine fl_ld1 rfl Y1 rfl ?_
  refine lF rfl ?_
  refine fl_ld1 rfl mem0 rfl ?_
  refine lB rfl rfl neqS ?_
  refine R1 4 O ?_
  refine lD rfl ?_
  refine fl_ld4 rfl Y1 rfl ?_
  refine lD rfl ?_
  refine lF rfl ?_
  refine lD rfl ?_
  refine fl_ld4 rfl Y1 rfl ?_
  refine lD rfl ?_
  refine lF rfl ?_
  refine lD rfl ?_
  refine fl_ld4 rfl Y1 rfl ?_
  refine lD rfl ?_
  refine lF rfl ?_
  refine lD rfl ?_
  refine fl_ld4 rfl Y1 rfl ?_
  refine lD rfl ?_
  refine fl_bslice (cs:=[Cb (decide (t.df.num<0)),ca0,Cb (decide ((t.df.den:Int)<0)),ca1,Cb (decide (t.sd.num<0)),ca2,Cb (decide ((t.sd.den:Int)<0)),ca3,Cb (decide (t.lf.num<0)),ca4,Cb (decide ((t.lf.den:Int)<0)),ca5,Cb (decide (t.cl.num<0)),ca6,Cb (decide ((t.cl.den:Int)<0)),ca7]) rfl fun b109=>?_
  refine fl_frzZ zl1 (p:=[]) rfl rfl rfl (fun _ h=>h) fun zff109 _ f109=>?_
  refine lD rfl ?_
  refine lF rfl ?_
  refine lD rfl ?_
  refine fl_ld4 rfl mem0 rfl ?_
  refine lD rfl ?_
  refine lF rfl ?_
  refine lD rfl ?_
  refine fl_ld4 rfl mem0 rfl ?_
  refine lD rfl ?_
  refine lF rfl ?_
  refine lD rfl ?_
  refine fl_ld4 rfl mem0 rfl ?_
  refine lD rfl ?_
  refine lF rfl ?_
  refine lD rfl ?_
  refine fl_ld4 rfl mem0 rfl ?_
  refine lD rfl ?_
  refine fl_bslice (cs:=[Cb (decide (t.df.num<0)),cb0,Cb (decide ((t.df.den:Int)<0)),cb1,Cb (decide (t.sd.num<0)),cb2,Cb (decide ((t.sd.den:Int)<0)),cb3,Cb (decide (t.lf.num<0)),cb4,Cb (decide ((t.lf.den:Int)<0)),cb5,Cb (decide (t.cl.num<0)),cb6,Cb (decide ((t.cl.den:Int)<0)),cb7]) rfl fun b118=>?_
  refine fl_frzZ zff109 (p:=[]) rfl rfl rfl (fun _ h=>h) fun zff118 _ f118=>?_
  refine lD rfl ?_
  have hsx:SZ 4 RV zff118 (.c (.sl b109 0 4 4)) [t.df,t.sd,t.lf,t.cl]:=sum4_sz (zI _ _ f109) hj0.m hj1.m hj2.m hj3.m hj4.m hj5.m hj6.m hj7.m
  have hsy:SZ 4 RV zff118 (.c (.sl b118 0 4 4)) [t.df,t.sd,t.lf,t.cl]:=sum4_sz f118 hk0.m hk1.m hk2.m hk3.m hk4.m hk5.m hk6.m hk7.m
  refine lE zff118 (c_law22_row (by omega) hsx hsy) O O fun z119 _=>?_
  refine R3 8 O ?_
  refine fx_skip ?_
  refine sq_n ?_
  refine xG ?_
  refine lC rfl ?_
  refine lB rfl rfl (bI_add (n:=i+1) (by omega) (by omega)) ?_
  refine R0 2 O ?_
  exact lq_n (by omega) ⟨i+1,LI.m [_,_] O,rfl,by omega⟩
 refine fx_eseq ?_
 refine lq_e ?_
 refine sq_n ?_
 refine R5 4 O ?_
 refine xT ?_
 refine rI O ?_
 rfl
open Go.CE Go.RowKit Go.Num
open Go.Eng (setL)
def ErrQ (ms:List (List Bool)) (pi:Int) (goods:List PGood) (sales:List PSale) (e:Int):Prop:=(e=0∧RightG ms pi goods sales∧SoldG ms goods sales)∨(e=220∧RightG ms pi goods sales∧¬ SoldG ms goods sales)∨(e=2∧¬ RightG ms pi goods sales)
def SB (ms:List (List Bool)) (goods:List PGood) (sales:List PSale) (s:PSale):Prop:=saleB ms goods s∧sumQ ((salesOf sales s.id).map fun x=>rv x.sh)≤1
def FindP (goods:List PGood) (id:ByteArray) (e:Int):Prop:=(e<0∧∀ g,g∈goods→¬ g.id=id)∨∃ (j:Nat) (g:PGood),e=(j:Int)∧goods[j]? = some g∧g.id=id∧∀ a,a∈goods.take j→¬ a.id=id
section
variable {ms:List (List Bool)} {n0 i:Nat} {pa e:Int} {goods:List PGood} {sales:List PSale} {g:PGood} {x a:PSale} {id:ByteArray}
theorem find_ge (h:FindP goods id e) (he:¬ e<0):∃ (j:Nat) (g:PGood),e=(j:Int)∧goods[j]? = some g∧g.id=id:=by
 rcases h with ⟨h,_⟩ | ⟨j,g,h1,h2,h3,_⟩
 ·exact absurd h he
 exact ⟨j,g,h1,h2,h3⟩
theorem find_tw (hg:goods[i]? = some g) (h:FindP goods g.id e) (he:¬ e=(i:Int)):g.id∈(goods.take i).map PGood.id:=by
  rcases h with ⟨_,h⟩ | ⟨j,g',h1,h2,h3,h4⟩
  · exact absurd rfl (h g (List.mem_of_getElem? hg))
  · have hji : j ≠ i := fun hh => he (by rw [h1, hh])
    rcases Nat.lt_or_ge i j with hlt | hge
    · exact absurd rfl (h4 g (List.mem_of_getElem? (i:=i) (by rw [List.getElem?_take,if_pos hlt];exact hg)))
    · exact List.mem_map.2 ⟨g',List.mem_of_getElem? (i:=j) (by rw [List.getElem?_take,if_pos (by omega)];exact h2),h3⟩
theorem find_ok (hg:goods[i]? = some g) (h:FindP goods g.id e) (he:e=(i:Int)):¬ g.id∈(goods.take i).map PGood.id:=fun hm=>by
  obtain ⟨a,ha,hid⟩:=List.mem_map.1 hm
  rcases h with ⟨_,h⟩ | ⟨j,g',h1,h2,h3,h4⟩
  · exact absurd rfl (h g (List.mem_of_getElem? hg))
  · obtain rfl : j = i := by omega
    exact h4 a ha hid
theorem find_lt (h:FindP goods x.id e) (he:e<0):¬ saleB ms goods x:=fun ⟨g,h1,h2,_⟩=>by
 rcases h with ⟨_,h⟩ | ⟨j,g',h3,_⟩
 ·exact h g h1 h2
 omega
theorem sale_le (hnd:(goods.map PGood.id).Nodup) (hg:g∈goods) (hid:g.id=x.id) (h:x.yr≤g.yr):¬ saleB ms goods x:=fun ⟨g',h1,h2,h3,_⟩=>by
 have:g'=g:=nd_inj hnd h1 hg (h2.trans hid.symm)
 subst this
 omega
theorem sale_ge (h:x.yr ≥ (ms.length:Int)):¬ saleB ms goods x:=fun ⟨_,_,_,_,h1⟩=>by omega
theorem isE_lt (h:e<0):(!isE n0 e)=true:=by
 have:¬ 0≤e:=Int.not_le.2 h
 simp [isE,this]
theorem isE_ge (h:e ≥ (n0:Int)):(!isE n0 e)=true:=by
 have:¬ e<(n0:Int):=Int.not_lt.2 h
 simp [isE,this]
theorem isE_in (h:¬ e<0) (g:¬ e ≥ (n0:Int)):(!isE n0 e)=false:=by
 have h1:0≤e:=Int.not_lt.1 h
 have h2:e<(n0:Int):=Int.not_le.1 g
 simp [isE,h1,h2]
theorem isE_yes (hn:n0=entsN ms) (h:¬ e<0) (g:¬ e ≥ (n0:Int)):isE (entsN ms) e=true:=by rw [← hn];exact not_c (isE_in h g)
theorem so_y (ha:sales[i]? = some a) (h:a.id=x.id):sumQ ((salesOf (sales.take (i+1)) x.id).map fun y=>rv y.sh)=sumQ ((salesOf (sales.take i) x.id).map fun y=>rv y.sh)+rv a.sh:=by
 rw [tk_some ha,salesOf,List.filter_append,List.filter_cons_of_pos (by simpa using h),List.map_append,sumQ_app]
 simp [sumQ,salesOf,Rat.add_zero]
theorem so_n (ha:sales[i]? = some a) (h:¬ a.id=x.id):sumQ ((salesOf (sales.take (i+1)) x.id).map fun y=>rv y.sh)=sumQ ((salesOf (sales.take i) x.id).map fun y=>rv y.sh):=by
 rw [tk_some ha,salesOf,List.filter_append,List.filter_cons_of_neg (by simpa using h)]
 simp [salesOf]
end
theorem sg_sub {p q:Rat}:(p - q).num.sign≤0↔p≤q:=by
 rw [Int.sign_nonpos_iff,← Int.neg_nonneg,← Rat.neg_num,Rat.num_nonneg]
 constructor<;>intro h<;>grind
theorem sg_lt {p q:Rat}:(p - q).num.sign > 0↔q<p:=by
 rw [gt_iff_lt,← Int.not_le,sg_sub,Rat.not_le]
theorem part_4 {x:PRat} (h:rightR (rRaw x)=true) (g:(rv x).num.sign ≥ 0):decide ((rv x - ((1:Int):Rat)).num.sign≤0)=partB x:=by
 rw [partB,h,decide_eq_true (sg_ge.1 g)]
 simp only [Bool.true_and]
 exact decide_eq_decide.2 sg_sub
theorem c_ref22_part {k:Nat} (hk:12≤k) {z:Mem} {x1:PRat} {c1 d1:C} (hx1:CZ 1 RW z c1 x1.nm) (hy1:CZ 1 RW z d1 x1.dm) (h1:x1.nm.length≤1000) (h2:x1.dm.length≤1000):FC (E k) 147 [.agg (kR x1 c1 d1)] z fun v _=>v=bool_ (partB x1):=by
 refine fc_of (tS_get147) (by omega) (len1 rfl) fun B j hj=>?_
 refine xR ?_
 refine fl_bx rfl fun b1=>?_
 refine R0 2 O ?_
 refine fx_drwS ?_
 refine gl4 O O Ht O ?_
 refine gE z (c_ref04_Right (by omega) hx1 hy1 (Nat.le_trans h1 (by decide)) (Nat.le_trans h2 (by decide))) O O O O fun z4 hz4=>?_
 refine G1 3 O ?_
 refine fg_splitB 5 rfl (fun hg5=>?_) (fun hg5=>?_)
 ·refine gl4 O O Ht O ?_
  refine gE z4 (c_ref04_Sign (by omega) hx1.m hy1.m (Nat.le_trans h1 (by decide)) (Nat.le_trans h2 (by decide))) O O O O fun z7 hz7=>?_
  refine G1 12 O ?_
  refine fg_splitD 10 rfl (fun hg10=>?_) (fun hg10=>?_)
  ·refine gl4 O O Ht O ?_
   refine gC z7 (c_ref04_Whole (by omega) (by decide) (by decide)) O O O O fun v12 z12 _ hv12=>?_
   have hv12:=qv_op hv12
   obtain ⟨c12,d12,hv,hm12,hn12⟩:=hv12
   subst hv
   have hm12:=hm12.mono (zAq (hz4.trans hz7))
   have hn12:=hn12.mono (zAq (hz4.trans hz7))
   refine gC z12 (c_ref04_Cmp (by omega) hx1.m hy1.m (Nat.le_trans h1 (by decide)) (Nat.le_trans h2 (by decide)) (hm12.mono zd_le) (hn12.mono zd_le) (Nat.le_trans lq_one.1 (by decide)) (Nat.le_trans lq_one.2 (by decide))) O O O O fun v13 z13 _ hv13=>?_
   rw [valR_c] at hv13
   subst hv13
   refine G0 12 O ?_
   refine xT ?_
   exact rI O (congrArg bool_ (part_4 hg5 hg10))
  refine G0 96 O ?_
  refine xT ?_
  exact rI O (congrArg bool_ (part_2 hg10))
 refine G0 3088 O ?_
 refine xT ?_
 exact rI O (congrArg bool_ (part_1 hg5))
theorem c_ref22_find {k:Nat} (hk:1≤k) {z:Mem} {gv:AV} {goods:List PGood} {id:ByteArray} (hG:SZ 12 RGood z gv goods):FC (E k) 144 [gv,.c (Cs id)] z fun u _=>∃ e:Int,u=int_ e∧FindP goods id e:=by
 have hGl:=hG.le
 refine fc_of (tS_get144) (by omega) (len1 rfl) fun B j hj=>?_
 refine R5 32 O ?_
 refine fx_seq (fx_block ?_)
 refine fx_loop (fun n fs=>∃ (i:Nat),LI z [] [(0,gv),(1,.c (Cs id)),(5,Az i)] fs∧n=goods.length - i∧(i≤goods.length)∧(∀ a,a∈goods.take i→¬ a.id=id)) ?_ _ ⟨0,LI.m [] O,rfl,Nat.zero_le _,fun a ha=>by simp at ha⟩ (kK (by omega))
 intro n fs ⟨i,hL0,hmz0,hi,hno⟩
 refine hL0.open fun e zl0 _=>?_
 refine R4 24 O ?_
 refine fl_lenS rfl hG ?_
 refine R3 4 O ?_
 refine xD rfl (fun hc9=>?_) (fun hc9=>?_)
 ·refine fx_kseq ?_
  refine fx_seq (fx_block ?_)
  refine xR ?_
  obtain ⟨g,hg⟩:=at_lt (l:=goods) (i:=i) (by omega)
  refine R1 5 O ?_
  refine fl_iadS (zz:=zl0) rfl rfl hG.m i rfl g hg fun b14 p14 cs at14 hR=>?_
  obtain ⟨u0,u1,u2,u3,hcs,g0,g1,g2,g3⟩:=hR
  subst hcs
  refine lF rfl ?_
  refine fl_ldA (off:=0) rfl at14 rfl (by simp) rfl ?_
  refine lC rfl ?_
  refine lB rfl rfl (b_eqlS _ _) ?_
  refine lN ?_
  refine xD rfl (fun hc18=>?_) (fun hc18=>?_)
  ·refine R5 8 O ?_
   refine xT ?_
   refine sq_r ?_
   refine lq_r ?_
   refine sq_r ?_
   exact rI O ⟨_,rfl,.inr ⟨i,g,rfl,hg,hc18,hno⟩⟩
  refine fx_skip ?_
  refine sq_n ?_
  refine xG ?_
  refine lC rfl ?_
  refine lB rfl rfl (bI_add (n:=i+1) (by omega) (by omega)) ?_
  refine R0 2 O ?_
  exact lq_n (by omega) ⟨i+1,LI.m [] O,rfl,by omega,tk_all hg hno hc18⟩
 refine fx_eseq ?_
 refine lq_e ?_
 refine sq_n ?_
 refine R5 4 O ?_
 refine xT ?_
 exact rI O ⟨_,rfl,.inl ⟨by decide,fun g hg=>hno g (by rw [List.take_of_length_le (by omega)];exact hg)⟩⟩
theorem c_ref22_wrong {k:Nat} (hk:13≤k) {z:Mem} {cM:C} {pi:Int} {gv sv:AV} {ms:List (List Bool)} {goods:List PGood} {sales:List PSale} (hm:CZ 1 (RC 1 (RE Value.bool)) z cM ms) (hG:SZ 12 RGood z gv goods) (hS:SZ 6 RSale z sv sales) (hgs:∀ g,g∈goods→SG g) (hsl:sales.length≤12) (hss:∀ x,x∈sales→x.sh.nm.length≤3∧x.sh.dm.length≤3):FC (E k) 71 [.c cM,Ai pi,gv,sv] z fun u _=>∃ e:Int,u=int_ e∧ErrQ ms pi goods sales e:=by
 have hml:=hm.le
 have hgl:=hG.le
 refine fc_of (tS_get71) (by omega) (len1 rfl) fun B j hj=>?_
 refine R4 128 O ?_
 refine fl_lenS rfl hm ?_
 refine R0 2 O ?_
 refine fx_join (fun fs=>∃ (n0:Nat),LI z [] [(0,.c cM),(1,Ai pi),(2,gv),(3,sv),(9,Az n0)] fs∧(n0=entsN ms)) ?_ fun fs hJ=>?_
 ·refine xD rfl (fun hc20=>?_) (fun hc20=>?_)
  ·refine xG ?_
   obtain ⟨r0,hr0⟩:=at_lt (l:=ms) (i:=0) (by omega)
   refine lC rfl ?_
   refine fl_iadS rfl rfl hm 0 rfl r0 hr0 fun b22 p22 cs at22 hR=>?_
   obtain ⟨c22,hcs,q22⟩:=hR
   subst hcs
   refine fl_ldA (off:=0) rfl at22 rfl (by simp) rfl ?_
   refine fl_lenS rfl q22 ?_
   refine R0 2 O ?_
   exact sq_n ⟨r0.length,LI.m [] O,entsN_hd hr0⟩
  refine fx_skip ?_
  exact sq_n ⟨0,LI.m [] O,entsN_nl hc20⟩
 obtain ⟨n0,hJ20,hn0⟩:=hJ
 refine hJ20.open fun e zj20 hzj20=>?_
 refine R5 8 O ?_
 refine fx_seq (fx_block ?_)
 refine fx_loop (fun n fs=>∃ (i:Nat) (zi:Mem),LZ zj20 zi [] [(0,.c cM),(1,Ai pi),(2,gv),(3,sv),(9,Az n0),(10,Az i)] fs∧n=ms.length - i∧(i≤ms.length)∧(∀ r,r∈ms.take i→r.length=n0)) ?_ _ ⟨0,_,LZ.m [] O,rfl,Nat.zero_le _,fun a ha=>by simp at ha⟩ (kK (by omega))
 intro n fs ⟨i,zi,hL0,hmz0,hi,hrn⟩
 refine hL0.open fun e hzi=>?_
 refine R4 16 O ?_
 refine fl_lenS rfl hm ?_
 refine R3 4 O ?_
 refine xD rfl (fun hc28=>?_) (fun hc28=>?_)
 ·refine fx_kseq ?_
  refine fx_seq (fx_block ?_)
  refine xR ?_
  obtain ⟨r,hr⟩:=at_lt (l:=ms) (i:=i) (by omega)
  refine R1 4 O ?_
  refine fl_iadS (zz:=zi) rfl rfl hm.m i rfl r hr fun b33 p33 cs at33 hR=>?_
  obtain ⟨c33,hcs,q33⟩:=hR
  subst hcs
  refine fl_ldA (off:=0) rfl at33 rfl (by simp) rfl ?_
  refine fl_lenS rfl q33 ?_
  refine R0 4 O ?_
  refine fx_condN rfl (fun hc37=>?_) (fun hc37=>?_)
  ·refine R5 4 O ?_
   refine xT ?_
   refine sq_r ?_
   refine lq_r ?_
   refine sq_r ?_
   exact rI O ⟨_,rfl,.inr (.inr ⟨rfl,fun h=>hc37 (by rw [h.m r (List.mem_of_getElem? hr),hn0])⟩)⟩
  refine fx_skip ?_
  refine sq_n ?_
  refine xG ?_
  refine lC rfl ?_
  refine lB rfl rfl (bI_add (n:=i+1) (by omega) (by omega)) ?_
  refine R0 2 O ?_
  exact lq_n (by omega) ⟨i+1,_,LZ.m [] O,rfl,by omega,tk_all hr hrn (Int.ofNat.inj hc37)⟩
 refine fx_eseq ?_
 refine lq_e ?_
 refine sq_n ?_
 refine R4 32 O ?_
 refine fl_splitD 40 rfl (fun hg40=>?_) (fun hg40=>?_)
 ·refine R3 512 O ?_
  refine fx_rseq ?_
  exact rI O ⟨_,rfl,.inr (.inr ⟨rfl,right_p hn0 (isE_lt hg40)⟩)⟩
 refine R3 32 O ?_
 refine xD rfl (fun hc44=>?_) (fun hc44=>?_)
 ·refine R5 8 O ?_
  refine fx_rseq ?_
  exact rI O ⟨_,rfl,.inr (.inr ⟨rfl,right_p hn0 (isE_ge hc44)⟩)⟩
 refine R5 16 O ?_
 refine fx_seq (fx_block ?_)
 refine fx_loop (fun n fs=>∃ (ii:Nat) (zii:Mem),LZ zi zii [] [(0,.c cM),(1,Ai pi),(2,gv),(3,sv),(9,Az n0),(11,Az ii)] fs∧n=goods.length - ii∧(ii≤goods.length)∧(((goods.take ii).map PGood.id).Nodup)∧(∀ g,g∈goods.take ii→goodB ms g=true)) ?_ _ ⟨0,_,LZ.m [] O,rfl,Nat.zero_le _,List.nodup_nil,fun a ha=>by simp at ha⟩ (kK (by omega))
 intro n fs ⟨ii,zii,hL1,hmz1,hii,hnd,hgb⟩
 refine hL1.open fun e hzii=>?_
 refine R4 24 O ?_
 refine fl_lenS rfl hG ?_
 refine R3 4 O ?_
 refine xD rfl (fun hc48=>?_) (fun hc48=>?_)
 ·refine fx_kseq ?_
  refine fx_seq (fx_block ?_)
  refine xR ?_
  obtain ⟨g,hg⟩:=at_lt (l:=goods) (i:=ii) (by omega)
  obtain ⟨y1,y2,y3,y4⟩:=hgs g (List.mem_of_getElem? hg)
  refine R1 5 O ?_
  refine fl_iadS (zz:=zii) rfl rfl hG.m ii rfl g hg fun b53 p53 cs at53 hR=>?_
  obtain ⟨u0,u1,u2,u3,hcs,g0,g1,g2,g3⟩:=hR
  subst hcs
  refine fl_ldA (off:=0) rfl at53 rfl (by simp) rfl ?_
  refine fl_alloc fun b12=>?_
  refine fl_stAll rfl rfl rfl rfl rep0 ?_
  refine lN ?_
  refine R4 4 O ?_
  refine fl_ld1 rfl mem0 rfl ?_
  refine R1 4 O ?_
  refine fl_splitD 58 rfl (fun hg58=>?_) (fun hg58=>?_)
  ·refine R3 144401130091317312 O ?_
   refine xT ?_
   refine sq_r ?_
   refine lq_r ?_
   refine sq_r ?_
   exact rI O ⟨_,rfl,.inr (.inr ⟨rfl,right_g (List.mem_of_getElem? hg) (gB1 hg58)⟩)⟩
  refine lD rfl ?_
  refine lF rfl ?_
  refine lD rfl ?_
  refine fl_ld1 rfl mem0 rfl ?_
  refine lD rfl ?_
  refine lC rfl ?_
  refine lD rfl ?_
  refine fl_lenS rfl hm ?_
  refine R1 12 O ?_
  refine fl_splitD 65 rfl (fun hg65=>?_) (fun hg65=>?_)
  ·refine R3 1128133828838416 O ?_
   refine xT ?_
   refine sq_r ?_
   refine lq_r ?_
   refine sq_r ?_
   exact rI O ⟨_,rfl,.inr (.inr ⟨rfl,right_g (List.mem_of_getElem? hg) (gB2 hg65)⟩)⟩
  refine lD rfl ?_
  refine lF rfl ?_
  refine lD rfl ?_
  refine fl_ld1 rfl mem0 rfl ?_
  refine R1 12 O ?_
  refine fl_splitD 70 rfl (fun hg70=>?_) (fun hg70=>?_)
  ·refine R3 35254182151200 O ?_
   refine xT ?_
   refine sq_r ?_
   refine lq_r ?_
   refine sq_r ?_
   exact rI O ⟨_,rfl,.inr (.inr ⟨rfl,right_g (List.mem_of_getElem? hg) (gB3 hn0 (isE_lt hg70))⟩)⟩
  refine lD rfl ?_
  refine lF rfl ?_
  refine lD rfl ?_
  refine fl_ld1 rfl mem0 rfl ?_
  refine R1 24 O ?_
  refine fl_splitD 76 rfl (fun hg76=>?_) (fun hg76=>?_)
  ·refine R3 550846596112 O ?_
   refine xT ?_
   refine sq_r ?_
   refine lq_r ?_
   refine sq_r ?_
   exact rI O ⟨_,rfl,.inr (.inr ⟨rfl,right_g (List.mem_of_getElem? hg) (gB3 hn0 (isE_ge hg76))⟩)⟩
  refine lD rfl ?_
  refine lF rfl ?_
  refine lD rfl ?_
  refine fl_ld1 rfl mem0 rfl ?_
  refine R1 12 O ?_
  refine fl_splitD 81 rfl (fun hg81=>?_) (fun hg81=>?_)
  ·refine R3 17213956128 O ?_
   refine xT ?_
   refine sq_r ?_
   refine lq_r ?_
   refine sq_r ?_
   exact rI O ⟨_,rfl,.inr (.inr ⟨rfl,right_g (List.mem_of_getElem? hg) (gB4 hn0 (isE_lt hg81))⟩)⟩
  refine lD rfl ?_
  refine lF rfl ?_
  refine lD rfl ?_
  refine fl_ld1 rfl mem0 rfl ?_
  refine R1 24 O ?_
  refine fl_splitD 87 rfl (fun hg87=>?_) (fun hg87=>?_)
  ·refine R3 268968064 O ?_
   refine xT ?_
   refine sq_r ?_
   refine lq_r ?_
   refine sq_r ?_
   exact rI O ⟨_,rfl,.inr (.inr ⟨rfl,right_g (List.mem_of_getElem? hg) (gB4 hn0 (isE_ge hg87))⟩)⟩
  refine R1 5 O ?_
  refine lD rfl ?_
  refine fl_ld1 rfl mem0 rfl ?_
  refine lD rfl ?_
  refine lZ zii (c_ref22_find (by omega) hG.m) rfl rfl fun v91 z91 _ ⟨e91,hv91,hfd91⟩=>?_
  subst hv91
  refine R1 24 O ?_
  refine fl_splitN 95 rfl (fun hg95=>?_) (fun hg95=>?_)
  ·refine R3 1050656 O ?_
   refine xT ?_
   refine sq_r ?_
   refine lq_r ?_
   refine sq_r ?_
   exact rI O ⟨_,rfl,.inr (.inr ⟨rfl,right_tw hg (find_tw hg hfd91 hg95)⟩)⟩
  refine lD rfl ?_
  refine lF rfl ?_
  refine lD rfl ?_
  refine fl_ld4 rfl mem0 rfl ?_
  refine lD rfl ?_
  refine lE z91 (c_ref04_Right (by omega) g0.m g1.m (by omega) (by omega)) O O fun z98 _=>?_
  refine R1 12 O ?_
  refine fl_splitB 101 rfl (fun hg101=>?_) (fun hg101=>?_)
  ·refine R3 16416 O ?_
   refine xT ?_
   refine sq_r ?_
   refine lq_r ?_
   refine sq_r ?_
   exact rI O ⟨_,rfl,.inr (.inr ⟨rfl,right_g (List.mem_of_getElem? hg) (gB5 hg101)⟩)⟩
  refine lD rfl ?_
  refine lF rfl ?_
  refine lD rfl ?_
  refine fl_ld4 rfl mem0 rfl ?_
  refine lD rfl ?_
  refine lE z98 (c_ref04_Sign (by omega) g0.m g1.m (by omega) (by omega)) O O fun z104 _=>?_
  refine R1 12 O ?_
  refine fl_splitD 107 rfl (fun hg107=>?_) (fun hg107=>?_)
  ·refine R3 256 O ?_
   refine xT ?_
   refine sq_r ?_
   refine lq_r ?_
   refine sq_r ?_
   exact rI O ⟨_,rfl,.inr (.inr ⟨rfl,right_g (List.mem_of_getElem? hg) (gB6 hg107)⟩)⟩
  refine lD rfl ?_
  refine lF rfl ?_
  refine lD rfl ?_
  refine fl_ld4 rfl mem0 rfl ?_
  refine lD rfl ?_
  refine lE z104 (c_ref22_part (by omega) g2.m g3.m (by omega) (by omega)) O O fun z110 _=>?_
  refine R0 4 O ?_
  refine fx_condB rfl (fun hc112=>?_) (fun hc112=>?_)
  ·refine R5 4 O ?_
   refine xT ?_
   refine sq_r ?_
   refine lq_r ?_
   refine sq_r ?_
   exact rI O ⟨_,rfl,.inr (.inr ⟨rfl,right_g (List.mem_of_getElem? hg) (gB7 hc112)⟩)⟩
  refine fx_skip ?_
  refine sq_n ?_
  refine xG ?_
  refine lC rfl ?_
  refine lB rfl rfl (bI_add (n:=ii+1) (by omega) (by omega)) ?_
  refine R0 2 O ?_
  exact lq_n (by omega) ⟨ii+1,_,LZ.m [_] O,rfl,by omega,by rw [tk_some hg,List.map_append];exact nd_one hnd (find_ok hg hfd91 hg95),tk_all hg hgb (gB8 hn0 hg58 hg65 (isE_in hg70 hg76) (isE_in hg81 hg87) hg101 hg107 hc112)⟩
 refine fx_eseq ?_
 refine lq_e ?_
 refine sq_n ?_
 refine R5 8 O ?_
 refine fx_seq (fx_block ?_)
 refine fx_loop (fun n fs=>∃ (jj:Nat) (zjj:Mem),LZ zii zjj [] [(0,.c cM),(2,gv),(3,sv),(13,Az jj)] fs∧n=sales.length - jj∧(jj≤sales.length)∧(∀ s,s∈sales.take jj→partB s.sh=true)) ?_ _ ⟨0,_,LZ.m [] O,rfl,Nat.zero_le _,fun a ha=>by simp at ha⟩ (kK (by omega))
 intro n fs ⟨jj,zjj,hL2,hmz2,hjj,hps⟩
 refine hL2.open fun e hzjj=>?_
 refine R4 24 O ?_
 refine fl_lenS rfl hS ?_
 refine R3 4 O ?_
 refine xD rfl (fun hc116=>?_) (fun hc116=>?_)
 ·refine fx_kseq ?_
  refine fx_seq (fx_block ?_)
  refine xR ?_
  obtain ⟨x,hx⟩:=at_lt (l:=sales) (i:=jj) (by omega)
  obtain ⟨x3,x4⟩:=hss x (List.mem_of_getElem? hx)
  refine R1 5 O ?_
  refine fl_iadS (zz:=zjj) rfl rfl hS.m jj rfl x hx fun b121 p121 cs at121 hR=>?_
  obtain ⟨pc,pd,hcs,hpc,hpd⟩:=hR
  subst hcs
  refine lF rfl ?_
  refine fl_ldA (off:=2) rfl at121 rfl (by simp) rfl ?_
  refine lE zjj (c_ref22_part (by omega) hpc hpd (by omega) (by omega)) O O fun z124 _=>?_
  refine R0 2 O ?_
  refine fx_condB rfl (fun hc125=>?_) (fun hc125=>?_)
  ·refine R5 4 O ?_
   refine xT ?_
   refine sq_r ?_
   refine lq_r ?_
   refine sq_r ?_
   exact rI O ⟨_,rfl,.inr (.inr ⟨rfl,fun h=>by have:=h.s x (List.mem_of_getElem? hx);rw [not_b hc125] at this;cases this⟩)⟩
  refine fx_skip ?_
  refine sq_n ?_
  refine xG ?_
  refine lC rfl ?_
  refine lB rfl rfl (bI_add (n:=jj+1) (by omega) (by omega)) ?_
  refine R0 2 O ?_
  exact lq_n (by omega) ⟨jj+1,_,LZ.m [] O,rfl,by omega,tk_all hx hps (not_c hc125)⟩
 refine fx_eseq ?_
 refine lq_e ?_
 refine sq_n ?_
 refine R4 4 O ?_
 rw [List.take_of_length_le (by omega)] at hrn hnd hgb hps
 have hRG:RightG ms pi goods sales:=⟨fun r hr=>by rw [← hn0];exact hrn r hr,isE_yes hn0 hg40 hc44,hnd,hgb,hps⟩
 refine R0 2 O ?_
 refine fx_seq (fx_block ?_)
 refine fx_loop (fun n fs=>∃ (kk:Nat) (zkk:Mem),LZ zjj zkk [] [(0,.c cM),(2,gv),(3,sv),(14,Az kk)] fs∧n=sales.length - kk∧(kk≤sales.length)∧(∀ s,s∈sales.take kk→SB ms goods sales s)) ?_ _ ⟨0,_,LZ.m [] O,rfl,Nat.zero_le _,fun a ha=>by simp at ha⟩ (kK (by omega))
 intro n fs ⟨kk,zkk,hL3,hmz3,hkk,hsb⟩
 refine hL3.open fun e hzkk=>?_
 refine R4 24 O ?_
 refine fl_lenS rfl hS ?_
 refine R3 4 O ?_
 refine xD rfl (fun hc129=>?_) (fun hc129=>?_)
 ·refine fx_kseq ?_
  refine fx_seq (fx_block ?_)
  refine xR ?_
  obtain ⟨x,hx⟩:=at_lt (l:=sales) (i:=kk) (by omega)
  obtain ⟨x3,x4⟩:=hss x (List.mem_of_getElem? hx)
  refine R1 11 O ?_
  refine fl_iadS (zz:=zkk) rfl rfl hS.m kk rfl x hx fun b135 p135 cs at135 hR=>?_
  obtain ⟨pc,pd,hcs,hpc,hpd⟩:=hR
  subst hcs
  refine lF rfl ?_
  refine fl_ldA (off:=0) rfl at135 rfl (by simp) rfl ?_
  refine lZ zkk (c_ref22_find (by omega) hG.m) rfl rfl fun v138 z138 hz138 ⟨e138,hv138,hfd138⟩=>?_
  subst hv138
  refine R3 5 O ?_
  refine fx_drwS ?_
  refine G1 9 O ?_
  refine fg_splitD 141 rfl (fun hg141=>?_) (fun hg141=>?_)
  ·refine G0 4198400 O ?_
   refine R5 32 O ?_
   refine fx_rseq ?_
   refine sq_r ?_
   refine lq_r ?_
   refine sq_r ?_
   exact rI O ⟨_,rfl,.inr (.inl ⟨rfl,hRG,fun h=>find_lt hfd138 hg141 (h.a x (List.mem_of_getElem? hx))⟩)⟩
  obtain ⟨j9,g9,he9,hj9,hid9⟩:=find_ge hfd138 hg141
  subst he9
  refine G1 5 O ?_
  refine gP rfl rfl rfl ?_
  refine fl_iadS rfl rfl hS kk rfl x hx fun b144 p144 cs at144 hR=>lN ?_
  obtain ⟨sc,sd,hcs,hsc,hsd⟩:=hR
  subst hcs
  refine G1 2 O ?_
  refine fg_ldA (i:=⟨_,_,.load _ _ _⟩) (off:=1) rfl rfl rfl rfl at144 ti rfl (by simp) rfl sR ?_
  refine G1 7 O ?_
  refine gP rfl rfl rfl ?_
  refine fl_iadS rfl rfl hG j9 rfl g9 hj9 fun b149 p149 cs at149 hR=>lN ?_
  obtain ⟨u0,u1,u2,u3,hcs,g0,g1,g2,g3⟩:=hR
  subst hcs
  refine G1 2 O ?_
  refine fg_ldA (i:=⟨_,_,.load _ _ _⟩) (off:=1) rfl rfl rfl rfl at149 ti rfl (by simp) rfl sR ?_
  refine G1 12 O ?_
  refine fg_splitD 154 rfl (fun hg154=>?_) (fun hg154=>?_)
  ·refine G0 512 O ?_
   refine R5 32 O ?_
   refine fx_rseq ?_
   refine sq_r ?_
   refine lq_r ?_
   refine sq_r ?_
   exact rI O ⟨_,rfl,.inr (.inl ⟨rfl,hRG,fun h=>sale_le hRG.nd (List.mem_of_getElem? hj9) hid9 hg154 (h.a x (List.mem_of_getElem? hx))⟩)⟩
  refine G1 5 O ?_
  refine gP rfl rfl rfl ?_
  refine fl_iadS rfl rfl hS kk rfl x hx fun b157 p157 cs at157 hR=>lN ?_
  obtain ⟨tc,td,hcs,htc,htd⟩:=hR
  subst hcs
  refine G1 2 O ?_
  refine fg_ldA (i:=⟨_,_,.load _ _ _⟩) (off:=1) rfl rfl rfl rfl at157 ti rfl (by simp) rfl sR ?_
  refine G1 2 O ?_
  refine gP rfl rfl rfl ?_
  refine fl_lenS rfl hm (lN ?_)
  refine G0 4 O ?_
  refine fx_cseq ?_
  refine xD rfl (fun hc163=>?_) (fun hc163=>?_)
  ·refine R5 8 O ?_
   refine fx_rseq ?_
   refine sq_r ?_
   refine lq_r ?_
   refine sq_r ?_
   exact rI O ⟨_,rfl,.inr (.inl ⟨rfl,hRG,fun h=>sale_ge hc163 (h.a x (List.mem_of_getElem? hx))⟩)⟩
  refine R4 4 O ?_
  refine lZ z138 (c_ref04_Zero (by omega)) rfl rfl fun v164 z164 hz164 hv164=>?_
  have hv164:=qv_op hv164
  obtain ⟨c164,d164,hv,hm164,hn164⟩:=hv164
  subst hv
  have hm164:=hm164.mono (zAq (hzj20.trans (hzi.trans (hzii.trans (hzjj.trans (hzkk.trans hz138))))))
  have hn164:=hn164.mono (zAq (hzj20.trans (hzi.trans (hzii.trans (hzjj.trans (hzkk.trans hz138))))))
  refine fl_al4 fun b16=>?_
  refine fl_st4 rfl rfl rep0 ?_
  refine lN ?_
  refine R5 8 O ?_
  refine fx_seq (fx_block ?_)
  refine fx_loop (fun n fs=>∃ (mm:Nat) (q:Rat) (c16:C) (d16:C) (zm:Mem),LZ z164 zm [.blk b16 (.cells 51 [Cb (decide (q.num<0)),c16,Cb (decide ((q.den:Int)<0)),d16])] [(0,.c cM),(2,gv),(3,sv),(14,Az kk),(16,Ap b16),(17,Az mm)] fs∧n=sales.length - mm∧(mm≤sales.length)∧(q=sumQ ((salesOf (sales.take mm) x.id).map fun y=>rv y.sh))∧(LQ (5 * mm+1) q)∧(CZ 1 RW zm c16 (toL q.num.natAbs))∧(CZ 1 RW zm d16 (toL (q.den:Int).natAbs))) ?_ _ ⟨0,0,c164,d164,_,LZ.m [] O,rfl,Nat.zero_le _,rfl,lq_zero,(hm164.mono zd_le),(hn164.mono zd_le)⟩ (kK (by omega))
  intro n fs ⟨mm,q,c16,d16,zm,hL4,hmz4,hmm,hq,hql,hqm,hqn⟩
  refine hL4.open fun e hzm=>?_
  refine R4 24 O ?_
  refine fl_lenS rfl hS ?_
  refine R3 4 O ?_
  refine xD rfl (fun hc168=>?_) (fun hc168=>?_)
  ·refine fx_kseq ?_
   refine fx_seq (fx_block ?_)
   refine fx_drwS ?_
   obtain ⟨a,ha⟩:=at_lt (l:=sales) (i:=mm) (by omega)
   obtain ⟨ha3,ha4⟩:=hss a (List.mem_of_getElem? ha)
   refine G1 5 O ?_
   refine gP rfl rfl trivial ?_
   refine fl_iadS rfl rfl hS mm rfl a ha fun b173 p173 cs at173 hR=>lN ?_
   obtain ⟨sc,sd,hcs,hsc,hsd⟩:=hR
   subst hcs
   refine G1 2 O ?_
   refine fg_ldA (i:=⟨_,_,.load _ _ _⟩) (off:=0) rfl rfl trivial rfl at173 ti rfl (by simp) rfl sR ?_
   refine G1 5 O ?_
   refine gP rfl rfl trivial ?_
   refine fl_iadS rfl rfl hS kk rfl x hx fun b178 p178 cs at178 hR=>lN ?_
   obtain ⟨tc,td,hcs,htc,htd⟩:=hR
   subst hcs
   refine G1 2 O ?_
   refine fg_ldA (i:=⟨_,_,.load _ _ _⟩) (off:=0) rfl rfl trivial rfl at178 ti rfl (by simp) rfl sR ?_
   refine gP rfl rfl trivial ?_
   refine lB rfl rfl (b_eqlS _ _) (lN ?_)
   refine fg_nil ?_
   refine xD rfl (fun hc181=>?_) (fun hc181=>?_)
   ·refine fx_drw ?_
    refine gl4 O O Ht O ?_
    refine G1 5 O ?_
    refine gP rfl rfl trivial ?_
    refine fl_iadS rfl rfl hS mm rfl a ha fun b185 p185 cs at185 hR=>lN ?_
    obtain ⟨uc,ud,hcs,huc,hud⟩:=hR
    subst hcs
    refine G1 2 O ?_
    refine fg_ldA (i:=⟨_,_,.load _ _ _⟩) (off:=2) rfl rfl trivial rfl at185 ti rfl (by simp) rfl sR ?_
    refine gC zm (c_ref04_Add (by omega) hqm hqn (Nat.le_trans hql.1 (by omega)) (Nat.le_trans hql.2 (by omega)) huc.m hud.m (by omega) (by omega)) O O O O fun v188 z188 _ hv188=>?_
    rw [valR_c] at hv188
    have hv188:=qv_op hv188
    obtain ⟨c188,d188,hv,hm188,hn188⟩:=hv188
    subst hv
    have hm188:=hm188.mono (zAq (hzj20.trans (hzi.trans (hzii.trans (hzjj.trans (hzkk.trans (hz138.trans (hz164.trans hzm))))))))
    have hn188:=hn188.mono (zAq (hzj20.trans (hzi.trans (hzii.trans (hzjj.trans (hzkk.trans (hz138.trans (hz164.trans hzm))))))))
    refine gS O O O ?_
    refine fl_st4 rfl rfl rep0 ?_
    refine lN ?_
    refine fg_nil ?_
    refine sq_n ?_
    refine xG ?_
    refine lC rfl ?_
    refine lB rfl rfl (bI_add (n:=mm+1) (by omega) (by omega)) ?_
    refine R0 2 O ?_
    exact lq_n (by omega) ⟨mm+1,(q+rv a.sh),c188,d188,_,LZ.m [] O,rfl,by omega,by rw [so_y ha hc181,← hq],(hql.add (lq_rv ha3 ha4)).mono (by omega),(hm188.mono zd_le),(hn188.mono zd_le)⟩
   refine fx_skip ?_
   refine sq_n ?_
   refine xG ?_
   refine lC rfl ?_
   refine lB rfl rfl (bI_add (n:=mm+1) (by omega) (by omega)) ?_
   refine R0 2 O ?_
   exact lq_n (by omega) ⟨mm+1,q,c16,d16,_,LZ.m [] O,rfl,by omega,by rw [so_n ha hc181,← hq],hql.mono (by omega),hqm,hqn⟩
  refine fx_eseq ?_
  refine lq_e ?_
  refine sq_n ?_
  refine fx_drwS ?_
  have hqF:q=sumQ ((salesOf sales x.id).map fun y=>rv y.sh):=by rw [hq,List.take_of_length_le (by omega)]
  refine gl4 O O Ht O ?_
  refine gC zm (c_ref04_Whole (by omega) (by decide) (by decide)) O O O O fun v190 z190 _ hv190=>?_
  have hv190:=qv_op hv190
  obtain ⟨c190,d190,hv,hm190,hn190⟩:=hv190
  subst hv
  have hm190:=hm190.mono (zAq (hzj20.trans (hzi.trans (hzii.trans (hzjj.trans (hzkk.trans (hz138.trans (hz164.trans hzm))))))))
  have hn190:=hn190.mono (zAq (hzj20.trans (hzi.trans (hzii.trans (hzjj.trans (hzkk.trans (hz138.trans (hz164.trans hzm))))))))
  refine gC z190 (c_ref04_Cmp (by omega) hqm.m hqn.m (Nat.le_trans hql.1 (by omega)) (Nat.le_trans hql.2 (by omega)) (hm190.mono zd_le) (hn190.mono zd_le) (Nat.le_trans lq_one.1 (by decide)) (Nat.le_trans lq_one.2 (by decide))) O O O O fun v191 z191 _ hv191=>?_
  simp only [valR_c] at hv191
  subst hv191
  refine G0 2 O ?_
  refine xD rfl (fun hc192=>?_) (fun hc192=>?_)
  ·refine R5 4 O ?_
   refine xT ?_
   refine sq_r ?_
   refine lq_r ?_
   refine sq_r ?_
   exact rI O ⟨_,rfl,.inr (.inl ⟨rfl,hRG,fun h=>Rat.not_lt.2 (h.b x (List.mem_of_getElem? hx)) (by rw [← hqF];exact sg_lt.1 hc192)⟩)⟩
  refine fx_skip ?_
  refine sq_n ?_
  refine xG ?_
  refine lC rfl ?_
  refine lB rfl rfl (bI_add (n:=kk+1) (by omega) (by omega)) ?_
  refine R0 2 O ?_
  exact lq_n (by omega) ⟨kk+1,_,LZ.m [_] O,rfl,by omega,tk_all hx hsb ⟨⟨g9,List.mem_of_getElem? hj9,hid9,Int.not_le.1 hg154,Int.not_le.1 hc163⟩,by rw [← hqF];exact sg_sub.1 (Int.not_lt.1 hc192)⟩⟩
 refine fx_eseq ?_
 refine lq_e ?_
 refine sq_n ?_
 refine R5 4 O ?_
 refine xT ?_
 exact rI O ⟨_,rfl,.inl ⟨rfl,hRG,fun s hs=>(hsb s (by rw [List.take_of_length_le (by omega)];exact hs)).1,fun s hs=>(hsb s (by rw [List.take_of_length_le (by omega)];exact hs)).2⟩⟩
open Go.CE Go.RowKit Go.Num
open Go.Eng (setL)
theorem c_ref04_SumL {k:Nat} (hk:10≤k) {z:Mem} {v:AV} {r:List Rat} {m:Nat} (hx:SZ 4 RV z v r) (hb:∀ q,q∈r→LQ m q) (hn:r.length * (m+1)+1≤9000000):FC (E k) 77 [v] z fun v z'=>QV (zd z z') v (sumQ r):=by
 have hxl:=hx.le
 refine fc_of (tS_get77) (by omega) (len1 rfl) fun B j hj=>?_
 refine xR ?_
 refine fl_al4 fun b2=>?_
 refine lN ?_
 refine xR ?_
 refine lZ z (c_ref04_Zero (by omega)) rfl rfl fun v5 z5 hz5 hv5=>?_
 have hv5:=qv_op hv5
 obtain ⟨c5,d5,hv,hm5,hn5⟩:=hv5
 subst hv
 refine fl_al4 fun b3=>?_
 refine fl_st4 rfl rfl rep0 ?_
 refine lN ?_
 refine R5 8 O ?_
 refine fx_seq (fx_block ?_)
 refine fx_loop (fun n fs=>∃ (i:Nat) (q:Rat) (c3:C) (d3:C) (zz:Mem),LZ z5 zz [.blk b3 (.cells 51 [Cb (decide (q.num<0)),c3,Cb (decide ((q.den:Int)<0)),d3]),.blk b2 (.cells 51 [Cb false,Cz,Cb false,Cz])] [(0,v),(2,Ap b2),(3,Ap b3),(4,Az i)] fs∧n=r.length - i∧(i≤r.length)∧(q=sumQ (r.take i))∧(LQ (i * (m+1)+1) q)∧(CZ 1 RW (zd z zz) c3 (toL q.num.natAbs))∧(CZ 1 RW (zd z zz) d3 (toL (q.den:Int).natAbs))) ?_ _ ⟨0,0,_,_,_,LZ.m [] O,rfl,by omega,rfl,lq_zero.mono (by omega),hm5,hn5⟩ (kK (by omega))
 intro n fs ⟨i,q,c3,d3,zz,hL0,hmz0,hi,hq,hql,hqm,hqn⟩
 refine hL0.open fun e hzz=>?_
 refine R4 24 O ?_
 refine fl_lenS rfl hx ?_
 refine R3 4 O ?_
 refine xD rfl (fun hc9=>?_) (fun hc9=>?_)
 ·refine fx_kseq ?_
  refine fx_seq (fx_block ?_)
  refine fx_drw ?_
  obtain ⟨a,ha⟩:=at_lt (l:=r) (i:=i) (by omega)
  have hab:=hb a (List.mem_of_getElem? ha)
  have hmul:i * (m+1)+(m+1)≤r.length * (m+1):=by rw [← Nat.succ_mul];exact Nat.mul_le_mul_right _ (by omega)
  refine gl4 O O Ht O ?_
  refine G1 5 O ?_
  refine gP rfl rfl trivial ?_
  refine fl_iadS rfl rfl hx i rfl a ha fun b15 p15 cs at15 hR=>lN ?_
  obtain ⟨c15,d15,hcs,hqx,hqy⟩:=hR
  subst hcs
  refine fg_ldA (i:=⟨_,_,.load _ _ _⟩) (off:=0) rfl rfl trivial rfl at15 ti rfl (by simp) rfl sR ?_
  refine gC zz (c_ref04_Add (by omega) (hqm.mono zd_le) (hqn.mono zd_le) (Nat.le_trans hql.1 (by omega)) (Nat.le_trans hql.2 (by omega)) hqx.m hqy.m (Nat.le_trans hab.1 (by omega)) (Nat.le_trans hab.2 (by omega))) O O O O fun v17 z17 _ hv17=>?_
  simp only [valR_c] at hv17
  have hv17:=qv_op hv17
  obtain ⟨c17,d17,hv,hm17,hn17⟩:=hv17
  subst hv
  have hm17:=hm17.mono (zAq (hz5.trans hzz))
  have hn17:=hn17.mono (zAq (hz5.trans hzz))
  refine gS O O O ?_
  refine fl_st4 rfl rfl rep0 ?_
  refine lN ?_
  refine fg_nil ?_
  refine sq_n ?_
  refine xG ?_
  refine lC rfl ?_
  refine lB rfl rfl (bI_add (n:=i+1) (by omega) (by omega)) ?_
  refine R0 2 O ?_
  exact lq_n (by omega) ⟨i+1,(q+a),_,_,_,LZ.m [] O,rfl,by omega,by rw [sumQ_tk ha,hq],(hql.add hab).mono (by rw [Nat.succ_mul];omega),hm17,hn17⟩
 refine fx_eseq ?_
 refine lq_e ?_
 refine sq_n ?_
 refine xR ?_
 refine fl_ld4 rfl mem0 rfl ?_
 refine fl_st4 rfl rfl P1 ?_
 refine lN ?_
 refine xT ?_
 refine rQ (.inl rfl) (rc4 rfl Y1 rn) ?_
 rw [List.take_of_length_le (by omega)] at hq
 subst hq
 exact ⟨_,_,rfl,hqm,hqn⟩
theorem c_ref22_noughts {k:Nat} (hk:7≤k) {z:Mem} {m:Nat} (hm:m≤1000):FCt (E k) 72 [Az m] z [] fun v z' H'=>∃ c cs,v=.c c∧H'=[rowT 51 4 (c,cs,List.replicate m (0:Rat))]∧CL 4 RV (zd z z') cs (List.replicate m 0):=by
 refine fct_of (tS_get72) (by omega) (len1 rfl) fun B j hj=>?_
 refine R4 16 O ?_
 refine fl_row0 51 4 ?_
 refine lN ?_
 refine R5 8 O ?_
 refine fx_seq (fx_block ?_)
 refine fx_loop (fun n fs=>∃ (i:Nat) (cu:C) (csx:List C) (zz:Mem),LZ z zz [.row (.c cu) 51 4 i csx] [(0,Az m),(3,.c cu),(4,Az i)] fs∧n=m - i∧(i≤m)∧(CL 4 RV (zd z zz) csx (List.replicate i 0))) ?_ _ ⟨0,Cz,[],_,LZ.m [] O,rfl,Nat.zero_le _,CL.nil⟩ (kK (by omega))
 intro n fs ⟨i,cu,csx,zz,hL0,hmz0,hi,hcl⟩
 refine hL0.open fun e hzz=>?_
 refine R5 64 O ?_
 refine xD rfl (fun hc7=>?_) (fun hc7=>?_)
 ·refine fx_kseq ?_
  refine fx_seq (fx_block ?_)
  refine xG ?_
  refine lC rfl ?_
  refine lZ zz (c_ref04_Zero (by omega)) rfl rfl fun v11 z11 _ hv11=>?_
  have hv11:=qv_op hv11
  obtain ⟨c11,d11,hv,hm11,hn11⟩:=hv11
  subst hv
  have hm11:=hm11.mono (zAq (hzz))
  have hn11:=hn11.mono (zAq (hzz))
  refine fl_bslice rfl fun b12=>?_
  refine fl_appB (n:=i) (m:=1) (cs:=csx) rfl rfl mem0 rfl (fun _=>repS rep0) (by omega) (by omega) fun c13 hc13=>?_
  refine R0 2 O ?_
  refine sq_n ?_
  refine xG ?_
  refine lC rfl ?_
  refine lB rfl rfl (bI_add (n:=i+1) (by omega) (by omega)) ?_
  refine R0 2 O ?_
  exact lq_n (by omega) ⟨i+1,c13,_,_,LZ.m [_] O,rfl,by omega,by rw [List.replicate_succ'];exact ((hcl.mono (zd_mono zI))).append (CL.one rfl ⟨_,_,rfl,hm11,hn11⟩)⟩
 refine fx_eseq ?_
 refine lq_e ?_
 refine sq_n ?_
 refine R5 8 O ?_
 obtain rfl:i=m:=by omega
 refine xT ?_
 refine ret_h (.inl rfl) (rt rfl rn) (List.Sublist.refl _) ?_
 exact ⟨_,csx,rfl,by rw [rowT,List.length_replicate],hcl⟩
theorem c_plus1 {k:Nat} (hk:10≤k) {z:Mem} {e0 m0 bd:Nat} {ei:Int} (he:ei=((e0:Nat):Int)) {cs:List C} {q x:Rat} {w0 w1 x0 x1:C} (hem:e0<m0) (hcl:cs.length=m0 * 4) (hw:(cs.drop (e0 * 4)).take 4=[Cb (decide (q.num<0)),w0,Cb (decide ((q.den:Int)<0)),w1]) (q0:CZ 1 RW z w0 (toL q.num.natAbs)) (q1:CZ 1 RW z w1 (toL (q.den:Int).natAbs)) (g0:CZ 1 RW z x0 (toL x.num.natAbs)) (g1:CZ 1 RW z x1 (toL (x.den:Int).natAbs)) (hq:LQ 4000000 q) (hx:LQ 4000000 x):FCt (E k) 75 [.c (.sl bd 0 m0 4),Ai ei,.agg [Cb (decide (x.num<0)),x0,Cb (decide ((x.den:Int)<0)),x1]] z [.blk bd (.cells 51 cs)] fun v z' H'=>v=.c (.sl bd 0 m0 4)∧∃ a b,H'=[.blk bd (.cells 51 (setL cs (e0 * 4) [Cb (decide ((q+x).num<0)),a,Cb (decide (((q+x).den:Int)<0)),b]))]∧CZ 1 RW z' a (toL (q+x).num.natAbs)∧CZ 1 RW z' b (toL ((q+x).den:Int).natAbs):=by
 refine fct_of (tS_get75) (by omega) (len1 rfl) fun B j hj=>?_
 refine xR ?_
 refine fl_bx rfl fun b5=>?_
 refine R0 2 O ?_
 refine fx_drwS ?_
 refine G1 16 O ?_
 refine gP rfl rfl trivial ?_
 refine fl_iad rfl rfl e0 he (by omega) (lN ?_)
 refine fg_ld4 (i:=⟨_,_,.load _ _ _⟩) rfl rfl trivial rfl (.inr Y1) (by rw [Nat.zero_add];exact hw) sR ?_
 refine gl4 O O Ht O ?_
 refine gC z (c_ref04_Add (by omega) q0 q1 (Nat.le_trans hq.1 (by decide)) (Nat.le_trans hq.2 (by decide)) g0 g1 (Nat.le_trans hx.1 (by decide)) (Nat.le_trans hx.2 (by decide))) O O O O fun v14 z14 _ hv14=>?_
 simp only [valR_c] at hv14
 have hv14:=qv_op hv14
 obtain ⟨c14,d14,hv,hm14,hn14⟩:=hv14
 subst hv
 refine gP rfl rfl trivial ?_
 refine fl_iad rfl rfl e0 he (by omega) (lN ?_)
 refine gS O O O ?_
 refine fl_st rfl rfl rfl P1 rfl (by omega) ?_
 refine lN ?_
 refine fg_nil ?_
 refine R5 8 O ?_
 refine xT ?_
 refine ret_h (.inl rfl) (rt rfl rn) (List.sublist_append_right [_] _) ?_
 rw [Nat.zero_add]
 exact ⟨rfl,_,_,rfl,(hm14.mono zd_le),(hn14.mono zd_le)⟩
open Go.CE Go.RowKit Go.Num
open Go.Eng (setL)
theorem one_fp {T:Mem} {b:Nat} {k:Blk} (h:∀ k,¬ T b k):∀ x,x∈fps [.blk b k]→∀ k,¬ T x k:=fun x hx=>by
 simp [fps,HA.fp] at hx;subst hx;exact h
end Go.Proofs.YtlceligcgelbdaaGreat
