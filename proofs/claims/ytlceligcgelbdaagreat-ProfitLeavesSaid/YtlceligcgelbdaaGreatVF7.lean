/- The law, walked. -/
import Derived.WalkKit
import Derived.Orders
import Derived.Test.YtlceligcgelbdaaGreatVF6
set_option linter.unusedVariables false
set_option linter.unusedSimpArgs false
set_option maxRecDepth 100000
set_option maxHeartbeats 1000000
namespace Go.Proofs.YtlceligcgelbdaaGreat
open Go.CE Go.RowKit Go.Num
open Go.Eng (setL)
structure SmallP (ms:List (List Bool)) (goods:List PGood) (sales:List PSale):Prop where
 m:ms.length≤8
 r:∀ r,r∈ms→r.length≤8
 g:goods.length≤8
 gs:∀ g,g∈goods→SG g
 s:sales.length≤12
 ss:∀ x,x∈sales→x.sh.nm.length≤3∧x.sh.dm.length≤3
theorem sg_of {g:PGood} (h:g.mg.nm.length≤3∧g.mg.dm.length≤3) (h2:g.us.nm.length≤3∧g.us.dm.length≤3):SG g:=⟨h.1,h.2,h2.1,h2.2⟩
def pq (q:Rat):PRat:=⟨decide (q.num<0),toL q.num.natAbs,decide ((q.den:Int)<0),toL (q.den:Int).natAbs⟩
theorem rv_pq (q:Rat):rv (pq q)=q:=valR_c q
def gK (id:ByteArray) (yr m u:Int):PGood:=⟨id,yr,1,0,pq (Rat.divInt m 1),pq (Rat.divInt u 4)⟩
def sK (id:ByteArray) (yr u:Int):PSale:=⟨id,yr,pq (Rat.divInt u 5)⟩
theorem c_law22_short {k:Nat} (hk:1≤k) {z:Mem} {n1 n2:Bool} {c1 c2:C} {l1 l2:List UInt32} (hx:CZ 1 RW z c1 l1) (hy:CZ 1 RW z c2 l2):FC (E k) 68 [.agg [Cb n1,c1,Cb n2,c2]] z fun u _=>∃ b:Bool,u=bool_ b∧(b=true→l1.length≤3∧l2.length≤3):=by
 refine fc_of (tS_get68) (by omega) (len1 rfl) fun B j hj=>?_
 refine xR ?_
 refine fl_bx rfl fun b1=>?_
 refine R2 16 O ?_
 refine fl_ld1 rfl mem0 rfl ?_
 refine fl_lenS rfl hx ?_
 refine R1 4 O ?_
 refine fl_splitD 8 rfl (fun hg8=>?_) (fun hg8=>?_)
 ·refine R1 4 O ?_
  refine lD rfl ?_
  refine fl_ld1 rfl mem0 rfl ?_
  refine lD rfl ?_
  refine fl_lenS rfl hy ?_
  refine R0 12 O ?_
  refine xT ?_
  refine rI O ?_
  refine ⟨_,rfl,fun h=>?_⟩
  have h5:=of_decide_eq_true h
  omega
 refine R0 192 O ?_
 refine xT ?_
 refine rI O ?_
 refine ⟨_,rfl,fun h=>?_⟩
 exact absurd h (by decide)
theorem c_law22_small {k:Nat} (hk:2≤k) {z:Mem} {cM:C} {gv sv:AV} {ms:List (List Bool)} {goods:List PGood} {sales:List PSale} (hm:CZ 1 (RC 1 (RE Value.bool)) z cM ms) (hG:SZ 12 RGood z gv goods) (hS:SZ 6 RSale z sv sales):FC (E k) 24 [.c cM,gv,sv] z fun u _=>∃ b:Bool,u=bool_ b∧(b=true→SmallP ms goods sales):=by
 have hml:=hm.le
 have hgl:=hG.le
 have hsl:=hS.le
 refine fc_of (tS_get24) (by omega) (len1 rfl) fun B j hj=>?_
 refine R4 32 O ?_
 refine fl_lenS rfl hm ?_
 refine R1 4 O ?_
 refine fl_splitD 13 rfl (fun hg13=>?_) (fun hg13=>?_)
 ·refine R3 16400 O ?_
  refine fx_rseq ?_
  refine rI O ?_
  refine ⟨_,rfl,fun h=>?_⟩
  exact absurd h (by decide)
 refine lD rfl ?_
 refine lM rfl ?_
 refine lD rfl ?_
 refine fl_lenS rfl hG ?_
 refine R1 12 O ?_
 refine fl_splitD 18 rfl (fun hg18=>?_) (fun hg18=>?_)
 ·refine R3 512 O ?_
  refine fx_rseq ?_
  refine rI O ?_
  refine ⟨_,rfl,fun h=>?_⟩
  exact absurd h (by decide)
 refine lD rfl ?_
 refine lM rfl ?_
 refine lD rfl ?_
 refine fl_lenS rfl hS ?_
 refine R3 8 O ?_
 refine xD rfl (fun hc22=>?_) (fun hc22=>?_)
 ·refine R5 8 O ?_
  refine fx_rseq ?_
  refine rI O ?_
  refine ⟨_,rfl,fun h=>?_⟩
  exact absurd h (by decide)
 refine R5 16 O ?_
 refine fx_seq (fx_block ?_)
 refine fx_loop (fun n fs=>∃ (i:Nat),LI z [] [(0,.c cM),(1,gv),(2,sv),(7,Az i)] fs∧n=ms.length - i∧(i≤ms.length)∧(∀ r,r∈ms.take i→r.length≤8)) ?_ _ ⟨0,LI.m [] O,rfl,Nat.zero_le _,fun a ha=>by simp at ha⟩ (kK (by omega))
 intro n fs ⟨i,hL0,hmz0,hi,h8⟩
 refine hL0.open fun e zl0 _=>?_
 refine R4 16 O ?_
 refine fl_lenS rfl hm ?_
 refine R3 4 O ?_
 refine xD rfl (fun hc26=>?_) (fun hc26=>?_)
 ·refine fx_kseq ?_
  refine fx_seq (fx_block ?_)
  refine xR ?_
  obtain ⟨r,hr⟩:=at_lt (l:=ms) (i:=i) (by omega)
  refine R1 4 O ?_
  refine fl_iadS (zz:=zl0) rfl rfl hm.m i rfl r hr fun b31 p31 cs at31 hR=>?_
  obtain ⟨c31,hcs,q31⟩:=hR
  subst hcs
  refine fl_ldA (off:=0) rfl at31 rfl (by simp) rfl ?_
  have hrl:=q31.le
  refine fl_lenS rfl q31 ?_
  refine R0 2 O ?_
  refine xD rfl (fun hc34=>?_) (fun hc34=>?_)
  ·refine R5 4 O ?_
   refine xT ?_
   refine sq_r ?_
   refine lq_r ?_
   refine sq_r ?_
   refine rI O ?_
   refine ⟨_,rfl,fun h=>?_⟩
   exact absurd h (by decide)
  refine fx_skip ?_
  refine sq_n ?_
  refine xG ?_
  refine lC rfl ?_
  refine lB rfl rfl (bI_add (n:=i+1) (by omega) (by omega)) ?_
  refine R0 2 O ?_
  exact lq_n (by omega) ⟨i+1,LI.m [] O,rfl,by omega,tk_all hr h8 (by omega)⟩
 refine fx_eseq ?_
 refine lq_e ?_
 refine sq_n ?_
 refine R5 8 O ?_
 refine fx_seq (fx_block ?_)
 refine fx_loop (fun n fs=>∃ (jj:Nat),LI zl0 [] [(1,gv),(2,sv),(8,Az jj)] fs∧n=goods.length - jj∧(jj≤goods.length)∧(∀ g,g∈goods.take jj→SG g)) ?_ _ ⟨0,LI.m [] O,rfl,Nat.zero_le _,fun a ha=>by simp at ha⟩ (kK (by omega))
 intro n fs ⟨jj,hL1,hmz1,hj5,hg5⟩
 refine hL1.open fun e zl1 _=>?_
 refine R4 24 O ?_
 refine fl_lenS rfl hG ?_
 refine R3 4 O ?_
 refine xD rfl (fun hc38=>?_) (fun hc38=>?_)
 ·refine fx_kseq ?_
  refine fx_seq (fx_block ?_)
  refine xR ?_
  obtain ⟨g,hg⟩:=at_lt (l:=goods) (i:=jj) (by omega)
  refine R1 5 O ?_
  refine fl_iadS (zz:=zl1) rfl rfl hG.m jj rfl g hg fun b43 p43 cs at43 hR=>?_
  obtain ⟨u0,u1,u2,u3,hcs,g0,g1,g2,g3⟩:=hR
  subst hcs
  refine lF rfl ?_
  refine fl_ldA (off:=0) rfl at43 rfl (by simp) rfl ?_
  refine fl_lenT rfl ?_
  refine R1 4 O ?_
  refine fl_splitD 48 rfl (fun hg48=>?_) (fun hg48=>?_)
  ·refine R3 1048832 O ?_
   refine xT ?_
   refine sq_r ?_
   refine lq_r ?_
   refine sq_r ?_
   refine rI O ?_
   refine ⟨_,rfl,fun h=>?_⟩
   exact absurd h (by decide)
  refine R1 5 O ?_
  refine lD rfl ?_
  refine fl_iadS (zz:=zl1) rfl rfl hG.m jj rfl g hg fun b51 p51 cs at51 hR=>?_
  obtain ⟨u0,u1,u2,u3,hcs,g0,g1,g2,g3⟩:=hR
  subst hcs
  refine lD rfl ?_
  refine lF rfl ?_
  refine lD rfl ?_
  refine fl_ldA (off:=4) rfl at51 rfl (by simp) rfl ?_
  refine lD rfl ?_
  refine lZ zl1 (c_law22_short (by omega) g0 g1) rfl rfl fun v54 z54 _ ⟨w54,hv54,hs54⟩=>?_
  subst hv54
  refine R1 12 O ?_
  refine fl_splitB 57 rfl (fun hg57=>?_) (fun hg57=>?_)
  ·refine R3 2048 O ?_
   refine xT ?_
   refine sq_r ?_
   refine lq_r ?_
   refine sq_r ?_
   refine rI O ?_
   refine ⟨_,rfl,fun h=>?_⟩
   exact absurd h (by decide)
  refine R1 5 O ?_
  refine lD rfl ?_
  refine fl_iadS (zz:=z54) rfl rfl hG.m jj rfl g hg fun b60 p60 cs at60 hR=>?_
  obtain ⟨u0,u1,u2,u3,hcs,g0,g1,g2,g3⟩:=hR
  subst hcs
  refine lD rfl ?_
  refine lF rfl ?_
  refine lD rfl ?_
  refine fl_ldA (off:=8) rfl at60 rfl (by simp) rfl ?_
  refine lD rfl ?_
  refine lZ z54 (c_law22_short (by omega) g2 g3) rfl rfl fun v63 z63 _ ⟨w63,hv63,hs63⟩=>?_
  subst hv63
  refine R0 4 O ?_
  refine fx_condB rfl (fun hc65=>?_) (fun hc65=>?_)
  ·refine R5 4 O ?_
   refine xT ?_
   refine sq_r ?_
   refine lq_r ?_
   refine sq_r ?_
   refine rI O ?_
   refine ⟨_,rfl,fun h=>?_⟩
   exact absurd h (by decide)
  refine fx_skip ?_
  refine sq_n ?_
  refine xG ?_
  refine lC rfl ?_
  refine lB rfl rfl (bI_add (n:=jj+1) (by omega) (by omega)) ?_
  refine R0 2 O ?_
  exact lq_n (by omega) ⟨jj+1,LI.m [] O,rfl,by omega,tk_all hg hg5 (sg_of (hs54 (nf_t hg57)) (hs63 (nf_t hc65)))⟩
 refine fx_eseq ?_
 refine lq_e ?_
 refine sq_n ?_
 refine R5 8 O ?_
 refine fx_seq (fx_block ?_)
 refine fx_loop (fun n fs=>∃ (kk:Nat),LI zl1 [] [(2,sv),(9,Az kk)] fs∧n=sales.length - kk∧(kk≤sales.length)∧(∀ x,x∈sales.take kk→x.sh.nm.length≤3∧x.sh.dm.length≤3)) ?_ _ ⟨0,LI.m [] O,rfl,Nat.zero_le _,fun a ha=>by simp at ha⟩ (kK (by omega))
 intro n fs ⟨kk,hL2,hmz2,hk5,hx5⟩
 refine hL2.open fun e zl2 _=>?_
 refine R4 24 O ?_
 refine fl_lenS rfl hS ?_
 refine R3 4 O ?_
 refine xD rfl (fun hc69=>?_) (fun hc69=>?_)
 ·refine fx_kseq ?_
  refine fx_seq (fx_block ?_)
  refine xR ?_
  obtain ⟨x,hx⟩:=at_lt (l:=sales) (i:=kk) (by omega)
  refine R1 5 O ?_
  refine fl_iadS (zz:=zl2) rfl rfl hS.m kk rfl x hx fun b74 p74 cs at74 hR=>?_
  obtain ⟨u0,u1,hcs,s0,s1⟩:=hR
  subst hcs
  refine lF rfl ?_
  refine fl_ldA (off:=0) rfl at74 rfl (by simp) rfl ?_
  refine fl_lenT rfl ?_
  refine R1 4 O ?_
  refine fl_splitD 79 rfl (fun hg79=>?_) (fun hg79=>?_)
  ·refine R3 2048 O ?_
   refine xT ?_
   refine sq_r ?_
   refine lq_r ?_
   refine sq_r ?_
   refine rI O ?_
   refine ⟨_,rfl,fun h=>?_⟩
   exact absurd h (by decide)
  refine R1 5 O ?_
  refine lD rfl ?_
  refine fl_iadS (zz:=zl2) rfl rfl hS.m kk rfl x hx fun b82 p82 cs at82 hR=>?_
  obtain ⟨u0,u1,hcs,s0,s1⟩:=hR
  subst hcs
  refine lD rfl ?_
  refine lF rfl ?_
  refine lD rfl ?_
  refine fl_ldA (off:=2) rfl at82 rfl (by simp) rfl ?_
  refine lD rfl ?_
  refine lZ zl2 (c_law22_short (by omega) s0 s1) rfl rfl fun v85 z85 _ ⟨w85,hv85,hs85⟩=>?_
  subst hv85
  refine R0 4 O ?_
  refine fx_condB rfl (fun hc87=>?_) (fun hc87=>?_)
  ·refine R5 4 O ?_
   refine xT ?_
   refine sq_r ?_
   refine lq_r ?_
   refine sq_r ?_
   refine rI O ?_
   refine ⟨_,rfl,fun h=>?_⟩
   exact absurd h (by decide)
  refine fx_skip ?_
  refine sq_n ?_
  refine xG ?_
  refine lC rfl ?_
  refine lB rfl rfl (bI_add (n:=kk+1) (by omega) (by omega)) ?_
  refine R0 2 O ?_
  exact lq_n (by omega) ⟨kk+1,LI.m [] O,rfl,by omega,tk_all hx hx5 (hs85 (nf_t hc87))⟩
 refine fx_eseq ?_
 refine lq_e ?_
 refine sq_n ?_
 refine R5 4 O ?_
 refine xT ?_
 exact rI O ⟨true,rfl,fun _=>⟨by omega,fun r hr=>h8 r (by rw [List.take_of_length_le (by omega)];exact hr),by omega,fun g hg=>hg5 g (by rw [List.take_of_length_le (by omega)];exact hg),by omega,fun x hx=>hx5 x (by rw [List.take_of_length_le (by omega)];exact hx)⟩⟩
theorem c_law22_good {k:Nat} (hk:11≤k) {z:Mem} {id:ByteArray} {yr m u:Int} (h1 : -9223372036854775808≤m) (h2:m<9223372036854775808) (h3 : -9223372036854775808≤u) (h4:u<9223372036854775808):FC (E k) 69 [.c (Cs id),Ai yr,Ai m,Ai u] z fun v z'=>∃ cs,v=.agg cs∧RGood z' cs (gK id yr m u):=by
 refine fc_of (tS_get69) (by omega) (len1 rfl) fun B j hj=>?_
 refine xR ?_
 refine fl_alloc fun b8=>?_
 refine lN ?_
 refine R4 16 O ?_
 refine lZ z (c_fil_By (n:=m) (d:=1) (by omega) (by omega) (by omega) (by decide) (by decide) (by decide)) rfl rfl fun v12 z12 hz12 hv12=>?_
 have hv12:=qv_op hv12
 obtain ⟨c12,d12,hv,hm12,hn12⟩:=hv12
 subst hv
 refine lC rfl ?_
 refine lZ z12 (c_fil_By (n:=u) (d:=4) (by omega) (by omega) (by omega) (by decide) (by decide) (by decide)) rfl rfl fun v14 z14 _ hv14=>?_
 have hv14:=qv_op hv14
 obtain ⟨c14,d14,hv,hm14,hn14⟩:=hv14
 subst hv
 have hm14:=hm14.mono (zAq (hz12))
 have hn14:=hn14.mono (zAq (hz12))
 refine fl_bd (cs:=[Cs id,Ci yr,Ci 1,Ci 0,Cb (decide ((Rat.divInt m 1).num<0)),c12,Cb (decide (((Rat.divInt m 1).den:Int)<0)),d12,Cb (decide ((Rat.divInt u 4).num<0)),c14,Cb (decide (((Rat.divInt u 4).den:Int)<0)),d14]) (by kernel_rfl) ?_
 refine fl_stAll rfl rfl rfl rfl rep0 ?_
 refine lN ?_
 refine xT ?_
 refine rQ (.inl rfl) (rcAll rfl mem0 rfl rn) ?_
 exact ⟨_,rfl,_,_,_,_,rfl,hm12.m,hn12.m,(hm14.mono zd_le),(hn14.mono zd_le)⟩
theorem c_law22_sale {k:Nat} (hk:11≤k) {z:Mem} {id:ByteArray} {yr u:Int} (h3 : -9223372036854775808≤u) (h4:u<9223372036854775808):FC (E k) 70 [.c (Cs id),Ai yr,Ai u] z fun v z'=>∃ cs,v=.agg cs∧RSale z' cs (sK id yr u):=by
 refine fc_of (tS_get70) (by omega) (len1 rfl) fun B j hj=>?_
 refine xR ?_
 refine fl_alloc fun b6=>?_
 refine lN ?_
 refine R4 16 O ?_
 refine lZ z (c_fil_By (n:=u) (d:=5) (by omega) (by omega) (by omega) (by decide) (by decide) (by decide)) rfl rfl fun v10 z10 _ hv10=>?_
 have hv10:=qv_op hv10
 obtain ⟨c10,d10,hv,hm10,hn10⟩:=hv10
 subst hv
 refine fl_bd (cs:=[Cs id,Ci yr,Cb (decide ((Rat.divInt u 5).num<0)),c10,Cb (decide (((Rat.divInt u 5).den:Int)<0)),d10]) rfl ?_
 refine fl_stAll rfl rfl rfl rfl rep0 ?_
 refine lN ?_
 refine xT ?_
 refine rQ (.inl rfl) (rcAll rfl mem0 rfl rn) ?_
 exact ⟨_,rfl,_,_,rfl,(hm10.mono zd_le),(hn10.mono zd_le)⟩
open Go.CE Go.RowKit Go.Num
theorem b_neF {k:IntKind} {x y:Int} (h:x=y):binW .neq (.int k x) (.int k y)=some (.bool false):=by rw [b_neq,decide_eq_true h];rfl
theorem b_eqT {k:IntKind} {x y:Int} (h:x=y):binW .eql (.int k x) (.int k y)=some (.bool true):=by rw [b_eql,decide_eq_true h]
theorem b_ltF {k:IntKind} {x y:Int} (h:y≤x):binW .lss (.int k x) (.int k y)=some (.bool false):=by rw [b_lss,decide_eq_false (by omega)]
theorem b_gtF {k:IntKind} {x y:Int} (h:x≤y):binW .gtr (.int k x) (.int k y)=some (.bool false):=by rw [b_gtr,decide_eq_false (by omega)]
theorem sg_eq {p q:Rat} (h:p=q):(p.num * (q.den:Int) - q.num * (p.den:Int)).sign=0:=by subst h;rw [Int.sub_self];rfl
theorem right_pq (q:Rat):rightR (rRaw (pq q))=true:=right_cR q
theorem row_ok {z:Mem} {cs:List C} {tk rl:List Ent} {m y Y:Nat} (h:RLRow z cs ((rowE tk y m,rowE rl y m),if y<Y then some (bals tk rl m (y+1)) else none)) (hy:y<Y):∃ c d e f,cs=[c,d,Cb (decide ((bals tk rl m (y+1)).num<0)),e,Cb (decide (((bals tk rl m (y+1)).den:Int)<0)),f]∧CZ 4 RV z c (rowE tk y m)∧CZ 4 RV z d (rowE rl y m)∧CZ 1 RW z e (toL (bals tk rl m (y+1)).num.natAbs)∧CZ 1 RW z f (toL ((bals tk rl m (y+1)).den:Int).natAbs):=by
 rw [if_pos hy] at h
 obtain ⟨c,d,e,h1,h2,h3,e1,e2,h4,h5,h6⟩:=h
 subst h4
 exact ⟨c,d,e1,e2,h1,h2,h3,h5,h6⟩
def ms3:List (List Bool):=[[true,true],[true,true],[true,false]]
def gd0:PGood:=gK ⟨#[103]⟩ 0 30 2
def sG (yr u:Int):PSale:=sK ⟨#[103]⟩ yr u
theorem g0_mg:rv gd0.mg=30:=(rv_pq _).trans (by decide +kernel)
theorem g0_us:rv gd0.us=Rat.divInt 1 2:=(rv_pq _).trans (by decide +kernel)
theorem sg_v (yr u:Int):rv (sG yr u).sh=Rat.divInt u 5:=rv_pq _
theorem w_gB:goodB ms3 gd0=true:=by
 simp only [goodB,partB,Bool.and_eq_true,g0_mg,g0_us]
 exact ⟨⟨⟨⟨⟨by decide,by decide⟩,by decide⟩,right_pq _⟩,by decide +kernel⟩,⟨⟨right_pq _,by decide +kernel⟩,by decide +kernel⟩⟩
theorem w_R {S:List PSale} (h:∀ s,s∈S→partB s.sh=true):RightG ms3 0 [gd0] S:=
 ⟨by decide,by decide,by simp,fun g hg=>by rw [List.mem_singleton.1 hg];exact w_gB,h⟩
theorem sg_B {yr u:Int} (h:(decide ((0:Rat)≤Rat.divInt u 5) && decide (Rat.divInt u 5≤1))=true):partB (sG yr u).sh=true:=by
 simp only [partB,Bool.and_eq_true,sg_v] at h ⊢
 exact ⟨⟨right_pq _,h.1⟩,h.2⟩
theorem sO_1 {yr u:Int}:salesOf [sG yr u] gd0.id=[sG yr u]:=rfl
theorem w_S0:SoldG ms3 [gd0] []:=⟨fun s h=>(by cases h),fun s h=>(by cases h)⟩
theorem w_S1 : SoldG ms3 [gd0] [sG 1 1] := ⟨fun s h => by
  rw [List.mem_singleton.1 h];exact ⟨gd0,List.mem_singleton.2 rfl,rfl,by decide,by decide⟩,fun s h=>by
  rw [List.mem_singleton.1 h]
  show rv (sG 1 1).sh+0≤1
  rw [sg_v]
  decide +kernel⟩
theorem w_S2:¬ SoldG ms3 [gd0] [sG 0 1]:=fun h=>by
 obtain ⟨g,hg,_,h2,_⟩:=h.a (sG 0 1) (List.mem_singleton.2 rfl)
 rw [List.mem_singleton.1 hg] at h2
 exact absurd h2 (by decide)
theorem w_S3:¬ SoldG ms3 [gd0] [sG 1 5,sG 2 1]:=fun h=>by
 have:=h.b (sG 1 5) (by simp)
 have e:sumQ ((salesOf [sG 1 5,sG 2 1] (sG 1 5).id).map fun x=>rv x.sh)=rv (sG 1 5).sh+(rv (sG 2 1).sh+0):=rfl
 rw [e,sg_v,sg_v] at this
 exact absurd this (by decide +kernel)
theorem w_d:dfr ms3 gd0=15:=by
 rw [dfr,if_pos (by decide),g0_mg,g0_us];decide +kernel
theorem w_y:yrs ms3 gd0 (ms3.length - (gd0.yr.toNat+1)) (gd0.yr.toNat+1)=[1,2]:=by decide
theorem w_g0:goodR ms3 0 [] gd0=⟨0,0,15,[((2,0),15)]⟩:=by
 rw [goodR_g,w_y,gst,w_d]
 show stepY ms3 0 gd0 [] 15 (stepY ms3 0 gd0 [] 15 ⟨15,0,0,[]⟩ 1) 2=_
 rw [show stepY ms3 0 gd0 [] 15 ⟨15,0,0,[]⟩ 1=⟨15,0,0,[]⟩ from by rw [stepY,if_pos (by decide)];rfl,stepY,if_neg (by decide)]
 rfl
theorem w_g1:goodR ms3 0 [sG 1 1] gd0=⟨0,3,12,[((1,1),3),((2,0),12)]⟩:=by
 rw [goodR_g,w_y,gst,w_d,sO_1]
 show stepY ms3 0 gd0 [sG 1 1] 15 (stepY ms3 0 gd0 [sG 1 1] 15 ⟨15,0,0,[]⟩ 1) 2=_
 have e:stepY ms3 0 gd0 [sG 1 1] 15 ⟨15,0,0,[]⟩ 1=⟨12,3,0,[((1,1),3)]⟩:=by
  rw [stepY,if_pos (by decide)]
  show stepS gd0 15 1 ⟨15,0,0,[]⟩ (sG 1 1)=_
  rw [stepS,if_pos (by decide),sg_v,show (15:Rat) * Rat.divInt 1 5=3 by decide +kernel,show (15:Rat) - 3=12 by decide +kernel,show (0:Rat)+3=3 by decide +kernel]
  rfl
 rw [e,stepY,if_neg (by decide)]
 rfl
theorem w_t:takenL ms3 [gd0]=[((0,1),15)]:=by rw [← w_d];rfl
theorem w_r0:relL ms3 0 [gd0] []=[((2,0),15)]:=by
 rw [show relL ms3 0 [gd0] []=(goodR ms3 0 [] gd0).rel++[] from rfl,w_g0];rfl
theorem w_r1:relL ms3 0 [gd0] [sG 1 1]=[((1,1),3),((2,0),12)]:=by
 rw [show relL ms3 0 [gd0] [sG 1 1]=(goodR ms3 0 [sG 1 1] gd0).rel++[] from rfl,w_g1];rfl
theorem w_a:atE (takenL ms3 [gd0]) 0 1=15:=by rw [w_t];decide +kernel
theorem w_b:bals (takenL ms3 [gd0]) (relL ms3 0 [gd0] []) 2 2=15:=by rw [w_t,w_r0];decide +kernel
theorem w_c:atE (relL ms3 0 [gd0] []) 2 0=15:=by rw [w_r0];decide +kernel
theorem w_e:bals (takenL ms3 [gd0]) (relL ms3 0 [gd0] []) 2 3=0:=by rw [w_t,w_r0];decide +kernel
theorem w_f:atE (relL ms3 0 [gd0] [sG 1 1]) 1 1=3:=by rw [w_r1];decide +kernel
theorem w_h:atE (relL ms3 0 [gd0] [sG 1 1]) 2 0=12:=by rw [w_r1];decide +kernel
theorem w_ms:SmallP ms3 [gd0] []↔True:=by
 refine ⟨fun _=>trivial,fun _=>⟨by decide,by decide,by decide,fun g hg=>?_,by decide,fun x hx=>(by cases hx)⟩⟩
 rw [List.mem_singleton.1 hg]
 refine ⟨?_,?_,?_,?_⟩
 ·exact toL_len.2 (by decide +kernel)
 ·exact toL_len.2 (by decide +kernel)
 ·exact toL_len.2 (by decide +kernel)
 exact toL_len.2 (by decide +kernel)
theorem sg_S {yr u:Int} (h:(Rat.divInt u 5).num.natAbs<4294967296 ^ 3∧((Rat.divInt u 5).den:Int).natAbs<4294967296 ^ 3):(sG yr u).sh.nm.length≤3∧(sG yr u).sh.dm.length≤3:=⟨toL_len.2 h.1,toL_len.2 h.2⟩
theorem lq_z {q:Rat} {v:Int} (h:q=(v:Rat)) (h2:v.natAbs<4294967296):(toL q.num.natAbs).length≤9000000∧(toL (q.den:Int).natAbs).length≤9000000:=by
 subst h
 exact ⟨Nat.le_trans (m:=1) (toL_len.2 (by simpa using h2)) (by decide),Nat.le_trans (m:=1) (toL_len.2 (show (1:Nat)<_ by decide)) (by decide)⟩
open Go.CE Go.RowKit Go.Num
open Go.Eng (setL)
theorem ms3_sz {z:Mem} {b12 b13 b14 b15 t12 t13 t14 t15:Nat} (h1:z b12 (.cells t12 [Cb true,Cb true])) (h2:z b13 (.cells t13 [Cb true,Cb true])) (h3:z b14 (.cells t14 [Cb true,Cb false])) (h4:z b15 (.cells t15 [.sl b12 0 2 1,.sl b13 0 2 1,.sl b14 0 2 1])):SZ 1 (RC 1 (RE Value.bool)) z (Aw b15 3) ms3:=by
 have e:∀ {b ty:Nat} {l:List Bool},l.length=2→z b (.cells ty (cE Value.bool l))→RC 1 (RE Value.bool) z [.sl b 0 2 1] l:=fun hl h=>⟨_,rfl,cE_cl.sz hl (len1 rfl) h⟩
 exact CL.sz (l:=ms3) (show CL 1 (RC 1 (RE Value.bool)) z ([.sl b12 0 2 1]++([.sl b13 0 2 1]++[.sl b14 0 2 1])) ([[true,true]]++([[true,true]]++[[true,false]])) from (CL.one rfl (e rfl h1)).append ((CL.one rfl (e rfl h2)).append (CL.one rfl (e rfl h3)))) rfl (len1 rfl) h4
theorem sl2_sz {z:Mem} {b ty:Nat} {x y u v:C} (h:z b (.cells ty [Cs ⟨#[103]⟩,Ci 1,.v (.bool (sG 1 5).sh.n),x,.v (.bool (sG 1 5).sh.d),y,Cs ⟨#[103]⟩,Ci 2,.v (.bool (sG 2 1).sh.n),u,.v (.bool (sG 2 1).sh.d),v])) (h1:CZ 1 RW z x (sG 1 5).sh.nm) (h2:CZ 1 RW z y (sG 1 5).sh.dm) (h3:CZ 1 RW z u (sG 2 1).sh.nm) (h4:CZ 1 RW z v (sG 2 1).sh.dm):SZ 6 RSale z (.c (.sl b 0 2 6)) [sG 1 5,sG 2 1]:=
 CL.sz (l:=[sG 1 5,sG 2 1]) (show CL 6 RSale z ([Cs ⟨#[103]⟩,Ci 1,.v (.bool (sG 1 5).sh.n),x,.v (.bool (sG 1 5).sh.d),y]++[Cs ⟨#[103]⟩,Ci 2,.v (.bool (sG 2 1).sh.n),u,.v (.bool (sG 2 1).sh.d),v]) ([sG 1 5]++[sG 2 1]) from (CL.one (a:=sG 1 5) rfl ⟨x,y,rfl,h1,h2⟩).append (CL.one (a:=sG 2 1) rfl ⟨u,v,rfl,h3,h4⟩)) rfl (len1 rfl) h
theorem w_ss0:∀ x,x∈([]:List PSale)→x.sh.nm.length≤3∧x.sh.dm.length≤3:=fun x h=>by cases h
theorem w_sb0:∀ s,s∈([]:List PSale)→partB s.sh=true:=fun x h=>by cases h
theorem w_ss1 {yr u:Int} (h:(Rat.divInt u 5).num.natAbs<4294967296 ^ 3∧((Rat.divInt u 5).den:Int).natAbs<4294967296 ^ 3):∀ x,x∈[sG yr u]→x.sh.nm.length≤3∧x.sh.dm.length≤3:=fun x hx=>by rw [List.mem_singleton.1 hx];exact sg_S h
theorem w_sb1 {yr u:Int} (h:(decide ((0:Rat)≤Rat.divInt u 5) && decide (Rat.divInt u 5≤1))=true):∀ s,s∈[sG yr u]→partB s.sh=true:=fun x hx=>by rw [List.mem_singleton.1 hx];exact sg_B h
theorem w_ss2:∀ x,x∈[sG 1 5,sG 2 1]→x.sh.nm.length≤3∧x.sh.dm.length≤3:=fun x h=>by
 simp only [List.mem_cons,List.not_mem_nil,or_false] at h
 rcases h with rfl | rfl
 ·exact sg_S (by decide +kernel)
 exact sg_S (by decide +kernel)
theorem w_sb2:∀ s,s∈[sG 1 5,sG 2 1]→partB s.sh=true:=fun x h=>by
 simp only [List.mem_cons,List.not_mem_nil,or_false] at h
 rcases h with rfl | rfl
 ·exact sg_B (by decide +kernel)
 exact sg_B (by decide +kernel)
theorem c_law22_works {k:Nat} (hk:17≤k) {z:Mem}  : FC (E k) 25 [] z fun u _=>u=bool_ true:=by
 refine fc_of (tS_get25) (by omega) (len1 rfl) fun B j hj=>?_
 refine R4 8 O ?_
 refine fl_bslice (cs:=[Cb true,Cb true]) rfl fun b12=>?_
 refine fl_frzZ z (p:=[]) rfl rfl rfl (fun _ h=>h) fun zff12 hzff12 f12=>?_
 refine fl_bslice (cs:=[Cb true,Cb true]) rfl fun b13=>?_
 refine fl_frzZ zff12 (p:=[]) rfl rfl rfl (fun _ h=>h) fun zff13 hzff13 f13=>?_
 refine fl_bslice (cs:=[Cb true,Cb false]) rfl fun b14=>?_
 refine fl_frzZ zff13 (p:=[]) rfl rfl rfl (fun _ h=>h) fun zff14 hzff14 f14=>?_
 refine fl_bslice (cs:=[.sl b12 0 2 1,.sl b13 0 2 1,.sl b14 0 2 1]) rfl fun b15=>?_
 refine fl_frzZ zff14 (p:=[]) rfl rfl rfl (fun _ h=>h) fun zff15 hzff15 f15=>?_
 refine R2 4 O ?_
 refine lZ zff15 (c_law22_good (id:=⟨#[103]⟩) (yr:=0) (m:=30) (u:=2) (by omega) (by decide) (by decide) (by decide) (by decide)) rfl rfl fun v16 z16 hz16 ⟨cs16,hv16,u0,u1,u2,u3,hcs,g0,g1,g2,g3⟩=>?_
 subst hv16 hcs
 refine fl_bslice (cs:=[Cs ⟨#[103]⟩,Ci 0,Ci 1,Ci 0,Cb gd0.mg.n,u0,Cb gd0.mg.d,u1,Cb gd0.us.n,u2,Cb gd0.us.d,u3]) rfl fun b17=>?_
 refine fl_frzZ z16 (p:=[]) rfl rfl rfl (fun _ h=>h) fun zff17 hzff17 f17=>?_
 refine R2 68 O ?_
 refine lZ zff17 (c_profit_Run (ms:=ms3) (goods:=[gd0]) (sales:=[]) (pi:=0) (by omega) (ms3_sz (zI _ _ f12) (zI _ _ f13) (zI _ _ f14) (zI _ _ f15)) (CL.sz (R:=RGood) (l:=[gd0]) (CL.one (a:=gd0) rfl ⟨_,_,_,_,rfl,g0.m,g1.m,g2.m,g3.m⟩) rfl (len1 rfl) f17) .nil (by decide) (by decide) (by decide) (w_ms.2 trivial).gs (by decide) (w_ss0)) rfl rfl fun v21 z21 hz21 ⟨_,_,hok⟩=>?_
 obtain ⟨cR21,cI21,hv,hr21,hi21,_,_⟩:=hok (w_R w_sb0) w_S0
 subst hv
 refine R1 9 O ?_
 refine fl_al2 fun b4=>?_
 refine fl_st2 rfl rfl rep0 ?_
 refine R2 17 O ?_
 refine lZ z21 (c_law22_sale (id:=⟨#[103]⟩) (yr:=1) (u:=1) (by omega) (by decide) (by decide)) rfl rfl fun v27 z27 hz27 ⟨cs27,hv27,s27x,s27y,hcs,s27a,s27b⟩=>?_
 subst hv27 hcs
 refine fl_bslice (cs:=[Cs ⟨#[103]⟩,Ci 1,.v (.bool (sG 1 1).sh.n),s27x,.v (.bool (sG 1 1).sh.d),s27y]) rfl fun b28=>?_
 refine fl_frzZ z27 (p:=[]) rfl rfl rfl (fun _ h=>h) fun zff28 hzff28 f28=>?_
 refine lZ zff28 (c_profit_Run (ms:=ms3) (goods:=[gd0]) (sales:=[sG 1 1]) (pi:=0) (by omega) (ms3_sz (zI _ _ f12) (zI _ _ f13) (zI _ _ f14) (zI _ _ f15)) (CL.sz (R:=RGood) (l:=[gd0]) (CL.one (a:=gd0) rfl ⟨_,_,_,_,rfl,g0.m,g1.m,g2.m,g3.m⟩) rfl (len1 rfl) (zI _ _ f17)) (CL.sz (R:=RSale) (l:=[sG 1 1]) (CL.one (a:=sG 1 1) rfl ⟨_,_,rfl,s27a.m,s27b.m⟩) rfl (len1 rfl) f28) (by decide) (by decide) (by decide) (w_ms.2 trivial).gs (by decide) (w_ss1 (by decide +kernel))) rfl rfl fun v29 z29 hz29 ⟨_,_,hok⟩=>?_
 obtain ⟨cR29,cI29,hv,hr29,hi29,_,_⟩:=hok (w_R (w_sb1 (by decide +kernel))) w_S1
 subst hv
 refine R1 9 O ?_
 refine fl_al2 fun b6=>?_
 refine fl_st2 rfl rfl rep0 ?_
 refine R2 17 O ?_
 refine lZ z29 (c_law22_sale (id:=⟨#[103]⟩) (yr:=0) (u:=1) (by omega) (by decide) (by decide)) rfl rfl fun v35 z35 hz35 ⟨cs35,hv35,s35x,s35y,hcs,s35a,s35b⟩=>?_
 subst hv35 hcs
 refine fl_bslice (cs:=[Cs ⟨#[103]⟩,Ci 0,.v (.bool (sG 0 1).sh.n),s35x,.v (.bool (sG 0 1).sh.d),s35y]) rfl fun b36=>?_
 refine fl_frzZ z35 (p:=[]) rfl rfl rfl (fun _ h=>h) fun zff36 hzff36 f36=>?_
 refine lZ zff36 (c_profit_Run (ms:=ms3) (goods:=[gd0]) (sales:=[sG 0 1]) (pi:=0) (by omega) (ms3_sz (zI _ _ f12) (zI _ _ f13) (zI _ _ f14) (zI _ _ f15)) (CL.sz (R:=RGood) (l:=[gd0]) (CL.one (a:=gd0) rfl ⟨_,_,_,_,rfl,g0.m,g1.m,g2.m,g3.m⟩) rfl (len1 rfl) (zI _ _ f17)) (CL.sz (R:=RSale) (l:=[sG 0 1]) (CL.one (a:=sG 0 1) rfl ⟨_,_,rfl,s35a.m,s35b.m⟩) rfl (len1 rfl) f36) (by decide) (by decide) (by decide) (w_ms.2 trivial).gs (by decide) (w_ss1 (by decide +kernel))) rfl rfl fun v37 z37 hz37 ⟨_,hno,_⟩=>?_
 have hv:=hno (w_R (w_sb1 (by decide +kernel))) w_S2
 subst hv
 refine R1 9 O ?_
 refine fl_al2 fun b8=>?_
 refine fl_st2 rfl rfl rep0 ?_
 refine R2 17 O ?_
 refine lZ z37 (c_law22_sale (id:=⟨#[103]⟩) (yr:=1) (u:=5) (by omega) (by decide) (by decide)) rfl rfl fun v43 z43 hz43 ⟨cs43,hv43,s43x,s43y,hcs,s43a,s43b⟩=>?_
 subst hv43 hcs
 refine lZ z43 (c_law22_sale (id:=⟨#[103]⟩) (yr:=2) (u:=1) (by omega) (by decide) (by decide)) rfl rfl fun v44 z44 hz44 ⟨cs44,hv44,s44x,s44y,hcs,s44a,s44b⟩=>?_
 subst hv44 hcs
 refine fl_bslice (cs:=[Cs ⟨#[103]⟩,Ci 1,.v (.bool (sG 1 5).sh.n),s43x,.v (.bool (sG 1 5).sh.d),s43y,Cs ⟨#[103]⟩,Ci 2,.v (.bool (sG 2 1).sh.n),s44x,.v (.bool (sG 2 1).sh.d),s44y]) rfl fun b45=>?_
 refine fl_frzZ z44 (p:=[]) rfl rfl rfl (fun _ h=>h) fun zff45 hzff45 f45=>?_
 refine lZ zff45 (c_profit_Run (ms:=ms3) (goods:=[gd0]) (sales:=[sG 1 5,sG 2 1]) (pi:=0) (by omega) (ms3_sz (zI _ _ f12) (zI _ _ f13) (zI _ _ f14) (zI _ _ f15)) (CL.sz (R:=RGood) (l:=[gd0]) (CL.one (a:=gd0) rfl ⟨_,_,_,_,rfl,g0.m,g1.m,g2.m,g3.m⟩) rfl (len1 rfl) (zI _ _ f17)) (sl2_sz f45 s43a.m s43b.m s44a.m s44b.m) (by decide) (by decide) (by decide) (w_ms.2 trivial).gs (by decide) (w_ss2)) rfl rfl fun v46 z46 hz46 ⟨_,hno,_⟩=>?_
 have hv:=hno (w_R w_sb2) w_S3
 subst hv
 refine R1 9 O ?_
 refine fl_al2 fun b10=>?_
 refine fl_st2 rfl rfl rep0 ?_
 refine R2 25 O ?_
 refine lB rfl rfl (b_neF (rfl)) ?_
 refine R1 6 O ?_
 refine lD rfl ?_
 refine lB rfl rfl (b_neF (rfl)) ?_
 refine R1 14 O ?_
 refine lD rfl ?_
 refine lB rfl rfl (b_neF (rfl)) ?_
 refine R1 14 O ?_
 refine lD rfl ?_
 refine lB rfl rfl (b_neF (rfl)) ?_
 refine R1 10 O ?_
 refine lD rfl ?_
 refine fl_ld1 rfl Y3 rfl ?_
 refine lD rfl ?_
 refine fl_lenS rfl hr21 ?_
 refine lD rfl ?_
 refine lB rfl rfl (b_neF (by rw [rowsK_len];rfl)) ?_
 refine R1 10 O ?_
 refine lD rfl ?_
 refine fl_ld1 rfl Y2 rfl ?_
 refine lD rfl ?_
 refine fl_lenS rfl hr29 ?_
 refine lD rfl ?_
 refine lB rfl rfl (b_neF (by rw [rowsK_len];rfl)) ?_
 refine R1 10 O ?_
 refine lD rfl ?_
 refine fl_ld1 rfl Y3 rfl ?_
 refine lD rfl ?_
 refine fl_iadS (zz:=z46) rfl rfl hr21.m 2 rfl _ (rowsK_get (by decide)) fun b78 p78 cs at78 hR=>?_
 have hx:=row_ok hR (by decide)
 obtain ⟨t78,r78,e78,f78,hcs,qt78,qr78,qe78,qf78⟩:=hx
 subst hcs
 refine lD rfl ?_
 refine lF rfl ?_
 refine lD rfl ?_
 refine fl_ldA (off:=1) rfl at78 rfl (by simp) rfl ?_
 refine lD rfl ?_
 refine fl_lenS rfl qr78 ?_
 refine lD rfl ?_
 refine lB rfl rfl (b_neF (by rw [rowE_len];rfl)) ?_
 refine R1 10 O ?_
 refine lD rfl ?_
 refine fl_ld1 rfl Y3 rfl ?_
 refine lD rfl ?_
 refine fl_iadS (zz:=z46) rfl rfl hr21.m 0 rfl _ (rowsK_get (by decide)) fun b87 p87 cs at87 hR=>?_
 have hx:=row_ok hR (by decide)
 obtain ⟨t87,r87,e87,f87,hcs,qt87,qr87,qe87,qf87⟩:=hx
 subst hcs
 refine lD rfl ?_
 refine lF rfl ?_
 refine lD rfl ?_
 refine fl_ldA (off:=0) rfl at87 rfl (by simp) rfl ?_
 refine lD rfl ?_
 refine fl_lenS rfl qt87 ?_
 refine lD rfl ?_
 refine lB rfl rfl (b_neF (by rw [rowE_len];rfl)) ?_
 refine R1 10 O ?_
 refine lD rfl ?_
 refine fl_ld1 rfl Y2 rfl ?_
 refine lD rfl ?_
 refine fl_iadS (zz:=z46) rfl rfl hr29.m 1 rfl _ (rowsK_get (by decide)) fun b96 p96 cs at96 hR=>?_
 have hx:=row_ok hR (by decide)
 obtain ⟨t96,r96,e96,f96,hcs,qt96,qr96,qe96,qf96⟩:=hx
 subst hcs
 refine lD rfl ?_
 refine lF rfl ?_
 refine lD rfl ?_
 refine fl_ldA (off:=1) rfl at96 rfl (by simp) rfl ?_
 refine lD rfl ?_
 refine fl_lenS rfl qr96 ?_
 refine lD rfl ?_
 refine lB rfl rfl (b_neF (by rw [rowE_len];rfl)) ?_
 refine R1 10 O ?_
 refine lD rfl ?_
 refine fl_ld1 rfl Y2 rfl ?_
 refine lD rfl ?_
 refine fl_iadS (zz:=z46) rfl rfl hr29.m 2 rfl _ (rowsK_get (by decide)) fun b105 p105 cs at105 hR=>?_
 have hx:=row_ok hR (by decide)
 obtain ⟨t105,r105,e105,f105,hcs,qt105,qr105,qe105,qf105⟩:=hx
 subst hcs
 refine lD rfl ?_
 refine lF rfl ?_
 refine lD rfl ?_
 refine fl_ldA (off:=1) rfl at105 rfl (by simp) rfl ?_
 refine lD rfl ?_
 refine fl_lenS rfl qr105 ?_
 refine lD rfl ?_
 refine lB rfl rfl (b_neF (by rw [rowE_len];rfl)) ?_
 refine R3 16 O ?_
 refine fx_drwS ?_
 refine G1 2 O ?_
 refine gl1 O O (.inr Y3) O ?_
 refine gP rfl rfl trivial ?_
 refine fl_iadS rfl rfl hr21 0 rfl _ (rowsK_get (by decide)) fun b113 p113 cs at113 hR=>lN ?_
 have hx:=row_ok hR (by decide)
 obtain ⟨t113,r113,e113,f113,hcs,qt113,qr113,qe113,qf113⟩:=hx
 subst hcs
 refine G1 2 O ?_
 refine fg_ldA (i:=⟨_,_,.load _ _ _⟩) (off:=0) rfl rfl trivial rfl at113 ti rfl (by simp) rfl sR ?_
 refine gP rfl rfl trivial ?_
 refine fl_iadS rfl rfl qt113 1 rfl _ (rowE_get (by decide)) fun b116 p116 cs at116 hR=>lN ?_
 obtain ⟨x116,y116,hcs,qx116,qy116⟩:=hR
 subst hcs
 refine fg_ldA (i:=⟨_,_,.load _ _ _⟩) (off:=0) rfl rfl trivial rfl at116 ti rfl (by simp) rfl sR ?_
 refine G1 3 O ?_
 refine fg_callvZ z46 (i:=⟨_,_,.callv _ _⟩) rfl (c_fil_By (n:=15) (d:=1) (by omega) (by decide) (by decide) (by decide) (by decide) (by decide)) rfl rfl trivial rfl rfl rfl rfl fun v119 z119 hz119 hv119=>?_
 have hv119:=qv_op hv119
 obtain ⟨c119,d119,hv,hm119,hn119⟩:=hv119
 subst hv
 have hm119:=hm119.mono (zAq (hzff12.trans (hzff13.trans (hzff14.trans (hzff15.trans (hz16.trans (hzff17.trans (hz21.trans (hz27.trans (hzff28.trans (hz29.trans (hz35.trans (hzff36.trans (hz37.trans (hz43.trans (hz44.trans (hzff45.trans hz46)))))))))))))))))
 have hn119:=hn119.mono (zAq (hzff12.trans (hzff13.trans (hzff14.trans (hzff15.trans (hz16.trans (hzff17.trans (hz21.trans (hz27.trans (hzff28.trans (hz29.trans (hz35.trans (hzff36.trans (hz37.trans (hz43.trans (hz44.trans (hzff45.trans hz46)))))))))))))))))
 refine gC z119 (c_rat_Cmp (by omega) qx116.m qy116.m (lq_z (w_a) (by decide)).1 (lq_z (w_a) (by decide)).2 (hm119.mono zd_le) (hn119.mono zd_le) (lq_z (v:=15) (by decide +kernel) (by decide)).1 (lq_z (v:=15) (by decide +kernel) (by decide)).2) O O O O fun v120 z120 hz120 hv120=>?_
 simp only [valR_c] at hv120
 subst hv120
 refine gP rfl rfl trivial ?_
 refine lB rfl rfl (b_eqT (sg_eq ((w_a).trans (show ((15:Int):Rat)=Rat.divInt 15 1 by decide +kernel)))) (lN ?_)
 refine G1 4 O ?_
 refine gl1 O O (.inr Y3) O ?_
 refine gP rfl rfl rfl ?_
 refine fl_iadS rfl rfl hr21 1 rfl _ (rowsK_get (by decide)) fun b125 p125 cs at125 hR=>lN ?_
 have hx:=row_ok hR (by decide)
 obtain ⟨t125,r125,e125,f125,hcs,qt125,qr125,qe125,qf125⟩:=hx
 subst hcs
 refine G1 2 O ?_
 refine fg_ldA (i:=⟨_,_,.load _ _ _⟩) (off:=2) rfl rfl rfl rfl at125 ti rfl (by simp) rfl sR ?_
 refine G1 3 O ?_
 refine fg_callvZ z120 (i:=⟨_,_,.callv _ _⟩) rfl (c_fil_By (n:=15) (d:=1) (by omega) (by decide) (by decide) (by decide) (by decide) (by decide)) rfl rfl rfl rfl rfl rfl rfl fun v129 z129 hz129 hv129=>?_
 have hv129:=qv_op hv129
 obtain ⟨c129,d129,hv,hm129,hn129⟩:=hv129
 subst hv
 have hm129:=hm129.mono (zAq (hzff12.trans (hzff13.trans (hzff14.trans (hzff15.trans (hz16.trans (hzff17.trans (hz21.trans (hz27.trans (hzff28.trans (hz29.trans (hz35.trans (hzff36.trans (hz37.trans (hz43.trans (hz44.trans (hzff45.trans (hz46.trans (hz119.trans hz120)))))))))))))))))))
 have hn129:=hn129.mono (zAq (hzff12.trans (hzff13.trans (hzff14.trans (hzff15.trans (hz16.trans (hzff17.trans (hz21.trans (hz27.trans (hzff28.trans (hz29.trans (hz35.trans (hzff36.trans (hz37.trans (hz43.trans (hz44.trans (hzff45.trans (hz46.trans (hz119.trans hz120)))))))))))))))))))
 refine gC z129 (c_rat_Cmp (by omega) qe125.m qf125.m (lq_z (w_b) (by decide)).1 (lq_z (w_b) (by decide)).2 (hm129.mono zd_le) (hn129.mono zd_le) (lq_z (v:=15) (by decide +kernel) (by decide)).1 (lq_z (v:=15) (by decide +kernel) (by decide)).2) O O O O fun v130 z130 hz130 hv130=>?_
 simp only [valR_c] at hv130
 subst hv130
 refine gP rfl rfl rfl ?_
 refine lB rfl rfl (b_eqT (sg_eq ((w_b).trans (show ((15:Int):Rat)=Rat.divInt 15 1 by decide +kernel)))) (lN ?_)
 refine G1 10 O ?_
 refine gl1 O O (.inr Y3) O ?_
 refine gP rfl rfl rfl ?_
 refine fl_iadS rfl rfl hr21 2 rfl _ (rowsK_get (by decide)) fun b136 p136 cs at136 hR=>lN ?_
 have hx:=row_ok hR (by decide)
 obtain ⟨t136,r136,e136,f136,hcs,qt136,qr136,qe136,qf136⟩:=hx
 subst hcs
 refine G1 2 O ?_
 refine fg_ldA (i:=⟨_,_,.load _ _ _⟩) (off:=1) rfl rfl rfl rfl at136 ti rfl (by simp) rfl sR ?_
 refine gP rfl rfl rfl ?_
 refine fl_iadS rfl rfl qr136 0 rfl _ (rowE_get (by decide)) fun b139 p139 cs at139 hR=>lN ?_
 obtain ⟨x139,y139,hcs,qx139,qy139⟩:=hR
 subst hcs
 refine fg_ldA (i:=⟨_,_,.load _ _ _⟩) (off:=0) rfl rfl rfl rfl at139 ti rfl (by simp) rfl sR ?_
 refine G1 3 O ?_
 refine fg_callvZ z130 (i:=⟨_,_,.callv _ _⟩) rfl (c_fil_By (n:=15) (d:=1) (by omega) (by decide) (by decide) (by decide) (by decide) (by decide)) rfl rfl rfl rfl rfl rfl rfl fun v142 z142 hz142 hv142=>?_
 have hv142:=qv_op hv142
 obtain ⟨c142,d142,hv,hm142,hn142⟩:=hv142
 subst hv
 have hm142:=hm142.mono (zAq (hzff12.trans (hzff13.trans (hzff14.trans (hzff15.trans (hz16.trans (hzff17.trans (hz21.trans (hz27.trans (hzff28.trans (hz29.trans (hz35.trans (hzff36.trans (hz37.trans (hz43.trans (hz44.trans (hzff45.trans (hz46.trans (hz119.trans (hz120.trans (hz129.trans hz130)))))))))))))))))))))
 have hn142:=hn142.mono (zAq (hzff12.trans (hzff13.trans (hzff14.trans (hzff15.trans (hz16.trans (hzff17.trans (hz21.trans (hz27.trans (hzff28.trans (hz29.trans (hz35.trans (hzff36.trans (hz37.trans (hz43.trans (hz44.trans (hzff45.trans (hz46.trans (hz119.trans (hz120.trans (hz129.trans hz130)))))))))))))))))))))
 refine gC z142 (c_rat_Cmp (by omega) qx139.m qy139.m (lq_z (w_c) (by decide)).1 (lq_z (w_c) (by decide)).2 (hm142.mono zd_le) (hn142.mono zd_le) (lq_z (v:=15) (by decide +kernel) (by decide)).1 (lq_z (v:=15) (by decide +kernel) (by decide)).2) O O O O fun v143 z143 hz143 hv143=>?_
 simp only [valR_c] at hv143
 subst hv143
 refine gP rfl rfl rfl ?_
 refine lB rfl rfl (b_eqT (sg_eq ((w_c).trans (show ((15:Int):Rat)=Rat.divInt 15 1 by decide +kernel)))) (lN ?_)
 refine G1 10 O ?_
 refine gl1 O O (.inr Y3) O ?_
 refine gP rfl rfl rfl ?_
 refine fl_iadS rfl rfl hr21 2 rfl _ (rowsK_get (by decide)) fun b149 p149 cs at149 hR=>lN ?_
 have hx:=row_ok hR (by decide)
 obtain ⟨t149,r149,e149,f149,hcs,qt149,qr149,qe149,qf149⟩:=hx
 subst hcs
 refine G1 2 O ?_
 refine fg_ldA (i:=⟨_,_,.load _ _ _⟩) (off:=2) rfl rfl rfl rfl at149 ti rfl (by simp) rfl sR ?_
 refine gC z143 (c_rat_Sign (by omega) qe149.m qf149.m (Nat.le_trans (lq_z (v:=0) w_e (by decide)).1 (by decide)) (Nat.le_trans (lq_z (v:=0) w_e (by decide)).2 (by decide))) O O O O fun v152 z152 hz152 hv152=>?_
 simp only [valR_c] at hv152
 subst hv152
 refine gP rfl rfl rfl ?_
 refine lB rfl rfl (b_eqT (congrArg (fun q:Rat=>q.num.sign) w_e)) (lN ?_)
 refine G1 10 O ?_
 refine gl1 O O (.inr Y2) O ?_
 refine gP rfl rfl rfl ?_
 refine fl_iadS rfl rfl hr29 1 rfl _ (rowsK_get (by decide)) fun b158 p158 cs at158 hR=>lN ?_
 have hx:=row_ok hR (by decide)
 obtain ⟨t158,r158,e158,f158,hcs,qt158,qr158,qe158,qf158⟩:=hx
 subst hcs
 refine G1 2 O ?_
 refine fg_ldA (i:=⟨_,_,.load _ _ _⟩) (off:=1) rfl rfl rfl rfl at158 ti rfl (by simp) rfl sR ?_
 refine gP rfl rfl rfl ?_
 refine fl_iadS rfl rfl qr158 1 rfl _ (rowE_get (by decide)) fun b161 p161 cs at161 hR=>lN ?_
 obtain ⟨x161,y161,hcs,qx161,qy161⟩:=hR
 subst hcs
 refine fg_ldA (i:=⟨_,_,.load _ _ _⟩) (off:=0) rfl rfl rfl rfl at161 ti rfl (by simp) rfl sR ?_
 refine G1 3 O ?_
 refine fg_callvZ z152 (i:=⟨_,_,.callv _ _⟩) rfl (c_fil_By (n:=3) (d:=1) (by omega) (by decide) (by decide) (by decide) (by decide) (by decide)) rfl rfl rfl rfl rfl rfl rfl fun v164 z164 hz164 hv164=>?_
 have hv164:=qv_op hv164
 obtain ⟨c164,d164,hv,hm164,hn164⟩:=hv164
 subst hv
 have hm164:=hm164.mono (zAq (hzff12.trans (hzff13.trans (hzff14.trans (hzff15.trans (hz16.trans (hzff17.trans (hz21.trans (hz27.trans (hzff28.trans (hz29.trans (hz35.trans (hzff36.trans (hz37.trans (hz43.trans (hz44.trans (hzff45.trans (hz46.trans (hz119.trans (hz120.trans (hz129.trans (hz130.trans (hz142.trans (hz143.trans hz152))))))))))))))))))))))))
 have hn164:=hn164.mono (zAq (hzff12.trans (hzff13.trans (hzff14.trans (hzff15.trans (hz16.trans (hzff17.trans (hz21.trans (hz27.trans (hzff28.trans (hz29.trans (hz35.trans (hzff36.trans (hz37.trans (hz43.trans (hz44.trans (hzff45.trans (hz46.trans (hz119.trans (hz120.trans (hz129.trans (hz130.trans (hz142.trans (hz143.trans hz152))))))))))))))))))))))))
 refine gC z164 (c_rat_Cmp (by omega) qx161.m qy161.m (lq_z (w_f) (by decide)).1 (lq_z (w_f) (by decide)).2 (hm164.mono zd_le) (hn164.mono zd_le) (lq_z (v:=3) (by decide +kernel) (by decide)).1 (lq_z (v:=3) (by decide +kernel) (by decide)).2) O O O O fun v165 z165 hz165 hv165=>?_
 simp only [valR_c] at hv165
 subst hv165
 refine gP rfl rfl rfl ?_
 refine lB rfl rfl (b_eqT (sg_eq ((w_f).trans (show ((3:Int):Rat)=Rat.divInt 3 1 by decide +kernel)))) (lN ?_)
 refine G1 10 O ?_
 refine gl1 O O (.inr Y2) O ?_
 refine gP rfl rfl rfl ?_
 refine fl_iadS rfl rfl hr29 2 rfl _ (rowsK_get (by decide)) fun b171 p171 cs at171 hR=>lN ?_
 have hx:=row_ok hR (by decide)
 obtain ⟨t171,r171,e171,f171,hcs,qt171,qr171,qe171,qf171⟩:=hx
 subst hcs
 refine G1 2 O ?_
 refine fg_ldA (i:=⟨_,_,.load _ _ _⟩) (off:=1) rfl rfl rfl rfl at171 ti rfl (by simp) rfl sR ?_
 refine gP rfl rfl rfl ?_
 refine fl_iadS rfl rfl qr171 0 rfl _ (rowE_get (by decide)) fun b174 p174 cs at174 hR=>lN ?_
 obtain ⟨x174,y174,hcs,qx174,qy174⟩:=hR
 subst hcs
 refine fg_ldA (i:=⟨_,_,.load _ _ _⟩) (off:=0) rfl rfl rfl rfl at174 ti rfl (by simp) rfl sR ?_
 refine G1 3 O ?_
 refine fg_callvZ z165 (i:=⟨_,_,.callv _ _⟩) rfl (c_fil_By (n:=12) (d:=1) (by omega) (by decide) (by decide) (by decide) (by decide) (by decide)) rfl rfl rfl rfl rfl rfl rfl fun v177 z177 _ hv177=>?_
 have hv177:=qv_op hv177
 obtain ⟨c177,d177,hv,hm177,hn177⟩:=hv177
 subst hv
 have hm177:=hm177.mono (zAq (hzff12.trans (hzff13.trans (hzff14.trans (hzff15.trans (hz16.trans (hzff17.trans (hz21.trans (hz27.trans (hzff28.trans (hz29.trans (hz35.trans (hzff36.trans (hz37.trans (hz43.trans (hz44.trans (hzff45.trans (hz46.trans (hz119.trans (hz120.trans (hz129.trans (hz130.trans (hz142.trans (hz143.trans (hz152.trans (hz164.trans hz165))))))))))))))))))))))))))
 have hn177:=hn177.mono (zAq (hzff12.trans (hzff13.trans (hzff14.trans (hzff15.trans (hz16.trans (hzff17.trans (hz21.trans (hz27.trans (hzff28.trans (hz29.trans (hz35.trans (hzff36.trans (hz37.trans (hz43.trans (hz44.trans (hzff45.trans (hz46.trans (hz119.trans (hz120.trans (hz129.trans (hz130.trans (hz142.trans (hz143.trans (hz152.trans (hz164.trans hz165))))))))))))))))))))))))))
 refine gC z177 (c_rat_Cmp (by omega) qx174.m qy174.m (lq_z (w_h) (by decide)).1 (lq_z (w_h) (by decide)).2 (hm177.mono zd_le) (hn177.mono zd_le) (lq_z (v:=12) (by decide +kernel) (by decide)).1 (lq_z (v:=12) (by decide +kernel) (by decide)).2) O O O O fun v178 z178 _ hv178=>?_
 simp only [valR_c] at hv178
 subst hv178
 refine gP rfl rfl rfl ?_
 refine lB rfl rfl (b_eqT (sg_eq ((w_h).trans (show ((12:Int):Rat)=Rat.divInt 12 1 by decide +kernel)))) (lN ?_)
 refine G0 6 O ?_
 refine xT ?_
 refine rI O ?_
 rfl
open Go.CE Go.RowKit Go.Num
theorem foldS_lq {g:PGood} {D:Rat} {y:Nat} (hD:LQ 8 D):∀ {l:List PSale} {s:GSt} {w:Nat},(∀ x,x∈l→x.sh.nm.length≤3∧x.sh.dm.length≤3)→LQ w s.left→LQ w s.sold→LQ (w+13 * l.length) (l.foldl (stepS g D y) s).left∧LQ (w+13 * l.length) (l.foldl (stepS g D y) s).sold∧(l.foldl (stepS g D y) s).lft=s.lft
 | [],s,w,_,h1,h2=>⟨h1,h2,rfl⟩
 | x::l,s,w,hs,h1,h2=>by
  obtain ⟨e1,e2⟩:=hs x (List.mem_cons_self ..)
  have hN:LQ 12 (D * rv x.sh):=hD.mul (lq_rv e1 e2)
  have key:LQ (w+13) (stepS g D y s x).left∧LQ (w+13) (stepS g D y s x).sold∧(stepS g D y s x).lft=s.lft:=by
   rw [stepS]
   split
   ·exact ⟨h1.sub hN,h2.add hN,rfl⟩
   exact ⟨h1.mono (by omega),h2.mono (by omega),rfl⟩
  obtain ⟨i1,i2,i3⟩:=foldS_lq (l:=l) hD (fun x hx=>hs x (List.mem_cons_of_mem _ hx)) key.1 key.2.1
  rw [List.foldl_cons,List.length_cons]
  exact ⟨i1.mono (by omega),i2.mono (by omega),i3.trans key.2.2⟩
theorem foldY_lq {ms:List (List Bool)} {pa:Nat} {g:PGood} {D:Rat} {ss:List PSale} (hD:LQ 8 D) (hs:∀ x,x∈ss→x.sh.nm.length≤3∧x.sh.dm.length≤3) (hl:ss.length≤12):∀ {L:List Nat} {s:GSt} {w:Nat},1≤w→LQ w s.left→LQ w s.sold→LQ w s.lft →
  LQ (w+160 * L.length) (L.foldl (stepY ms pa g ss D) s).left∧LQ (w+160 * L.length) (L.foldl (stepY ms pa g ss D) s).sold∧LQ (w+160 * L.length) (L.foldl (stepY ms pa g ss D) s).lft
 | [],s,w,_,h1,h2,h3=>⟨h1,h2,h3⟩
 | y::L,s,w,hw,h1,h2,h3=>by
  have key:LQ (w+160) (stepY ms pa g ss D s y).left∧LQ (w+160) (stepY ms pa g ss D s y).sold∧LQ (w+160) (stepY ms pa g ss D s y).lft:=by
   rw [stepY]
   split
   ·obtain ⟨i1,i2,i3⟩:=foldS_lq (g:=g) (y:=y) (l:=ss) hD hs h1 h2
    exact ⟨i1.mono (by omega),i2.mono (by omega),by rw [i3];exact h3.mono (by omega)⟩
   exact ⟨lq_zero.mono (by omega),h2.mono (by omega),h1.mono (by omega)⟩
  obtain ⟨i1,i2,i3⟩:=foldY_lq (L:=L) hD hs hl (w:=w+160) (by omega) key.1 key.2.1 key.2.2
  rw [List.foldl_cons,List.length_cons]
  exact ⟨i1.mono (by omega),i2.mono (by omega),i3.mono (by omega)⟩
theorem good_lq {ms:List (List Bool)} {pa:Nat} {g:PGood} {goods:List PGood} {sales:List PSale} (hS:SmallP ms goods sales) (hg:g∈goods):LQ 8 (dfr ms g)∧LQ 1288 (goodR ms pa sales g).left∧LQ 1288 (goodR ms pa sales g).sold∧LQ 1288 (goodR ms pa sales g).lft:=by
 obtain ⟨h1,h2,h3,h4⟩:=hS.gs g hg
 have hD:LQ 8 (dfr ms g):=dfr_l h1 h2 h3 h4
 have hl:=yrs_len ms g (ms.length - (g.yr.toNat+1)) (g.yr.toNat+1)
 have hm:=hS.m
 obtain ⟨i1,i2,i3⟩:=foldY_lq (ms:=ms) (pa:=pa) (g:=g) (ss:=salesOf sales g.id) hD (fun x hx=>hS.ss x (sO_sub hx)) (Nat.le_trans (List.length_filter_le _ _) hS.s) (L:=yrs ms g (ms.length - (g.yr.toNat+1)) (g.yr.toNat+1)) (s:=⟨dfr ms g,0,0,[]⟩) (w:=8) (by decide) hD (lq_zero.mono (by decide)) (lq_zero.mono (by decide))
 exact ⟨hD,i1.mono (by omega),i2.mono (by omega),i3.mono (by omega)⟩
theorem run_u {k:Nat} (hk:16≤k) {z:Mem} {cM:C} {pi:Int} {gv sv:AV} {ms:List (List Bool)} {goods:List PGood} {sales:List PSale} (hm:CZ 1 (RC 1 (RE Value.bool)) z cM ms) (hG:SZ 12 RGood z gv goods) (hS:SZ 6 RSale z sv sales) (h:SmallP ms goods sales):FC (E k) 29 [.c cM,Ai pi,gv,sv] z fun u z'=>∃ (e:Int) (cR cI:C),u=.tup [.agg [cR,cI],Ai e]∧(¬ e=0→cR=Cz∧cI=Cz)∧(e=0↔RightG ms pi goods sales∧SoldG ms goods sales)∧(e=0→CZ 6 RLRow z' cR (rowsK (takenL ms goods) (relL ms pi.toNat goods sales) ms.length (entsN ms) ms.length)∧CZ 17 RItem z' cI (goods.map (itemOf ms pi.toNat sales))∧(∀ y e,LQ 73 (atE (takenL ms goods) y e))∧(∀ y e,LQ 96001 (atE (relL ms pi.toNat goods sales) y e)))∧(¬ e=0→(RightG ms pi goods sales→e=220)∧(¬ RightG ms pi goods sales→e=2)):=FC.mono (c_profit_Run hk hm hG hS h.m h.r h.g h.gs h.s h.ss) fun u z' _ ⟨h1,h2,h3⟩=>by
 by_cases hR:RightG ms pi goods sales
 ·by_cases hS:SoldG ms goods sales
  ·obtain ⟨cR,cI,e,g1,g2,g3,g4⟩:=h3 hR hS
   exact ⟨0,cR,cI,e,fun h=>absurd rfl h,⟨fun _=>⟨hR,hS⟩,fun _=>rfl⟩,fun _=>⟨g1,g2,g3,g4⟩,fun h=>absurd rfl h⟩
  exact ⟨220,_,_,h2 hR hS,fun _=>⟨rfl,rfl⟩,⟨fun h=>absurd h (by decide),fun h=>absurd h.2 hS⟩,fun h=>absurd h (by decide),fun _=>⟨fun _=>rfl,fun h=>absurd hR h⟩⟩
 exact ⟨2,_,_,h1 hR,fun _=>⟨rfl,rfl⟩,⟨fun h=>absurd h (by decide),fun h=>absurd h.1 hR⟩,fun h=>absurd h (by decide),fun _=>⟨fun h=>absurd h hR,fun _=>rfl⟩⟩
open Go.CE Go.RowKit Go.Num
open Go.Eng (setL)
theorem hne {x:Int} (h:(!decide (x=0))=true):¬ x=0:=by simpa using h
theorem heq {x:Int} (h:(!decide (x=0))=false):x=0:=by simpa using h
theorem sum3_sz {z:Mem} {b ty:Nat} {p q r:Rat} {c0 c1 c2 c3 c4 c5:C} (h:z b (.cells ty [Cb (decide (p.num<0)),c0,Cb (decide ((p.den:Int)<0)),c1,Cb (decide (q.num<0)),c2,Cb (decide ((q.den:Int)<0)),c3,Cb (decide (r.num<0)),c4,Cb (decide ((r.den:Int)<0)),c5])) (h0:CZ 1 RW z c0 (toL p.num.natAbs)) (h1:CZ 1 RW z c1 (toL (p.den:Int).natAbs)) (h2:CZ 1 RW z c2 (toL q.num.natAbs)) (h3:CZ 1 RW z c3 (toL (q.den:Int).natAbs)) (h4:CZ 1 RW z c4 (toL r.num.natAbs)) (h5:CZ 1 RW z c5 (toL (r.den:Int).natAbs)):SZ 4 RV z (.c (.sl b 0 3 4)) [p,q,r]:=
 CL.sz (l:=[p,q,r]) (show CL 4 RV z ([Cb (decide (p.num<0)),c0,Cb (decide ((p.den:Int)<0)),c1]++([Cb (decide (q.num<0)),c2,Cb (decide ((q.den:Int)<0)),c3]++[Cb (decide (r.num<0)),c4,Cb (decide ((r.den:Int)<0)),c5])) ([p]++([q]++[r])) from (CL.one rfl ⟨_,_,rfl,h0,h1⟩).append ((CL.one rfl ⟨_,_,rfl,h2,h3⟩).append (CL.one rfl ⟨_,_,rfl,h4,h5⟩))) rfl (len1 rfl) h
theorem item_ok {z:Mem} {cs:List C} {ms:List (List Bool)} {pa:Nat} {sales:List PSale} {g:PGood} (h:RItem z cs (itemOf ms pa sales g)):∃ i0 i1 i2 i3 i4 i5 i6 i7,cs=[Cs g.id,Cb (decide ((dfr ms g).num<0)),i0,Cb (decide (((dfr ms g).den:Int)<0)),i1,Cb (decide ((goodR ms pa sales g).sold.num<0)),i2,Cb (decide (((goodR ms pa sales g).sold.den:Int)<0)),i3,Cb (decide ((goodR ms pa sales g).lft.num<0)),i4,Cb (decide (((goodR ms pa sales g).lft.den:Int)<0)),i5,Cb (decide ((goodR ms pa sales g).left.num<0)),i6,Cb (decide (((goodR ms pa sales g).left.den:Int)<0)),i7]∧CZ 1 RW z i0 (toL (dfr ms g).num.natAbs)∧CZ 1 RW z i1 (toL ((dfr ms g).den:Int).natAbs)∧CZ 1 RW z i2 (toL (goodR ms pa sales g).sold.num.natAbs)∧CZ 1 RW z i3 (toL ((goodR ms pa sales g).sold.den:Int).natAbs)∧CZ 1 RW z i4 (toL (goodR ms pa sales g).lft.num.natAbs)∧CZ 1 RW z i5 (toL ((goodR ms pa sales g).lft.den:Int).natAbs)∧CZ 1 RW z i6 (toL (goodR ms pa sales g).left.num.natAbs)∧CZ 1 RW z i7 (toL ((goodR ms pa sales g).left.den:Int).natAbs):=h
theorem lq3 {w:Nat} {p q r:Rat} (h1:LQ w p) (h2:LQ w q) (h3:LQ w r):∀ x,x∈[p,q,r]→LQ w x:=fun x hx=>by
 simp only [List.mem_cons,List.not_mem_nil,or_false] at hx
 rcases hx with rfl | rfl | rfl
 ·exact h1
 ·exact h2
 exact h3
section
variable {ms:List (List Bool)} {g:PGood} {y:Nat} {b:Bool} {r1:List Bool} {x1 x2:Bool}
abbrev Pt (ms:List (List Bool)) (g:PGood) (y:Nat):Prop:=∃ y',g.yr.toNat≤y'∧y'<y∧bothM ms g y'=false
theorem part_0:false=true↔Pt ms g g.yr.toNat:=⟨fun h=>(by cases h),fun ⟨y',h1,h2,_⟩=>by omega⟩
theorem part_a (hb : b = true ↔ Pt ms g y) (h : b = true) : true = true ↔ Pt ms g (y + 1) := ⟨fun _ => by
  obtain ⟨y',h1,h2,h3⟩:=hb.1 h
  exact ⟨y',h1,by omega,h3⟩,fun _=>rfl⟩
theorem part_y (hb:b=true↔Pt ms g y) (hy:y=ms.length) (h:b=true):∃ y',g.yr.toNat≤y'∧y'<ms.length∧bothM ms g y'=false:=by subst hy;exact hb.1 h
theorem part_n (hb:false=true↔Pt ms g y) (hy:y=ms.length):¬ ∃ y',g.yr.toNat≤y'∧y'<ms.length∧bothM ms g y'=false:=fun h=>by subst hy;cases hb.2 h
theorem part_s (hb:b=true↔Pt ms g y) (h:b=false) (hy:g.yr.toNat≤y):(!bothM ms g y)=true↔Pt ms g (y+1):=by
  constructor
  · intro h1
    exact ⟨y,hy,Nat.lt_succ_self _,nbB h1⟩
  · rintro ⟨y',h1,h2,h3⟩
    rcases Nat.lt_or_ge y' y with hh | hh
    · exact absurd (hb.2 ⟨y',h1,hh,h3⟩) (by rw [h];exact Bool.false_ne_true)
    · have : y' = y := by omega
      subst this
      rw [h3];rfl
theorem bothM_at (h1:ms[y]? = some r1) (h2:r1[g.py.toNat]? = some x1):bothM ms g y=(x1 && mb ms y g.pr.toNat):=by rw [bothM,mb_at h1 h2]
theorem part_b (hb:b=true↔Pt ms g y) (h:b=false) (hy:g.yr.toNat≤y) (h1:ms[y]? = some r1) (h2:r1[g.py.toNat]? = some x1) (h3:(!x1)=true):true=true↔Pt ms g (y+1):=by
 rw [← part_s hb h hy,bothM_at h1 h2,nbB h3];simp
theorem part_c (hb:b=true↔Pt ms g y) (h:b=false) (hy:g.yr.toNat≤y) (h1:ms[y]? = some r1) (h2:r1[g.py.toNat]? = some x1) (h4:r1[g.pr.toNat]? = some x2) (h3:(!x1)=false):(!x2)=true↔Pt ms g (y+1):=by
 rw [← part_s hb h hy,bothM_at h1 h2,nf_t h3,mb_at h1 h4];simp
end
theorem c_law22_ProfitLeaves {k:Nat} (hk:18≤k) {z:Mem} {cM:C} {pi:Int} {gv sv:AV} {ms:List (List Bool)} {goods:List PGood} {sales:List PSale} (hm:CZ 1 (RC 1 (RE Value.bool)) z cM ms) (hG:SZ 12 RGood z gv goods) (hS:SZ 6 RSale z sv sales):FC (E k) 5 [.c cM,Ai pi,gv,sv] z fun u _=>u=bool_ true:=by
 refine fc_of (tS_get5) (by omega) (len1 rfl) fun B j hj=>?_
 refine R4 224 O ?_
 refine lZ z (c_law22_small (by omega) hm hG hS) rfl rfl fun v22 z22 hz22 ⟨w22,hv22,hs22⟩=>?_
 subst hv22
 refine R3 4 O ?_
 refine fx_condB rfl (fun hc23=>?_) (fun hc23=>?_)
 ·refine R4 4 O ?_
  refine lE z22 (c_law22_works (by omega)) O O fun z24 _=>?_
  refine R0 3 O ?_
  refine fx_rseq ?_
  refine rI O ?_
  rfl
 refine R4 112 O ?_
 have hsm:=hs22 (nf_t hc23)
 refine lZ z22 (run_u (by omega) hm.m hG.m hS.m hsm) rfl rfl fun v30 z30 hz30 ⟨e5,cR,cI,hv30,he1,he2,he3,_⟩=>?_
 subst hv30
 refine R1 9 O ?_
 refine fl_al2 fun b9=>?_
 refine fl_st2 rfl rfl rep0 ?_
 refine R3 73 O ?_
 refine fx_condB rfl (fun hc34=>?_) (fun hc34=>?_)
 ·refine R4 4 O ?_
  obtain ⟨rfl,rfl⟩:=he1 (hne hc34)
  refine lF rfl ?_
  refine fl_ld1 rfl mem0 rfl ?_
  refine fl_len rfl rfl ?_
  refine lB rfl rfl (b_eqT rfl) ?_
  refine R1 4 O ?_
  refine lD rfl ?_
  refine fl_ld1 rfl mem0 rfl ?_
  refine lD rfl ?_
  refine fl_len rfl rfl ?_
  refine lD rfl ?_
  refine lB rfl rfl (b_eqT rfl) ?_
  refine R1 6 O ?_
  refine lD rfl ?_
  refine lE z30 (c_law22_works (by omega)) O O fun z46 _=>?_
  refine R0 6 O ?_
  refine fx_rseq ?_
  refine rI O ?_
  rfl
 refine R4 8 O ?_
 have he0:=heq hc34
 obtain ⟨hRG,hSG⟩:=he2.1 he0
 obtain ⟨hrows,hits,hT5,hR5⟩:=he3 he0
 obtain ⟨hpos,hp0,hpe⟩:=ms_pos hRG.p
 have he8:=ents8 hsm.r
 have hml:=hsm.m
 have hgl:=hsm.g
 refine lF rfl ?_
 refine fl_ld1 rfl mem0 rfl ?_
 refine fl_lenS rfl hrows ?_
 refine lC rfl ?_
 refine fl_lenS rfl hm ?_
 refine lB rfl rfl (b_neF (by rw [rowsK_len])) ?_
 refine R1 4 O ?_
 refine lD rfl ?_
 refine fl_ld1 rfl mem0 rfl ?_
 refine lD rfl ?_
 refine fl_lenS rfl hits ?_
 refine lD rfl ?_
 refine lM rfl ?_
 refine lD rfl ?_
 refine fl_lenS rfl hG ?_
 refine lD rfl ?_
 refine lB rfl rfl (b_neF (by rw [List.length_map])) ?_
 refine R2 32 O ?_
 refine lZ z30 (c_rat_Whole (by omega) (by decide) (by decide)) rfl rfl fun v62 z62 hz62 hv62=>?_
 have hv62:=qv_op hv62
 obtain ⟨c62,d62,hv,hm62,hn62⟩:=hv62
 subst hv
 have hm62:=hm62.mono (zAq (hz22.trans hz30))
 have hn62:=hn62.mono (zAq (hz22.trans hz30))
 refine lZ z62 (c_rat_Whole (by omega) (by decide) (by decide)) rfl rfl fun v63 z63 hz63 hv63=>?_
 have hv63:=qv_op hv63
 obtain ⟨c63,d63,hv,hm63,hn63⟩:=hv63
 subst hv
 have hm63:=hm63.mono (zAq (hz22.trans (hz30.trans hz62)))
 have hn63:=hn63.mono (zAq (hz22.trans (hz30.trans hz62)))
 refine fl_al4 fun b11=>?_
 refine fl_al4 fun b12=>?_
 refine fl_st4 rfl rfl P1 ?_
 refine fl_st4 rfl rfl rep0 ?_
 refine lN ?_
 refine R5 8 O ?_
 refine fx_seq (fx_block ?_)
 refine fx_loop (fun n fs=>∃ (y:Nat) (q:Rat) (c3:C) (d3:C) (zz:Mem),LZ z63 zz [.blk b12 (.cells 35 [Cb (decide ((0:Rat).num<0)),c63,Cb (decide (((0:Rat).den:Int)<0)),d63]),.blk b11 (.cells 35 [Cb (decide (q.num<0)),c3,Cb (decide ((q.den:Int)<0)),d3]),.blk b9 (.cells 74 [cR,cI])] [(0,.c cM),(2,gv),(9,Ap b9),(11,Ap b11),(12,Ap b12),(13,Az y)] fs∧n=ms.length - y∧(y≤ms.length)∧(q=bals (takenL ms goods) (relL ms pi.toNat goods sales) (entsN ms) y)∧(LQ (768612 * y+1) q)∧(CZ 1 RW zz c3 (toL q.num.natAbs))∧(CZ 1 RW zz d3 (toL (q.den:Int).natAbs))) ?_ _ ⟨0,0,c62,d62,_,LZ.m [] O,rfl,Nat.zero_le _,rfl,lq_zero,hm62.m,hn62.m⟩ (kK (by omega))
 intro n fs ⟨y,q,c3,d3,zz,hL0,hmz0,hy,hq,hql,hqm,hqn⟩
 refine hL0.open fun e hzz=>?_
 refine R4 16 O ?_
 refine fl_ld1 rfl Y2 rfl ?_
 refine fl_lenS rfl hrows ?_
 refine R3 4 O ?_
 refine xD rfl (fun hc68=>?_) (fun hc68=>?_)
 ·refine fx_kseq ?_
  refine fx_seq (fx_block ?_)
  refine fx_drwS ?_
  have hlt:y<ms.length:=by have:=hc68;rw [rowsK_len] at this;omega
  have hsT:LQ 593 (sumQ (rowE (takenL ms goods) y (entsN ms))):=row_sum hT5 he8 (by omega)
  have hsR:LQ 768017 (sumQ (rowE (relL ms pi.toNat goods sales) y (entsN ms))):=row_sum hR5 he8 (by omega)
  have hqs:=(hql.add hsT).mono (n:=9000000) (by omega)
  have hqw:=((hql.add hsT).sub hsR).mono (n:=768612 * (y+1)+1) (by omega)
  have hqv:=hqw.mono (n:=9000000) (by omega)
  have hbn:bals (takenL ms goods) (relL ms pi.toNat goods sales) (entsN ms) (y+1)=q+sumQ (rowE (takenL ms goods) y (entsN ms)) - sumQ (rowE (relL ms pi.toNat goods sales) y (entsN ms)):=by rw [bals,← hq]
  have hbv:=hqv
  rw [← hbn] at hbv
  refine gl4 O O (.inr Y1) O ?_
  refine G1 2 O ?_
  refine gl1 O O (.inr Y2) O ?_
  refine G1 2 O ?_
  refine gP rfl rfl trivial ?_
  refine fl_iadS rfl rfl hrows y rfl _ (rowsK_get hlt) fun b75 p75 cs at75 hR=>lN ?_
  have hx:=row_ok hR hlt
  obtain ⟨t75,r75,e75,f75,hcs,qt75,qr75,qe75,qf75⟩:=hx
  subst hcs
  refine G1 2 O ?_
  refine fg_ldA (i:=⟨_,_,.load _ _ _⟩) (off:=0) rfl rfl trivial rfl at75 ti rfl (by simp) rfl sR ?_
  refine gC zz (c_rat_SumL (by omega) (m:=73) qt75.m (row_lq hT5) (by rw [rowE_len];omega)) O O O O fun v78 z78 hz78 hv78=>?_
  have hv78:=qv_op hv78
  obtain ⟨c78,d78,hv,hm78,hn78⟩:=hv78
  subst hv
  have hm78:=hm78.mono (zAq (hz22.trans (hz30.trans (hz62.trans (hz63.trans hzz)))))
  have hn78:=hn78.mono (zAq (hz22.trans (hz30.trans (hz62.trans (hz63.trans hzz)))))
  refine gC z78 (c_rat_Add (by omega) hqm.m hqn.m (Nat.le_trans hql.1 (by omega)) (Nat.le_trans hql.2 (by omega)) (hm78.mono zd_le) (hn78.mono zd_le) (Nat.le_trans hsT.1 (by omega)) (Nat.le_trans hsT.2 (by omega))) O O O O fun v79 z79 hz79 hv79=>?_
  simp only [valR_c] at hv79
  have hv79:=qv_op hv79
  obtain ⟨c79,d79,hv,hm79,hn79⟩:=hv79
  subst hv
  have hm79:=hm79.mono (zAq (hz22.trans (hz30.trans (hz62.trans (hz63.trans (hzz.trans hz78))))))
  have hn79:=hn79.mono (zAq (hz22.trans (hz30.trans (hz62.trans (hz63.trans (hzz.trans hz78))))))
  refine G1 2 O ?_
  refine gl1 O O (.inr Y2) O ?_
  refine G1 2 O ?_
  refine gP rfl rfl trivial ?_
  refine fl_iadS rfl rfl hrows y rfl _ (rowsK_get hlt) fun b83 p83 cs at83 hR=>lN ?_
  have hx:=row_ok hR hlt
  obtain ⟨t83,r83,e83,f83,hcs,qt83,qr83,qe83,qf83⟩:=hx
  subst hcs
  refine G1 2 O ?_
  refine fg_ldA (i:=⟨_,_,.load _ _ _⟩) (off:=1) rfl rfl trivial rfl at83 ti rfl (by simp) rfl sR ?_
  refine gC z79 (c_rat_SumL (by omega) (m:=96001) qr83.m (row_lq hR5) (by rw [rowE_len];omega)) O O O O fun v86 z86 hz86 hv86=>?_
  have hv86:=qv_op hv86
  obtain ⟨c86,d86,hv,hm86,hn86⟩:=hv86
  subst hv
  have hm86:=hm86.mono (zAq (hz22.trans (hz30.trans (hz62.trans (hz63.trans (hzz.trans (hz78.trans hz79)))))))
  have hn86:=hn86.mono (zAq (hz22.trans (hz30.trans (hz62.trans (hz63.trans (hzz.trans (hz78.trans hz79)))))))
  refine gC z86 (c_rat_Sub (by omega) hm79.m hn79.m hqs.1 hqs.2 (hm86.mono zd_le) (hn86.mono zd_le) (Nat.le_trans hsR.1 (by omega)) (Nat.le_trans hsR.2 (by omega))) O O O O fun v87 z87 _ hv87=>?_
  simp only [valR_c] at hv87
  have hv87:=qv_op hv87
  obtain ⟨c87,d87,hv,hm87,hn87⟩:=hv87
  subst hv
  have hm87:=hm87.mono (zAq (hz22.trans (hz30.trans (hz62.trans (hz63.trans (hzz.trans (hz78.trans (hz79.trans hz86))))))))
  have hn87:=hn87.mono (zAq (hz22.trans (hz30.trans (hz62.trans (hz63.trans (hzz.trans (hz78.trans (hz79.trans hz86))))))))
  refine gS O O O ?_
  refine fl_st4 rfl rfl P1 ?_
  refine lN ?_
  refine fg_nil ?_
  refine fx_drwS ?_
  refine gl4 O O (.inr Y1) O ?_
  refine G1 2 O ?_
  refine gl1 O O (.inr Y2) O ?_
  refine G1 2 O ?_
  refine gP rfl rfl trivial ?_
  refine fl_iadS rfl rfl hrows y rfl _ (rowsK_get hlt) fun b92 p92 cs at92 hR=>lN ?_
  have hx:=row_ok hR hlt
  obtain ⟨t92,r92,e92,f92,hcs,qt92,qr92,qe92,qf92⟩:=hx
  subst hcs
  refine G1 2 O ?_
  refine fg_ldA (i:=⟨_,_,.load _ _ _⟩) (off:=2) rfl rfl trivial rfl at92 ti rfl (by simp) rfl sR ?_
  refine gC z87 (c_rat_Cmp (by omega) (hm87.mono zd_le) (hn87.mono zd_le) hqv.1 hqv.2 qe92.m qf92.m hbv.1 hbv.2) O O O O fun v95 z95 _ hv95=>?_
  simp only [valR_c] at hv95
  subst hv95
  refine gP rfl rfl trivial ?_
  refine lB rfl rfl (b_neF (sg_eq hbn.symm)) (lN ?_)
  refine G1 2 O ?_
  refine gl4 O O (.inr Y1) O ?_
  refine gC z95 (c_rat_Sign (by omega) hm87.m hn87.m (Nat.le_trans hqv.1 (by decide)) (Nat.le_trans hqv.2 (by decide))) O O O O fun v99 z99 _ hv99=>?_
  simp only [valR_c] at hv99
  subst hv99
  refine gP rfl rfl rfl ?_
  refine lB rfl rfl (b_ltF (sg_ge.2 (by rw [← hbn];exact (bal_l hRG hSG hpe (y+1) fun g h=>h).1))) (lN ?_)
  refine G0 2 O ?_
  refine fx_condF rfl ?_
  refine fx_skip ?_
  refine sq_n ?_
  refine xG ?_
  refine lC rfl ?_
  refine lB rfl rfl (bI_add (n:=y+1) (by omega) (by omega)) ?_
  refine R0 2 O ?_
  exact lq_n (by omega) ⟨y+1,(q+sumQ (rowE (takenL ms goods) y (entsN ms)) - sumQ (rowE (relL ms pi.toNat goods sales) y (entsN ms))),c87,d87,_,LZ.m [] O,rfl,by omega,by rw [bals,← hq],hqw,hm87.m,hn87.m⟩
 refine fx_eseq ?_
 refine lq_e ?_
 refine sq_n ?_
 refine R4 4 O ?_
 obtain rfl:y=ms.length:=by have:=hc68;rw [rowsK_len] at this;omega
 subst hq
 have hqlY:=hql.mono (n:=9000000) (by omega)
 refine R0 2 O ?_
 refine fx_seq (fx_block ?_)
 refine fx_loop (fun n fs=>∃ (i:Nat) (q:Rat) (c4:C) (d4:C) (zw:Mem),LZ zz zw [.blk b12 (.cells 35 [Cb (decide (q.num<0)),c4,Cb (decide ((q.den:Int)<0)),d4]),.blk b11 (.cells 35 [Cb (decide ((bals (takenL ms goods) (relL ms pi.toNat goods sales) (entsN ms) ms.length).num<0)),c3,Cb (decide (((bals (takenL ms goods) (relL ms pi.toNat goods sales) (entsN ms) ms.length).den:Int)<0)),d3]),.blk b9 (.cells 74 [cR,cI])] [(0,.c cM),(2,gv),(9,Ap b9),(11,Ap b11),(12,Ap b12),(14,Az i)] fs∧n=goods.length - i∧(i≤goods.length)∧(q=sumQ ((goods.take i).map fun g=>(goodR ms pi.toNat sales g).left))∧(LQ (1289 * i+1) q)∧(CZ 1 RW zw c4 (toL q.num.natAbs))∧(CZ 1 RW zw d4 (toL (q.den:Int).natAbs))) ?_ _ ⟨0,0,c63,d63,_,LZ.m [] O,rfl,Nat.zero_le _,rfl,lq_zero,hm63.m,hn63.m⟩ (kK (by omega))
 intro n fs ⟨i,q,c4,d4,zw,hL1,hmz1,hi,hqq,hqL,hqM,hqN⟩
 refine hL1.open fun e hzw=>?_
 refine R4 24 O ?_
 refine fl_lenS rfl hG ?_
 refine R3 4 O ?_
 refine xD rfl (fun hc105=>?_) (fun hc105=>?_)
 ·refine fx_kseq ?_
  refine fx_seq (fx_block ?_)
  refine fx_drwS ?_
  obtain ⟨g,hg⟩:=at_lt (l:=goods) (i:=i) (by omega)
  have hgg:=List.mem_of_getElem? hg
  obtain ⟨hqd,hqc,hqb,hqa⟩:=good_lq (pa:=pi.toNat) hsm hgg
  have hGL:=good_l (pa:=pi.toNat) hRG hSG hgg
  obtain ⟨hgy,hgp,hgq⟩:=goodB_i (hRG.g g hgg)
  obtain ⟨hy1,hy2⟩:=isE_i hgy
  obtain ⟨hp1_,hp2_⟩:=isE_i hgp
  obtain ⟨hq1_,hq2_⟩:=isE_i hgq
  obtain ⟨hz1,hz2,hz3,hz4⟩:=hsm.gs g hgg
  have hit:(goods.map (itemOf ms pi.toNat sales))[i]? = some (itemOf ms pi.toNat sales g):=by rw [List.getElem?_map,hg];rfl
  refine G1 5 O ?_
  refine gP rfl rfl trivial ?_
  refine fl_iadS rfl rfl hG i rfl g hg fun b110 p110 cs at110 hR=>lN ?_
  obtain ⟨u0,u1,u2,u3,hcs,g0,g1,g2,g3⟩:=hR
  subst hcs
  refine fg_ldA (i:=⟨_,_,.load _ _ _⟩) (off:=0) rfl rfl trivial rfl at110 ti rfl (by simp) rfl sR ?_
  refine G1 2 O ?_
  refine gl1 O O (.inr Y2) O ?_
  refine G1 2 O ?_
  refine gP rfl rfl trivial ?_
  refine fl_iadS rfl rfl hits i rfl _ hit fun b115 p115 cs at115 hR=>lN ?_
  obtain ⟨i0,i1,i2,i3,i4,i5,i6,i7,hcs,j0,j1,j2,j3,j4,j5,j6,j7⟩:=item_ok hR
  subst hcs
  refine fg_ldA (i:=⟨_,_,.load _ _ _⟩) (off:=0) rfl rfl trivial rfl at115 ti rfl (by simp) rfl sR ?_
  refine gA O O (fun b15 hT15=>?_)
  refine gA O O (fun b16 hT16=>?_)
  refine gT O O O hT15 ?_
  refine fl_stAll rfl rfl rfl rfl P1 ?_
  refine lN ?_
  refine gS O O O ?_
  refine fl_stAll rfl rfl rfl rfl rep0 ?_
  refine lN ?_
  refine fg_nil ?_
  refine xR ?_
  refine fl_ld4 rfl Y2 rfl ?_
  refine lF rfl ?_
  refine fl_ld4 rfl mem0 rfl ?_
  refine lZ zw (c_rat_Add (by omega) hqM hqN (Nat.le_trans hqL.1 (by omega)) (Nat.le_trans hqL.2 (by omega)) j6.m j7.m (Nat.le_trans hqc.1 (by decide)) (Nat.le_trans hqc.2 (by decide))) rfl rfl fun v120 z120 hz120 hv120=>?_
  simp only [valR_c] at hv120
  have hv120:=qv_op hv120
  obtain ⟨c120,d120,hv,hm120,hn120⟩:=hv120
  subst hv
  have hm120:=hm120.mono (zAq (hz22.trans (hz30.trans (hz62.trans (hz63.trans (hzz.trans hzw))))))
  have hn120:=hn120.mono (zAq (hz22.trans (hz30.trans (hz62.trans (hz63.trans (hzz.trans hzw))))))
  refine fl_st4 rfl rfl P2 ?_
  refine lN ?_
  refine fx_ss ?_
  refine fx_drwS ?_
  refine G1 2 O ?_
  refine gl4 O O Ht O ?_
  refine G1 2 O ?_
  refine gl4 O O Ht O ?_
  refine G1 2 O ?_
  refine gl4 O O Ht O ?_
  refine fg_own (k:=.cells 35 [Cb (decide ((goodR ms pi.toNat sales g).sold.num<0)),i2,Cb (decide (((goodR ms pi.toNat sales g).sold.den:Int)<0)),i3,Cb (decide ((goodR ms pi.toNat sales g).lft.num<0)),i4,Cb (decide (((goodR ms pi.toNat sales g).lft.den:Int)<0)),i5,Cb (decide ((goodR ms pi.toNat sales g).left.num<0)),i6,Cb (decide (((goodR ms pi.toNat sales g).left.den:Int)<0)),i7]) (w:=fun b=>.c (.sl b 0 3 4)) rfl trivial rfl (fun _=>rfl) (fun st hst=>?_) (fun b127 hT127=>?_)
  ·simp only [stepE,fillS,AS.ev,hst 122 (by simp [Ins.sl,Od.sls,Od.sl]),hst 124 (by simp [Ins.sl,Od.sls,Od.sl]),hst 126 (by simp [Ins.sl,Od.sls,Od.sl])];rfl
  refine fg_frzZ z120 (p:=[]) rfl rfl rfl (fun _ h=>h) fun zff127 hzff127 f127=>?_
  have hsum:SZ 4 RV zff127 (.c (.sl b127 0 3 4)) [(goodR ms pi.toNat sales g).sold,(goodR ms pi.toNat sales g).lft,(goodR ms pi.toNat sales g).left]:=sum3_sz f127 j2.m j3.m j4.m j5.m j6.m j7.m
  have hs8:∀ q,q∈[(goodR ms pi.toNat sales g).sold,(goodR ms pi.toNat sales g).lft,(goodR ms pi.toNat sales g).left]→LQ 1288 q:=lq3 hqb hqa hqc
  have hs9:LQ 9000000 (sumQ [(goodR ms pi.toNat sales g).sold,(goodR ms pi.toNat sales g).lft,(goodR ms pi.toNat sales g).left]):=by rw [hGL.sum];exact hqd.mono (by decide)
  refine gC zff127 (c_rat_SumL (by omega) (m:=1288) hsum hs8 (Nat.le_of_ble_eq_true rfl)) O O O O fun v128 z128 _ hv128=>?_
  have hv128:=qv_op hv128
  obtain ⟨c128,d128,hv,hm128,hn128⟩:=hv128
  subst hv
  have hm128:=hm128.mono (zAq (hz22.trans (hz30.trans (hz62.trans (hz63.trans (hzz.trans (hzw.trans (hz120.trans hzff127))))))))
  have hn128:=hn128.mono (zAq (hz22.trans (hz30.trans (hz62.trans (hz63.trans (hzz.trans (hzw.trans (hz120.trans hzff127))))))))
  refine G1 2 O ?_
  refine gl4 O O Ht O ?_
  refine gC z128 (c_rat_Cmp (by omega) (hm128.mono zd_le) (hn128.mono zd_le) hs9.1 hs9.2 j0.m j1.m (Nat.le_trans hqd.1 (by decide)) (Nat.le_trans hqd.2 (by decide))) O O O O fun v131 z131 _ hv131=>?_
  simp only [valR_c] at hv131
  subst hv131
  refine gP rfl rfl trivial ?_
  refine lB rfl rfl (b_neF (sg_eq hGL.sum)) (lN ?_)
  refine G1 4 O ?_
  refine gl4 O O Ht O ?_
  refine gC z131 (c_rat_Sign (by omega) j2.m j3.m (Nat.le_trans hqb.1 (by decide)) (Nat.le_trans hqb.2 (by decide))) O O O O fun v136 z136 _ hv136=>?_
  simp only [valR_c] at hv136
  subst hv136
  refine gP rfl rfl rfl ?_
  refine lB rfl rfl (b_ltF (sg_ge.2 hGL.sold)) (lN ?_)
  refine G1 10 O ?_
  refine gl4 O O Ht O ?_
  refine gC z136 (c_rat_Sign (by omega) j4.m j5.m (Nat.le_trans hqa.1 (by decide)) (Nat.le_trans hqa.2 (by decide))) O O O O fun v142 z142 _ hv142=>?_
  simp only [valR_c] at hv142
  subst hv142
  refine gP rfl rfl rfl ?_
  refine lB rfl rfl (b_ltF (sg_ge.2 hGL.lft)) (lN ?_)
  refine G1 10 O ?_
  refine gl4 O O Ht O ?_
  refine gC z142 (c_rat_Sign (by omega) j6.m j7.m (Nat.le_trans hqc.1 (by decide)) (Nat.le_trans hqc.2 (by decide))) O O O O fun v148 z148 _ hv148=>?_
  simp only [valR_c] at hv148
  subst hv148
  refine gP rfl rfl rfl ?_
  refine lB rfl rfl (b_ltF (sg_ge.2 hGL.left)) (lN ?_)
  refine G1 10 O ?_
  refine gl4 O O Ht O ?_
  refine G1 2 O ?_
  refine gl4 O O (.inr Y1) O ?_
  refine gC z148 (c_rat_Cmp (by omega) j0.m j1.m (Nat.le_trans hqd.1 (by decide)) (Nat.le_trans hqd.2 (by decide)) g0.m g1.m (by omega) (by omega)) O O O O fun v156 z156 _ hv156=>?_
  simp only [valR_c] at hv156
  subst hv156
  refine gP rfl rfl rfl ?_
  refine lB rfl rfl (b_gtF (sg_le.2 hGL.mg)) (lN ?_)
  refine G0 2 O ?_
  refine R4 256 O ?_
  refine fl_ld1 rfl Y1 rfl ?_
  refine R0 2 O ?_
  refine fx_seq (fx_block ?_)
  refine fx_loop (fun n fs=>∃ (y:Nat) (v:Int) (b:Bool) (zv:Mem),LZ z156 zv [.blk b16 (.cells 93 [Cs g.id,Cb (decide ((dfr ms g).num<0)),i0,Cb (decide (((dfr ms g).den:Int)<0)),i1,Cb (decide ((goodR ms pi.toNat sales g).sold.num<0)),i2,Cb (decide (((goodR ms pi.toNat sales g).sold.den:Int)<0)),i3,Cb (decide ((goodR ms pi.toNat sales g).lft.num<0)),i4,Cb (decide (((goodR ms pi.toNat sales g).lft.den:Int)<0)),i5,Cb (decide ((goodR ms pi.toNat sales g).left.num<0)),i6,Cb (decide (((goodR ms pi.toNat sales g).left.den:Int)<0)),i7]),.blk b15 (.cells 91 [Cs g.id,Ci g.yr,Ci g.py,Ci g.pr,Cb g.mg.n,u0,Cb g.mg.d,u1,Cb g.us.n,u2,Cb g.us.d,u3]),.blk b12 (.cells 35 [Cb (decide ((q+(goodR ms pi.toNat sales g).left).num<0)),c120,Cb (decide (((q+(goodR ms pi.toNat sales g).left).den:Int)<0)),d120]),.blk b11 (.cells 35 [Cb (decide ((bals (takenL ms goods) (relL ms pi.toNat goods sales) (entsN ms) ms.length).num<0)),c3,Cb (decide (((bals (takenL ms goods) (relL ms pi.toNat goods sales) (entsN ms) ms.length).den:Int)<0)),d3]),.blk b9 (.cells 74 [cR,cI])] [(0,.c cM),(2,gv),(9,Ap b9),(11,Ap b11),(12,Ap b12),(14,Az i),(15,Ap b15),(16,Ap b16),(17,Ab b),(18,Ai v)] fs∧n=ms.length - y∧(v=(y:Int))∧(g.yr.toNat≤y)∧(y≤ms.length)∧(b=true↔∃ y',g.yr.toNat≤y'∧y'<y∧bothM ms g y'=false)) ?_ _ ⟨g.yr.toNat,g.yr,false,_,LZ.m [] O,rfl,by omega,Nat.le_refl _,by omega,part_0⟩ (kK (by omega))
  intro n fs ⟨y,v,b,zv,hL2,hmz2,hv5,hy5,hy6,hb⟩
  refine hL2.open fun e _=>?_
  refine R4 16 O ?_
  refine fl_lenS rfl hm ?_
  refine R3 4 O ?_
  refine xD rfl (fun hc164=>?_) (fun hc164=>?_)
  ·refine fx_kseq ?_
   refine fx_seq (fx_block ?_)
   refine fx_drw ?_
   obtain ⟨r1,hr1⟩:=at_lt (l:=ms) (i:=y) (by omega)
   have hrl1:=hRG.m r1 (List.mem_of_getElem? hr1)
   obtain ⟨x1,hx1⟩:=at_lt (l:=r1) (i:=g.py.toNat) (by omega)
   obtain ⟨x2,hx2⟩:=at_lt (l:=r1) (i:=g.pr.toNat) (by omega)
   refine G1 4 O ?_
   refine fg_splitB 168 rfl (fun hg168=>?_) (fun hg168=>?_)
   ·refine G0 6292480 O ?_
    refine sq_n ?_
    refine xG ?_
    refine lC rfl ?_
    refine lB rfl rfl (later_ad (by omega) (by omega)) ?_
    refine R0 2 O ?_
    exact lq_n (by omega) ⟨y+1,((v.toNat+1:Nat):Int),true,_,LZ.m [] O,rfl,by omega,by omega,by omega,part_a hb hg168⟩
   refine G1 4 O ?_
   refine gP rfl rfl rfl ?_
   refine fl_iadS rfl rfl hm y hv5 r1 hr1 fun b171 p171 cs at171 hR=>lN ?_
   obtain ⟨c171,hcs,q171⟩:=hR
   subst hcs
   refine fg_ldA (i:=⟨_,_,.load _ _ _⟩) (off:=0) rfl rfl rfl rfl at171 ti rfl (by simp) rfl sR ?_
   refine G1 2 O ?_
   refine gl1 O O (.inr Y1) O ?_
   refine gP rfl rfl rfl ?_
   refine fl_iadS rfl rfl q171 g.py.toNat (by omega) x1 hx1 fun b175 p175 cs at175 hR=>lN ?_
   have hcs:cs=_:=hR
   subst hcs
   refine fg_ldA (i:=⟨_,_,.load _ _ _⟩) (off:=0) rfl rfl rfl rfl at175 ti rfl (by simp) rfl sR ?_
   refine G1 12 O ?_
   refine fg_splitB 179 rfl (fun hg179=>?_) (fun hg179=>?_)
   ·refine G0 3072 O ?_
    refine sq_n ?_
    refine xG ?_
    refine lC rfl ?_
    refine lB rfl rfl (later_ad (by omega) (by omega)) ?_
    refine R0 2 O ?_
    exact lq_n (by omega) ⟨y+1,((v.toNat+1:Nat):Int),true,_,LZ.m [] O,rfl,by omega,by omega,by omega,part_b hb hg168 hy5 hr1 hx1 hg179⟩
   refine G1 4 O ?_
   refine gP rfl rfl rfl ?_
   refine fl_iadS rfl rfl hm y hv5 r1 hr1 fun b182 p182 cs at182 hR=>lN ?_
   obtain ⟨c182,hcs,q182⟩:=hR
   subst hcs
   refine fg_ldA (i:=⟨_,_,.load _ _ _⟩) (off:=0) rfl rfl rfl rfl at182 ti rfl (by simp) rfl sR ?_
   refine G1 2 O ?_
   refine gl1 O O (.inr Y1) O ?_
   refine gP rfl rfl rfl ?_
   refine fl_iadS rfl rfl q182 g.pr.toNat (by omega) x2 hx2 fun b186 p186 cs at186 hR=>lN ?_
   have hcs:cs=_:=hR
   subst hcs
   refine fg_ldA (i:=⟨_,_,.load _ _ _⟩) (off:=0) rfl rfl rfl rfl at186 ti rfl (by simp) rfl sR ?_
   refine G0 12 O ?_
   refine sq_n ?_
   refine xG ?_
   refine lC rfl ?_
   refine lB rfl rfl (later_ad (by omega) (by omega)) ?_
   refine R0 2 O ?_
   exact lq_n (by omega) ⟨y+1,((v.toNat+1:Nat):Int),(!x2),_,LZ.m [] O,rfl,by omega,by omega,by omega,part_c hb hg168 hy5 hr1 hx1 hx2 hg179⟩
  refine fx_eseq ?_
  refine lq_e ?_
  refine sq_n ?_
  refine xR ?_
  have hyE:y=ms.length:=by omega
  refine R1 4 O ?_
  refine fl_splitB 191 rfl (fun hg191=>?_) (fun hg191=>?_)
  ·refine lD rfl ?_
   refine lF rfl ?_
   refine lD rfl ?_
   refine fl_ld4 rfl mem0 rfl ?_
   refine lD rfl ?_
   refine lZ zv (c_rat_Sign (by omega) j6.m j7.m (Nat.le_trans hqc.1 (by decide)) (Nat.le_trans hqc.2 (by decide))) rfl rfl fun v194 z194 _ hv194=>?_
   simp only [valR_c] at hv194
   subst hv194
   refine lD rfl ?_
   refine lB rfl rfl (b_neF (by rw [hGL.yes (part_y hb hyE hg191)];rfl)) ?_
   subst hg191
   refine R3 4098 O ?_
   refine fx_skip ?_
   refine sq_n ?_
   refine xG ?_
   refine lC rfl ?_
   refine lB rfl rfl (bI_add (n:=i+1) (by omega) (by omega)) ?_
   refine R0 2 O ?_
   exact lq_n (by omega) ⟨i+1,(q+(goodR ms pi.toNat sales g).left),c120,d120,_,LZ.m [_,_] O,rfl,by omega,by rw [tk_some hg,List.map_append,sumQ_app,← hqq];simp only [List.map_cons,List.map_nil,sumQ,Rat.add_zero],(hqL.add hqc).mono (by omega),hm120.m,hn120.m⟩
  refine R1 16 O ?_
  subst hg191
  refine R1 66 O ?_
  refine lD rfl ?_
  refine fl_ld4 rfl mem0 rfl ?_
  refine lD rfl ?_
  refine lZ zv (c_rat_Sign (by omega) j4.m j5.m (Nat.le_trans hqa.1 (by decide)) (Nat.le_trans hqa.2 (by decide))) rfl rfl fun v203 z203 _ hv203=>?_
  simp only [valR_c] at hv203
  subst hv203
  refine lD rfl ?_
  refine lB rfl rfl (b_neF (by rw [hGL.no (part_n hb hyE)];rfl)) ?_
  refine R3 8 O ?_
  refine fx_skip ?_
  refine sq_n ?_
  refine xG ?_
  refine lC rfl ?_
  refine lB rfl rfl (bI_add (n:=i+1) (by omega) (by omega)) ?_
  refine R0 2 O ?_
  exact lq_n (by omega) ⟨i+1,(q+(goodR ms pi.toNat sales g).left),c120,d120,_,LZ.m [_,_] O,rfl,by omega,by rw [tk_some hg,List.map_append,sumQ_app,← hqq];simp only [List.map_cons,List.map_nil,sumQ,Rat.add_zero],(hqL.add hqc).mono (by omega),hm120.m,hn120.m⟩
 refine fx_eseq ?_
 refine lq_e ?_
 refine sq_n ?_
 refine xR ?_
 obtain rfl:i=goods.length:=by omega
 rw [List.take_of_length_le (Nat.le_refl _)] at hqq
 have hbal:=((bal_l hRG hSG hpe ms.length (goods:=goods) fun g h=>h).2 (Nat.le_refl _)).trans hqq.symm
 refine fl_ld4 rfl Y1 rfl ?_
 refine fl_ld4 rfl mem0 rfl ?_
 refine lZ zw (c_rat_Cmp (by omega) hqm.m hqn.m (Nat.le_trans hqlY.1 (by decide)) (Nat.le_trans hqlY.2 (by decide)) hqM hqN (Nat.le_trans hqL.1 (by omega)) (Nat.le_trans hqL.2 (by omega))) rfl rfl fun v209 z209 _ hv209=>?_
 simp only [valR_c] at hv209
 subst hv209
 refine lB rfl rfl (b_eqT (sg_eq hbal)) ?_
 refine lC rfl ?_
 refine lD rfl ?_
 refine lE z209 (c_law22_works (by omega)) O O fun z212 _=>?_
 refine R0 6 O ?_
 refine xT ?_
 refine rI O ?_
 rfl
end Go.Proofs.YtlceligcgelbdaaGreat
