/- What is sold, left and closing; the examples, walked. -/
import Derived.WalkKit
import Derived.Orders
import Derived.Test.YtlceligcgelbdaaGreatJF6
set_option linter.unusedVariables false
set_option linter.unusedSimpArgs false
set_option maxRecDepth 100000
set_option maxHeartbeats 1000000
namespace Go.Proofs.YtlceligcgelbdaaGreat
open Go.CE Go.RowKit Go.Num
theorem sumQ_app:∀ {a b:List Rat},sumQ (a++b)=sumQ a+sumQ b
 | [],b=>by rw [List.nil_append,sumQ,Rat.zero_add]
 | x::a,b=>by rw [List.cons_append,sumQ,sumQ,sumQ_app,Rat.add_assoc]
open Go.CE Go.RowKit Go.Num
open Go.Eng (setL)
structure SmallP (ms:List (List Bool)) (goods:List PGood) (sales:List PSale):Prop where
 m:ms.length≤8
 r:∀ r,r∈ms→r.length≤8
 g:goods.length≤8
 gs:∀ g,g∈goods→SG g
 s:sales.length≤12
 ss:∀ x,x∈sales→x.sh.nm.length≤3∧x.sh.dm.length≤3
theorem sg_of {g:PGood} (h:g.mg.nm.length≤3∧g.mg.dm.length≤3) (h2:g.us.nm.length≤3∧g.us.dm.length≤3):SG g:=⟨h.1,h.2,h2.1,h2.2⟩
def pq (q:Rat):PRat:=⟨decide (q.num<0),toL q.num.natAbs,decide ((q.den:Int)<0),toL (q.den:Int).natAbs⟩
theorem rv_pq (q:Rat):rv (pq q)=q:=valR_c q
def gK (id:ByteArray) (yr m u:Int):PGood:=⟨id,yr,1,0,pq (Rat.divInt m 1),pq (Rat.divInt u 4)⟩
def sK (id:ByteArray) (yr u:Int):PSale:=⟨id,yr,pq (Rat.divInt u 5)⟩
theorem c_law22_short {k:Nat} (hk:1≤k) {z:Mem} {n1 n2:Bool} {c1 c2:C} {l1 l2:List UInt32} (hx:CZ 1 RW z c1 l1) (hy:CZ 1 RW z c2 l2):FC (E k) 68 [.agg [Cb n1,c1,Cb n2,c2]] z fun u _=>∃ b:Bool,u=bool_ b∧(b=true→l1.length≤3∧l2.length≤3):=by
 refine fc_of (tS_get68) (by omega) (len1 rfl) fun B j hj=>?_
 refine xR ?_
 refine fl_bx rfl fun b1=>?_
 refine R2 16 O ?_
 refine fl_ld1 rfl mem0 rfl ?_
 refine fl_lenS rfl hx ?_
 refine R1 4 O ?_
 refine fl_splitD 8 rfl (fun hg8=>?_) (fun hg8=>?_)
 ·refine R1 4 O ?_
  refine lD rfl ?_
  refine fl_ld1 rfl mem0 rfl ?_
  refine lD rfl ?_
  refine fl_lenS rfl hy ?_
  refine R0 12 O ?_
  refine xT ?_
  refine rI O ?_
  refine ⟨_,rfl,fun h=>?_⟩
  have h5:=of_decide_eq_true h
  omega
 refine R0 192 O ?_
 refine xT ?_
 refine rI O ?_
 refine ⟨_,rfl,fun h=>?_⟩
 exact absurd h (by decide)
theorem c_law22_small {k:Nat} (hk:2≤k) {z:Mem} {cM:C} {gv sv:AV} {ms:List (List Bool)} {goods:List PGood} {sales:List PSale} (hm:CZ 1 (RC 1 (RE Value.bool)) z cM ms) (hG:SZ 12 RGood z gv goods) (hS:SZ 6 RSale z sv sales):FC (E k) 24 [.c cM,gv,sv] z fun u _=>∃ b:Bool,u=bool_ b∧(b=true→SmallP ms goods sales):=by
 have hml:=hm.le
 have hgl:=hG.le
 have hsl:=hS.le
 refine fc_of (tS_get24) (by omega) (len1 rfl) fun B j hj=>?_
 refine R4 32 O ?_
 refine fl_lenS rfl hm ?_
 refine R1 4 O ?_
 refine fl_splitD 13 rfl (fun hg13=>?_) (fun hg13=>?_)
 ·refine R3 16400 O ?_
  refine fx_rseq ?_
  refine rI O ?_
  refine ⟨_,rfl,fun h=>?_⟩
  exact absurd h (by decide)
 refine lD rfl ?_
 refine lM rfl ?_
 refine lD rfl ?_
 refine fl_lenS rfl hG ?_
 refine R1 12 O ?_
 refine fl_splitD 18 rfl (fun hg18=>?_) (fun hg18=>?_)
 ·refine R3 512 O ?_
  refine fx_rseq ?_
  refine rI O ?_
  refine ⟨_,rfl,fun h=>?_⟩
  exact absurd h (by decide)
 refine lD rfl ?_
 refine lM rfl ?_
 refine lD rfl ?_
 refine fl_lenS rfl hS ?_
 refine R3 8 O ?_
 refine xD rfl (fun hc22=>?_) (fun hc22=>?_)
 ·refine R5 8 O ?_
  refine fx_rseq ?_
  refine rI O ?_
  refine ⟨_,rfl,fun h=>?_⟩
  exact absurd h (by decide)
 refine R5 16 O ?_
 refine fx_seq (fx_block ?_)
 refine fx_loop (fun n fs=>∃ (i:Nat),LI z [] [(0,.c cM),(1,gv),(2,sv),(7,Az i)] fs∧n=ms.length - i∧(i≤ms.length)∧(∀ r,r∈ms.take i→r.length≤8)) ?_ _ ⟨0,LI.m [] O,rfl,Nat.zero_le _,fun a ha=>by simp at ha⟩ (kK (by omega))
 intro n fs ⟨i,hL0,hmz0,hi,h8⟩
 refine hL0.open fun e zl0 _=>?_
 refine R4 16 O ?_
 refine fl_lenS rfl hm ?_
 refine R3 4 O ?_
 refine xD rfl (fun hc26=>?_) (fun hc26=>?_)
 ·refine fx_kseq ?_
  refine fx_seq (fx_block ?_)
  refine xR ?_
  obtain ⟨r,hr⟩:=at_lt (l:=ms) (i:=i) (by omega)
  refine R1 4 O ?_
  refine fl_iadS (zz:=zl0) rfl rfl hm.m i rfl r hr fun b31 p31 cs at31 hR=>?_
  obtain ⟨c31,hcs,q31⟩:=hR
  subst hcs
  refine fl_ldA (off:=0) rfl at31 rfl (by simp) rfl ?_
  have hrl:=q31.le
  refine fl_lenS rfl q31 ?_
  refine R0 2 O ?_
  refine xD rfl (fun hc34=>?_) (fun hc34=>?_)
  ·refine R5 4 O ?_
   refine xT ?_
   refine sq_r ?_
   refine lq_r ?_
   refine sq_r ?_
   refine rI O ?_
   refine ⟨_,rfl,fun h=>?_⟩
   exact absurd h (by decide)
  refine fx_skip ?_
  refine sq_n ?_
  refine xG ?_
  refine lC rfl ?_
  refine lB rfl rfl (bI_add (n:=i+1) (by omega) (by omega)) ?_
  refine R0 2 O ?_
  exact lq_n (by omega) ⟨i+1,LI.m [] O,rfl,by omega,tk_all hr h8 (by omega)⟩
 refine fx_eseq ?_
 refine lq_e ?_
 refine sq_n ?_
 refine R5 8 O ?_
 refine fx_seq (fx_block ?_)
 refine fx_loop (fun n fs=>∃ (jj:Nat),LI zl0 [] [(1,gv),(2,sv),(8,Az jj)] fs∧n=goods.length - jj∧(jj≤goods.length)∧(∀ g,g∈goods.take jj→SG g)) ?_ _ ⟨0,LI.m [] O,rfl,Nat.zero_le _,fun a ha=>by simp at ha⟩ (kK (by omega))
 intro n fs ⟨jj,hL1,hmz1,hj5,hg5⟩
 refine hL1.open fun e zl1 _=>?_
 refine R4 24 O ?_
 refine fl_lenS rfl hG ?_
 refine R3 4 O ?_
 refine xD rfl (fun hc38=>?_) (fun hc38=>?_)
 ·refine fx_kseq ?_
  refine fx_seq (fx_block ?_)
  refine xR ?_
  obtain ⟨g,hg⟩:=at_lt (l:=goods) (i:=jj) (by omega)
  refine R1 5 O ?_
  refine fl_iadS (zz:=zl1) rfl rfl hG.m jj rfl g hg fun b43 p43 cs at43 hR=>?_
  obtain ⟨u0,u1,u2,u3,hcs,g0,g1,g2,g3⟩:=hR
  subst hcs
  refine lF rfl ?_
  refine fl_ldA (off:=0) rfl at43 rfl (by simp) rfl ?_
  refine fl_lenT rfl ?_
  refine R1 4 O ?_
  refine fl_splitD 48 rfl (fun hg48=>?_) (fun hg48=>?_)
  ·refine R3 1048832 O ?_
   refine xT ?_
   refine sq_r ?_
   refine lq_r ?_
   refine sq_r ?_
   refine rI O ?_
   refine ⟨_,rfl,fun h=>?_⟩
   exact absurd h (by decide)
  refine R1 5 O ?_
  refine lD rfl ?_
  refine fl_iadS (zz:=zl1) rfl rfl hG.m jj rfl g hg fun b51 p51 cs at51 hR=>?_
  obtain ⟨u0,u1,u2,u3,hcs,g0,g1,g2,g3⟩:=hR
  subst hcs
  refine lD rfl ?_
  refine lF rfl ?_
  refine lD rfl ?_
  refine fl_ldA (off:=4) rfl at51 rfl (by simp) rfl ?_
  refine lD rfl ?_
  refine lZ zl1 (c_law22_short (by omega) g0 g1) rfl rfl fun v54 z54 _ ⟨w54,hv54,hs54⟩=>?_
  subst hv54
  refine R1 12 O ?_
  refine fl_splitB 57 rfl (fun hg57=>?_) (fun hg57=>?_)
  ·refine R3 2048 O ?_
   refine xT ?_
   refine sq_r ?_
   refine lq_r ?_
   refine sq_r ?_
   refine rI O ?_
   refine ⟨_,rfl,fun h=>?_⟩
   exact absurd h (by decide)
  refine R1 5 O ?_
  refine lD rfl ?_
  refine fl_iadS (zz:=z54) rfl rfl hG.m jj rfl g hg fun b60 p60 cs at60 hR=>?_
  obtain ⟨u0,u1,u2,u3,hcs,g0,g1,g2,g3⟩:=hR
  subst hcs
  refine lD rfl ?_
  refine lF rfl ?_
  refine lD rfl ?_
  refine fl_ldA (off:=8) rfl at60 rfl (by simp) rfl ?_
  refine lD rfl ?_
  refine lZ z54 (c_law22_short (by omega) g2 g3) rfl rfl fun v63 z63 _ ⟨w63,hv63,hs63⟩=>?_
  subst hv63
  refine R0 4 O ?_
  refine fx_condB rfl (fun hc65=>?_) (fun hc65=>?_)
  ·refine R5 4 O ?_
   refine xT ?_
   refine sq_r ?_
   refine lq_r ?_
   refine sq_r ?_
   refine rI O ?_
   refine ⟨_,rfl,fun h=>?_⟩
   exact absurd h (by decide)
  refine fx_skip ?_
  refine sq_n ?_
  refine xG ?_
  refine lC rfl ?_
  refine lB rfl rfl (bI_add (n:=jj+1) (by omega) (by omega)) ?_
  refine R0 2 O ?_
  exact lq_n (by omega) ⟨jj+1,LI.m [] O,rfl,by omega,tk_all hg hg5 (sg_of (hs54 (nf_t hg57)) (hs63 (nf_t hc65)))⟩
 refine fx_eseq ?_
 refine lq_e ?_
 refine sq_n ?_
 refine R5 8 O ?_
 refine fx_seq (fx_block ?_)
 refine fx_loop (fun n fs=>∃ (kk:Nat),LI zl1 [] [(2,sv),(9,Az kk)] fs∧n=sales.length - kk∧(kk≤sales.length)∧(∀ x,x∈sales.take kk→x.sh.nm.length≤3∧x.sh.dm.length≤3)) ?_ _ ⟨0,LI.m [] O,rfl,Nat.zero_le _,fun a ha=>by simp at ha⟩ (kK (by omega))
 intro n fs ⟨kk,hL2,hmz2,hk5,hx5⟩
 refine hL2.open fun e zl2 _=>?_
 refine R4 24 O ?_
 refine fl_lenS rfl hS ?_
 refine R3 4 O ?_
 refine xD rfl (fun hc69=>?_) (fun hc69=>?_)
 ·refine fx_kseq ?_
  refine fx_seq (fx_block ?_)
  refine xR ?_
  obtain ⟨x,hx⟩:=at_lt (l:=sales) (i:=kk) (by omega)
  refine R1 5 O ?_
  refine fl_iadS (zz:=zl2) rfl rfl hS.m kk rfl x hx fun b74 p74 cs at74 hR=>?_
  obtain ⟨u0,u1,hcs,s0,s1⟩:=hR
  subst hcs
  refine lF rfl ?_
  refine fl_ldA (off:=0) rfl at74 rfl (by simp) rfl ?_
  refine fl_lenT rfl ?_
  refine R1 4 O ?_
  refine fl_splitD 79 rfl (fun hg79=>?_) (fun hg79=>?_)
  ·refine R3 2048 O ?_
   refine xT ?_
   refine sq_r ?_
   refine lq_r ?_
   refine sq_r ?_
   refine rI O ?_
   refine ⟨_,rfl,fun h=>?_⟩
   exact absurd h (by decide)
  refine R1 5 O ?_
  refine lD rfl ?_
  refine fl_iadS (zz:=zl2) rfl rfl hS.m kk rfl x hx fun b82 p82 cs at82 hR=>?_
  obtain ⟨u0,u1,hcs,s0,s1⟩:=hR
  subst hcs
  refine lD rfl ?_
  refine lF rfl ?_
  refine lD rfl ?_
  refine fl_ldA (off:=2) rfl at82 rfl (by simp) rfl ?_
  refine lD rfl ?_
  refine lZ zl2 (c_law22_short (by omega) s0 s1) rfl rfl fun v85 z85 _ ⟨w85,hv85,hs85⟩=>?_
  subst hv85
  refine R0 4 O ?_
  refine fx_condB rfl (fun hc87=>?_) (fun hc87=>?_)
  ·refine R5 4 O ?_
   refine xT ?_
   refine sq_r ?_
   refine lq_r ?_
   refine sq_r ?_
   refine rI O ?_
   refine ⟨_,rfl,fun h=>?_⟩
   exact absurd h (by decide)
  refine fx_skip ?_
  refine sq_n ?_
  refine xG ?_
  refine lC rfl ?_
  refine lB rfl rfl (bI_add (n:=kk+1) (by omega) (by omega)) ?_
  refine R0 2 O ?_
  exact lq_n (by omega) ⟨kk+1,LI.m [] O,rfl,by omega,tk_all hx hx5 (hs85 (nf_t hc87))⟩
 refine fx_eseq ?_
 refine lq_e ?_
 refine sq_n ?_
 refine R5 4 O ?_
 refine xT ?_
 exact rI O ⟨true,rfl,fun _=>⟨by omega,fun r hr=>h8 r (by rw [List.take_of_length_le (by omega)];exact hr),by omega,fun g hg=>hg5 g (by rw [List.take_of_length_le (by omega)];exact hg),by omega,fun x hx=>hx5 x (by rw [List.take_of_length_le (by omega)];exact hx)⟩⟩
theorem c_law22_good {k:Nat} (hk:11≤k) {z:Mem} {id:ByteArray} {yr m u:Int} (h1 : -9223372036854775808≤m) (h2:m<9223372036854775808) (h3 : -9223372036854775808≤u) (h4:u<9223372036854775808):FC (E k) 69 [.c (Cs id),Ai yr,Ai m,Ai u] z fun v z'=>∃ cs,v=.agg cs∧RGood z' cs (gK id yr m u):=by
 refine fc_of (tS_get69) (by omega) (len1 rfl) fun B j hj=>?_
 refine xR ?_
 refine fl_alloc fun b8=>?_
 refine lN ?_
 refine R4 16 O ?_
 refine lZ z (c_fil_By (n:=m) (d:=1) (by omega) (by omega) (by omega) (by decide) (by decide) (by decide)) rfl rfl fun v12 z12 hz12 hv12=>?_
 have hv12:=qv_op hv12
 obtain ⟨c12,d12,hv,hm12,hn12⟩:=hv12
 subst hv
 refine lC rfl ?_
 refine lZ z12 (c_fil_By (n:=u) (d:=4) (by omega) (by omega) (by omega) (by decide) (by decide) (by decide)) rfl rfl fun v14 z14 _ hv14=>?_
 have hv14:=qv_op hv14
 obtain ⟨c14,d14,hv,hm14,hn14⟩:=hv14
 subst hv
 have hm14:=hm14.mono (zAq (hz12))
 have hn14:=hn14.mono (zAq (hz12))
 refine fl_bd (cs:=[Cs id,Ci yr,Ci 1,Ci 0,Cb (decide ((Rat.divInt m 1).num<0)),c12,Cb (decide (((Rat.divInt m 1).den:Int)<0)),d12,Cb (decide ((Rat.divInt u 4).num<0)),c14,Cb (decide (((Rat.divInt u 4).den:Int)<0)),d14]) (by kernel_rfl) ?_
 refine fl_stAll rfl rfl rfl rfl rep0 ?_
 refine lN ?_
 refine xT ?_
 refine rQ (.inl rfl) (rcAll rfl mem0 rfl rn) ?_
 exact ⟨_,rfl,_,_,_,_,rfl,hm12.m,hn12.m,(hm14.mono zd_le),(hn14.mono zd_le)⟩
theorem c_law22_sale {k:Nat} (hk:11≤k) {z:Mem} {id:ByteArray} {yr u:Int} (h3 : -9223372036854775808≤u) (h4:u<9223372036854775808):FC (E k) 70 [.c (Cs id),Ai yr,Ai u] z fun v z'=>∃ cs,v=.agg cs∧RSale z' cs (sK id yr u):=by
 refine fc_of (tS_get70) (by omega) (len1 rfl) fun B j hj=>?_
 refine xR ?_
 refine fl_alloc fun b6=>?_
 refine lN ?_
 refine R4 16 O ?_
 refine lZ z (c_fil_By (n:=u) (d:=5) (by omega) (by omega) (by omega) (by decide) (by decide) (by decide)) rfl rfl fun v10 z10 _ hv10=>?_
 have hv10:=qv_op hv10
 obtain ⟨c10,d10,hv,hm10,hn10⟩:=hv10
 subst hv
 refine fl_bd (cs:=[Cs id,Ci yr,Cb (decide ((Rat.divInt u 5).num<0)),c10,Cb (decide (((Rat.divInt u 5).den:Int)<0)),d10]) rfl ?_
 refine fl_stAll rfl rfl rfl rfl rep0 ?_
 refine lN ?_
 refine xT ?_
 refine rQ (.inl rfl) (rcAll rfl mem0 rfl rn) ?_
 exact ⟨_,rfl,_,_,rfl,(hm10.mono zd_le),(hn10.mono zd_le)⟩
open Go.CE Go.RowKit Go.Num
theorem b_neF {k:IntKind} {x y:Int} (h:x=y):binW .neq (.int k x) (.int k y)=some (.bool false):=by rw [b_neq,decide_eq_true h];rfl
theorem b_eqT {k:IntKind} {x y:Int} (h:x=y):binW .eql (.int k x) (.int k y)=some (.bool true):=by rw [b_eql,decide_eq_true h]
theorem sg_eq {p q:Rat} (h:p=q):(p.num * (q.den:Int) - q.num * (p.den:Int)).sign=0:=by subst h;rw [Int.sub_self];rfl
theorem right_pq (q:Rat):rightR (rRaw (pq q))=true:=right_cR q
theorem row_ok {z:Mem} {cs:List C} {tk rl:List Ent} {m y Y:Nat} (h:RLRow z cs ((rowE tk y m,rowE rl y m),if y<Y then some (bals tk rl m (y+1)) else none)) (hy:y<Y):∃ c d e f,cs=[c,d,Cb (decide ((bals tk rl m (y+1)).num<0)),e,Cb (decide (((bals tk rl m (y+1)).den:Int)<0)),f]∧CZ 4 RV z c (rowE tk y m)∧CZ 4 RV z d (rowE rl y m)∧CZ 1 RW z e (toL (bals tk rl m (y+1)).num.natAbs)∧CZ 1 RW z f (toL ((bals tk rl m (y+1)).den:Int).natAbs):=by
 rw [if_pos hy] at h
 obtain ⟨c,d,e,h1,h2,h3,e1,e2,h4,h5,h6⟩:=h
 subst h4
 exact ⟨c,d,e1,e2,h1,h2,h3,h5,h6⟩
def ms3:List (List Bool):=[[true,true],[true,true],[true,false]]
def gd0:PGood:=gK ⟨#[103]⟩ 0 30 2
def sG (yr u:Int):PSale:=sK ⟨#[103]⟩ yr u
theorem g0_mg:rv gd0.mg=30:=(rv_pq _).trans (by decide +kernel)
theorem g0_us:rv gd0.us=Rat.divInt 1 2:=(rv_pq _).trans (by decide +kernel)
theorem sg_v (yr u:Int):rv (sG yr u).sh=Rat.divInt u 5:=rv_pq _
theorem w_gB:goodB ms3 gd0=true:=by
 simp only [goodB,partB,Bool.and_eq_true,g0_mg,g0_us]
 exact ⟨⟨⟨⟨⟨by decide,by decide⟩,by decide⟩,right_pq _⟩,by decide +kernel⟩,⟨⟨right_pq _,by decide +kernel⟩,by decide +kernel⟩⟩
theorem w_R {S:List PSale} (h:∀ s,s∈S→partB s.sh=true):RightG ms3 0 [gd0] S:=
 ⟨by decide,by decide,by simp,fun g hg=>by rw [List.mem_singleton.1 hg];exact w_gB,h⟩
theorem sg_B {yr u:Int} (h:(decide ((0:Rat)≤Rat.divInt u 5) && decide (Rat.divInt u 5≤1))=true):partB (sG yr u).sh=true:=by
 simp only [partB,Bool.and_eq_true,sg_v] at h ⊢
 exact ⟨⟨right_pq _,h.1⟩,h.2⟩
theorem sO_1 {yr u:Int}:salesOf [sG yr u] gd0.id=[sG yr u]:=rfl
theorem w_S0:SoldG ms3 [gd0] []:=⟨fun s h=>(by cases h),fun s h=>(by cases h)⟩
theorem w_S1 : SoldG ms3 [gd0] [sG 1 1] := ⟨fun s h => by
  rw [List.mem_singleton.1 h];exact ⟨gd0,List.mem_singleton.2 rfl,rfl,by decide,by decide⟩,fun s h=>by
  rw [List.mem_singleton.1 h]
  show rv (sG 1 1).sh+0≤1
  rw [sg_v]
  decide +kernel⟩
theorem w_S2:¬ SoldG ms3 [gd0] [sG 0 1]:=fun h=>by
 obtain ⟨g,hg,_,h2,_⟩:=h.a (sG 0 1) (List.mem_singleton.2 rfl)
 rw [List.mem_singleton.1 hg] at h2
 exact absurd h2 (by decide)
theorem w_S3:¬ SoldG ms3 [gd0] [sG 1 5,sG 2 1]:=fun h=>by
 have:=h.b (sG 1 5) (by simp)
 have e:sumQ ((salesOf [sG 1 5,sG 2 1] (sG 1 5).id).map fun x=>rv x.sh)=rv (sG 1 5).sh+(rv (sG 2 1).sh+0):=rfl
 rw [e,sg_v,sg_v] at this
 exact absurd this (by decide +kernel)
theorem w_d:dfr ms3 gd0=15:=by
 rw [dfr,if_pos (by decide),g0_mg,g0_us];decide +kernel
theorem w_y:yrs ms3 gd0 (ms3.length - (gd0.yr.toNat+1)) (gd0.yr.toNat+1)=[1,2]:=by decide
theorem w_g0:goodR ms3 0 [] gd0=⟨0,0,15,[((2,0),15)]⟩:=by
 rw [goodR_g,w_y,gst,w_d]
 show stepY ms3 0 gd0 [] 15 (stepY ms3 0 gd0 [] 15 ⟨15,0,0,[]⟩ 1) 2=_
 rw [show stepY ms3 0 gd0 [] 15 ⟨15,0,0,[]⟩ 1=⟨15,0,0,[]⟩ from by rw [stepY,if_pos (by decide)];rfl,stepY,if_neg (by decide)]
 rfl
theorem w_g1:goodR ms3 0 [sG 1 1] gd0=⟨0,3,12,[((1,1),3),((2,0),12)]⟩:=by
 rw [goodR_g,w_y,gst,w_d,sO_1]
 show stepY ms3 0 gd0 [sG 1 1] 15 (stepY ms3 0 gd0 [sG 1 1] 15 ⟨15,0,0,[]⟩ 1) 2=_
 have e:stepY ms3 0 gd0 [sG 1 1] 15 ⟨15,0,0,[]⟩ 1=⟨12,3,0,[((1,1),3)]⟩:=by
  rw [stepY,if_pos (by decide)]
  show stepS gd0 15 1 ⟨15,0,0,[]⟩ (sG 1 1)=_
  rw [stepS,if_pos (by decide),sg_v,show (15:Rat) * Rat.divInt 1 5=3 by decide +kernel,show (15:Rat) - 3=12 by decide +kernel,show (0:Rat)+3=3 by decide +kernel]
  rfl
 rw [e,stepY,if_neg (by decide)]
 rfl
theorem w_t:takenL ms3 [gd0]=[((0,1),15)]:=by rw [← w_d];rfl
theorem w_r0:relL ms3 0 [gd0] []=[((2,0),15)]:=by
 rw [show relL ms3 0 [gd0] []=(goodR ms3 0 [] gd0).rel++[] from rfl,w_g0];rfl
theorem w_r1:relL ms3 0 [gd0] [sG 1 1]=[((1,1),3),((2,0),12)]:=by
 rw [show relL ms3 0 [gd0] [sG 1 1]=(goodR ms3 0 [sG 1 1] gd0).rel++[] from rfl,w_g1];rfl
theorem w_a:atE (takenL ms3 [gd0]) 0 1=15:=by rw [w_t];decide +kernel
theorem w_b:bals (takenL ms3 [gd0]) (relL ms3 0 [gd0] []) 2 2=15:=by rw [w_t,w_r0];decide +kernel
theorem w_c:atE (relL ms3 0 [gd0] []) 2 0=15:=by rw [w_r0];decide +kernel
theorem w_e:bals (takenL ms3 [gd0]) (relL ms3 0 [gd0] []) 2 3=0:=by rw [w_t,w_r0];decide +kernel
theorem w_f:atE (relL ms3 0 [gd0] [sG 1 1]) 1 1=3:=by rw [w_r1];decide +kernel
theorem w_h:atE (relL ms3 0 [gd0] [sG 1 1]) 2 0=12:=by rw [w_r1];decide +kernel
theorem w_ms:SmallP ms3 [gd0] []↔True:=by
 refine ⟨fun _=>trivial,fun _=>⟨by decide,by decide,by decide,fun g hg=>?_,by decide,fun x hx=>(by cases hx)⟩⟩
 rw [List.mem_singleton.1 hg]
 refine ⟨?_,?_,?_,?_⟩
 ·exact toL_len.2 (by decide +kernel)
 ·exact toL_len.2 (by decide +kernel)
 ·exact toL_len.2 (by decide +kernel)
 exact toL_len.2 (by decide +kernel)
theorem sg_S {yr u:Int} (h:(Rat.divInt u 5).num.natAbs<4294967296 ^ 3∧((Rat.divInt u 5).den:Int).natAbs<4294967296 ^ 3):(sG yr u).sh.nm.length≤3∧(sG yr u).sh.dm.length≤3:=⟨toL_len.2 h.1,toL_len.2 h.2⟩
theorem lq_z {q:Rat} {v:Int} (h:q=(v:Rat)) (h2:v.natAbs<4294967296):(toL q.num.natAbs).length≤9000000∧(toL (q.den:Int).natAbs).length≤9000000:=by
 subst h
 exact ⟨Nat.le_trans (m:=1) (toL_len.2 (by simpa using h2)) (by decide),Nat.le_trans (m:=1) (toL_len.2 (show (1:Nat)<_ by decide)) (by decide)⟩
open Go.CE Go.RowKit Go.Num
open Go.Eng (setL)
theorem ms3_sz {z:Mem} {b12 b13 b14 b15 t12 t13 t14 t15:Nat} (h1:z b12 (.cells t12 [Cb true,Cb true])) (h2:z b13 (.cells t13 [Cb true,Cb true])) (h3:z b14 (.cells t14 [Cb true,Cb false])) (h4:z b15 (.cells t15 [.sl b12 0 2 1,.sl b13 0 2 1,.sl b14 0 2 1])):SZ 1 (RC 1 (RE Value.bool)) z (Aw b15 3) ms3:=by
 have e:∀ {b ty:Nat} {l:List Bool},l.length=2→z b (.cells ty (cE Value.bool l))→RC 1 (RE Value.bool) z [.sl b 0 2 1] l:=fun hl h=>⟨_,rfl,cE_cl.sz hl (len1 rfl) h⟩
 exact CL.sz (l:=ms3) (show CL 1 (RC 1 (RE Value.bool)) z ([.sl b12 0 2 1]++([.sl b13 0 2 1]++[.sl b14 0 2 1])) ([[true,true]]++([[true,true]]++[[true,false]])) from (CL.one rfl (e rfl h1)).append ((CL.one rfl (e rfl h2)).append (CL.one rfl (e rfl h3)))) rfl (len1 rfl) h4
theorem sl2_sz {z:Mem} {b ty:Nat} {x y u v:C} (h:z b (.cells ty [Cs ⟨#[103]⟩,Ci 1,.v (.bool (sG 1 5).sh.n),x,.v (.bool (sG 1 5).sh.d),y,Cs ⟨#[103]⟩,Ci 2,.v (.bool (sG 2 1).sh.n),u,.v (.bool (sG 2 1).sh.d),v])) (h1:CZ 1 RW z x (sG 1 5).sh.nm) (h2:CZ 1 RW z y (sG 1 5).sh.dm) (h3:CZ 1 RW z u (sG 2 1).sh.nm) (h4:CZ 1 RW z v (sG 2 1).sh.dm):SZ 6 RSale z (.c (.sl b 0 2 6)) [sG 1 5,sG 2 1]:=
 CL.sz (l:=[sG 1 5,sG 2 1]) (show CL 6 RSale z ([Cs ⟨#[103]⟩,Ci 1,.v (.bool (sG 1 5).sh.n),x,.v (.bool (sG 1 5).sh.d),y]++[Cs ⟨#[103]⟩,Ci 2,.v (.bool (sG 2 1).sh.n),u,.v (.bool (sG 2 1).sh.d),v]) ([sG 1 5]++[sG 2 1]) from (CL.one (a:=sG 1 5) rfl ⟨x,y,rfl,h1,h2⟩).append (CL.one (a:=sG 2 1) rfl ⟨u,v,rfl,h3,h4⟩)) rfl (len1 rfl) h
theorem w_ss0:∀ x,x∈([]:List PSale)→x.sh.nm.length≤3∧x.sh.dm.length≤3:=fun x h=>by cases h
theorem w_sb0:∀ s,s∈([]:List PSale)→partB s.sh=true:=fun x h=>by cases h
theorem w_ss1 {yr u:Int} (h:(Rat.divInt u 5).num.natAbs<4294967296 ^ 3∧((Rat.divInt u 5).den:Int).natAbs<4294967296 ^ 3):∀ x,x∈[sG yr u]→x.sh.nm.length≤3∧x.sh.dm.length≤3:=fun x hx=>by rw [List.mem_singleton.1 hx];exact sg_S h
theorem w_sb1 {yr u:Int} (h:(decide ((0:Rat)≤Rat.divInt u 5) && decide (Rat.divInt u 5≤1))=true):∀ s,s∈[sG yr u]→partB s.sh=true:=fun x hx=>by rw [List.mem_singleton.1 hx];exact sg_B h
theorem w_ss2:∀ x,x∈[sG 1 5,sG 2 1]→x.sh.nm.length≤3∧x.sh.dm.length≤3:=fun x h=>by
 simp only [List.mem_cons,List.not_mem_nil,or_false] at h
 rcases h with rfl | rfl
 ·exact sg_S (by decide +kernel)
 exact sg_S (by decide +kernel)
theorem w_sb2:∀ s,s∈[sG 1 5,sG 2 1]→partB s.sh=true:=fun x h=>by
 simp only [List.mem_cons,List.not_mem_nil,or_false] at h
 rcases h with rfl | rfl
 ·exact sg_B (by decide +kernel)
 exact sg_B (by decide +kernel)
theorem c_law22_works {k:Nat} (hk:17≤k) {z:Mem}  : FC (E k) 25 [] z fun u _=>u=bool_ true:=by
 refine fc_of (tS_get25) (by omega) (len1 rfl) fun B j hj=>?_
 refine R4 8 O ?_
 refine fl_bslice (cs:=[Cb true,Cb true]) rfl fun b12=>?_
 refine fl_frzZ z (p:=[]) rfl rfl rfl (fun _ h=>h) fun zff12 hzff12 f12=>?_
 refine fl_bslice (cs:=[Cb true,Cb true]) rfl fun b13=>?_
 refine fl_frzZ zff12 (p:=[]) rfl rfl rfl (fun _ h=>h) fun zff13 hzff13 f13=>?_
 refine fl_bslice (cs:=[Cb true,Cb false]) rfl fun b14=>?_
 refine fl_frzZ zff13 (p:=[]) rfl rfl rfl (fun _ h=>h) fun zff14 hzff14 f14=>?_
 refine fl_bslice (cs:=[.sl b12 0 2 1,.sl b13 0 2 1,.sl b14 0 2 1]) rfl fun b15=>?_
 refine fl_frzZ zff14 (p:=[]) rfl rfl rfl (fun _ h=>h) fun zff15 hzff15 f15=>?_
 refine R2 4 O ?_
 refine lZ zff15 (c_law22_good (id:=⟨#[103]⟩) (yr:=0) (m:=30) (u:=2) (by omega) (by decide) (by decide) (by decide) (by decide)) rfl rfl fun v16 z16 hz16 ⟨cs16,hv16,u0,u1,u2,u3,hcs,g0,g1,g2,g3⟩=>?_
 subst hv16 hcs
 refine fl_bslice (cs:=[Cs ⟨#[103]⟩,Ci 0,Ci 1,Ci 0,Cb gd0.mg.n,u0,Cb gd0.mg.d,u1,Cb gd0.us.n,u2,Cb gd0.us.d,u3]) rfl fun b17=>?_
 refine fl_frzZ z16 (p:=[]) rfl rfl rfl (fun _ h=>h) fun zff17 hzff17 f17=>?_
 refine R2 68 O ?_
 refine lZ zff17 (c_profit_Run (ms:=ms3) (goods:=[gd0]) (sales:=[]) (pi:=0) (by omega) (ms3_sz (zI _ _ f12) (zI _ _ f13) (zI _ _ f14) (zI _ _ f15)) (CL.sz (R:=RGood) (l:=[gd0]) (CL.one (a:=gd0) rfl ⟨_,_,_,_,rfl,g0.m,g1.m,g2.m,g3.m⟩) rfl (len1 rfl) f17) .nil (by decide) (by decide) (by decide) (w_ms.2 trivial).gs (by decide) (w_ss0)) rfl rfl fun v21 z21 hz21 ⟨_,_,hok⟩=>?_
 obtain ⟨cR21,cI21,hv,hr21,hi21,_,_⟩:=hok (w_R w_sb0) w_S0
 subst hv
 refine R1 9 O ?_
 refine fl_al2 fun b4=>?_
 refine fl_st2 rfl rfl rep0 ?_
 refine R2 17 O ?_
 refine lZ z21 (c_law22_sale (id:=⟨#[103]⟩) (yr:=1) (u:=1) (by omega) (by decide) (by decide)) rfl rfl fun v27 z27 hz27 ⟨cs27,hv27,s27x,s27y,hcs,s27a,s27b⟩=>?_
 subst hv27 hcs
 refine fl_bslice (cs:=[Cs ⟨#[103]⟩,Ci 1,.v (.bool (sG 1 1).sh.n),s27x,.v (.bool (sG 1 1).sh.d),s27y]) rfl fun b28=>?_
 refine fl_frzZ z27 (p:=[]) rfl rfl rfl (fun _ h=>h) fun zff28 hzff28 f28=>?_
 refine lZ zff28 (c_profit_Run (ms:=ms3) (goods:=[gd0]) (sales:=[sG 1 1]) (pi:=0) (by omega) (ms3_sz (zI _ _ f12) (zI _ _ f13) (zI _ _ f14) (zI _ _ f15)) (CL.sz (R:=RGood) (l:=[gd0]) (CL.one (a:=gd0) rfl ⟨_,_,_,_,rfl,g0.m,g1.m,g2.m,g3.m⟩) rfl (len1 rfl) (zI _ _ f17)) (CL.sz (R:=RSale) (l:=[sG 1 1]) (CL.one (a:=sG 1 1) rfl ⟨_,_,rfl,s27a.m,s27b.m⟩) rfl (len1 rfl) f28) (by decide) (by decide) (by decide) (w_ms.2 trivial).gs (by decide) (w_ss1 (by decide +kernel))) rfl rfl fun v29 z29 hz29 ⟨_,_,hok⟩=>?_
 obtain ⟨cR29,cI29,hv,hr29,hi29,_,_⟩:=hok (w_R (w_sb1 (by decide +kernel))) w_S1
 subst hv
 refine R1 9 O ?_
 refine fl_al2 fun b6=>?_
 refine fl_st2 rfl rfl rep0 ?_
 refine R2 17 O ?_
 refine lZ z29 (c_law22_sale (id:=⟨#[103]⟩) (yr:=0) (u:=1) (by omega) (by decide) (by decide)) rfl rfl fun v35 z35 hz35 ⟨cs35,hv35,s35x,s35y,hcs,s35a,s35b⟩=>?_
 subst hv35 hcs
 refine fl_bslice (cs:=[Cs ⟨#[103]⟩,Ci 0,.v (.bool (sG 0 1).sh.n),s35x,.v (.bool (sG 0 1).sh.d),s35y]) rfl fun b36=>?_
 refine fl_frzZ z35 (p:=[]) rfl rfl rfl (fun _ h=>h) fun zff36 hzff36 f36=>?_
 refine lZ zff36 (c_profit_Run (ms:=ms3) (goods:=[gd0]) (sales:=[sG 0 1]) (pi:=0) (by omega) (ms3_sz (zI _ _ f12) (zI _ _ f13) (zI _ _ f14) (zI _ _ f15)) (CL.sz (R:=RGood) (l:=[gd0]) (CL.one (a:=gd0) rfl ⟨_,_,_,_,rfl,g0.m,g1.m,g2.m,g3.m⟩) rfl (len1 rfl) (zI _ _ f17)) (CL.sz (R:=RSale) (l:=[sG 0 1]) (CL.one (a:=sG 0 1) rfl ⟨_,_,rfl,s35a.m,s35b.m⟩) rfl (len1 rfl) f36) (by decide) (by decide) (by decide) (w_ms.2 trivial).gs (by decide) (w_ss1 (by decide +kernel))) rfl rfl fun v37 z37 hz37 ⟨_,hno,_⟩=>?_
 have hv:=hno (w_R (w_sb1 (by decide +kernel))) w_S2
 subst hv
 refine R1 9 O ?_
 refine fl_al2 fun b8=>?_
 refine fl_st2 rfl rfl rep0 ?_
 refine R2 17 O ?_
 refine lZ z37 (c_law22_sale (id:=⟨#[103]⟩) (yr:=1) (u:=5) (by omega) (by decide) (by decide)) rfl rfl fun v43 z43 hz43 ⟨cs43,hv43,s43x,s43y,hcs,s43a,s43b⟩=>?_
 subst hv43 hcs
 refine lZ z43 (c_law22_sale (id:=⟨#[103]⟩) (yr:=2) (u:=1) (by omega) (by decide) (by decide)) rfl rfl fun v44 z44 hz44 ⟨cs44,hv44,s44x,s44y,hcs,s44a,s44b⟩=>?_
 subst hv44 hcs
 refine fl_bslice (cs:=[Cs ⟨#[103]⟩,Ci 1,.v (.bool (sG 1 5).sh.n),s43x,.v (.bool (sG 1 5).sh.d),s43y,Cs ⟨#[103]⟩,Ci 2,.v (.bool (sG 2 1).sh.n),s44x,.v (.bool (sG 2 1).sh.d),s44y]) rfl fun b45=>?_
 refine fl_frzZ z44 (p:=[]) rfl rfl rfl (fun _ h=>h) fun zff45 hzff45 f45=>?_
 refine lZ zff45 (c_profit_Run (ms:=ms3) (goods:=[gd0]) (sales:=[sG 1 5,sG 2 1]) (pi:=0) (by omega) (ms3_sz (zI _ _ f12) (zI _ _ f13) (zI _ _ f14) (zI _ _ f15)) (CL.sz (R:=RGood) (l:=[gd0]) (CL.one (a:=gd0) rfl ⟨_,_,_,_,rfl,g0.m,g1.m,g2.m,g3.m⟩) rfl (len1 rfl) (zI _ _ f17)) (sl2_sz f45 s43a.m s43b.m s44a.m s44b.m) (by decide) (by decide) (by decide) (w_ms.2 trivial).gs (by decide) (w_ss2)) rfl rfl fun v46 z46 hz46 ⟨_,hno,_⟩=>?_
 have hv:=hno (w_R w_sb2) w_S3
 subst hv
 refine R1 9 O ?_
 refine fl_al2 fun b10=>?_
 refine fl_st2 rfl rfl rep0 ?_
 refine R2 25 O ?_
 refine lB rfl rfl (b_neF (rfl)) ?_
 refine R1 6 O ?_
 refine lD rfl ?_
 refine lB rfl rfl (b_neF (rfl)) ?_
 refine R1 14 O ?_
 refine lD rfl ?_
 refine lB rfl rfl (b_neF (rfl)) ?_
 refine R1 14 O ?_
 refine lD rfl ?_
 refine lB rfl rfl (b_neF (rfl)) ?_
 refine R1 10 O ?_
 refine lD rfl ?_
 refine fl_ld1 rfl Y3 rfl ?_
 refine lD rfl ?_
 refine fl_lenS rfl hr21 ?_
 refine lD rfl ?_
 refine lB rfl rfl (b_neF (by rw [rowsK_len];rfl)) ?_
 refine R1 10 O ?_
 refine lD rfl ?_
 refine fl_ld1 rfl Y2 rfl ?_
 refine lD rfl ?_
 refine fl_lenS rfl hr29 ?_
 refine lD rfl ?_
 refine lB rfl rfl (b_neF (by rw [rowsK_len];rfl)) ?_
 refine R1 10 O ?_
 refine lD rfl ?_
 refine fl_ld1 rfl Y3 rfl ?_
 refine lD rfl ?_
 refine fl_iadS (zz:=z46) rfl rfl hr21.m 2 rfl _ (rowsK_get (by decide)) fun b78 p78 cs at78 hR=>?_
 have hx:=row_ok hR (by decide)
 obtain ⟨t78,r78,e78,f78,hcs,qt78,qr78,qe78,qf78⟩:=hx
 subst hcs
 refine lD rfl ?_
 refine lF rfl ?_
 refine lD rfl ?_
 refine fl_ldA (off:=1) rfl at78 rfl (by simp) rfl ?_
 refine lD rfl ?_
 refine fl_lenS rfl qr78 ?_
 refine lD rfl ?_
 refine lB rfl rfl (b_neF (by rw [rowE_len];rfl)) ?_
 refine R1 10 O ?_
 refine lD rfl ?_
 refine fl_ld1 rfl Y3 rfl ?_
 refine lD rfl ?_
 refine fl_iadS (zz:=z46) rfl rfl hr21.m 0 rfl _ (rowsK_get (by decide)) fun b87 p87 cs at87 hR=>?_
 have hx:=row_ok hR (by decide)
 obtain ⟨t87,r87,e87,f87,hcs,qt87,qr87,qe87,qf87⟩:=hx
 subst hcs
 refine lD rfl ?_
 refine lF rfl ?_
 refine lD rfl ?_
 refine fl_ldA (off:=0) rfl at87 rfl (by simp) rfl ?_
 refine lD rfl ?_
 refine fl_lenS rfl qt87 ?_
 refine lD rfl ?_
 refine lB rfl rfl (b_neF (by rw [rowE_len];rfl)) ?_
 refine R1 10 O ?_
 refine lD rfl ?_
 refine fl_ld1 rfl Y2 rfl ?_
 refine lD rfl ?_
 refine fl_iadS (zz:=z46) rfl rfl hr29.m 1 rfl _ (rowsK_get (by decide)) fun b96 p96 cs at96 hR=>?_
 have hx:=row_ok hR (by decide)
 obtain ⟨t96,r96,e96,f96,hcs,qt96,qr96,qe96,qf96⟩:=hx
 subst hcs
 refine lD rfl ?_
 refine lF rfl ?_
 refine lD rfl ?_
 refine fl_ldA (off:=1) rfl at96 rfl (by simp) rfl ?_
 refine lD rfl ?_
 refine fl_lenS rfl qr96 ?_
 refine lD rfl ?_
 refine lB rfl rfl (b_neF (by rw [rowE_len];rfl)) ?_
 refine R1 10 O ?_
 refine lD rfl ?_
 refine fl_ld1 rfl Y2 rfl ?_
 refine lD rfl ?_
 refine fl_iadS (zz:=z46) rfl rfl hr29.m 2 rfl _ (rowsK_get (by decide)) fun b105 p105 cs at105 hR=>?_
 have hx:=row_ok hR (by decide)
 obtain ⟨t105,r105,e105,f105,hcs,qt105,qr105,qe105,qf105⟩:=hx
 subst hcs
 refine lD rfl ?_
 refine lF rfl ?_
 refine lD rfl ?_
 refine fl_ldA (off:=1) rfl at105 rfl (by simp) rfl ?_
 refine lD rfl ?_
 refine fl_lenS rfl qr105 ?_
 refine lD rfl ?_
 refine lB rfl rfl (b_neF (by rw [rowE_len];rfl)) ?_
 refine R3 16 O ?_
 refine fx_drwS ?_
 refine G1 2 O ?_
 refine gl1 O O (.inr Y3) O ?_
 refine gP rfl rfl trivial ?_
 refine fl_iadS rfl rfl hr21 0 rfl _ (rowsK_get (by decide)) fun b113 p113 cs at113 hR=>lN ?_
 have hx:=row_ok hR (by decide)
 obtain ⟨t113,r113,e113,f113,hcs,qt113,qr113,qe113,qf113⟩:=hx
 subst hcs
 refine G1 2 O ?_
 refine fg_ldA (i:=⟨_,_,.load _ _ _⟩) (off:=0) rfl rfl trivial rfl at113 ti rfl (by simp) rfl sR ?_
 refine gP rfl rfl trivial ?_
 refine fl_iadS rfl rfl qt113 1 rfl _ (rowE_get (by decide)) fun b116 p116 cs at116 hR=>lN ?_
 obtain ⟨x116,y116,hcs,qx116,qy116⟩:=hR
 subst hcs
 refine fg_ldA (i:=⟨_,_,.load _ _ _⟩) (off:=0) rfl rfl trivial rfl at116 ti rfl (by simp) rfl sR ?_
 refine G1 3 O ?_
 refine fg_callvZ z46 (i:=⟨_,_,.callv _ _⟩) rfl (c_fil_By (n:=15) (d:=1) (by omega) (by decide) (by decide) (by decide) (by decide) (by decide)) rfl rfl trivial rfl rfl rfl rfl fun v119 z119 hz119 hv119=>?_
 have hv119:=qv_op hv119
 obtain ⟨c119,d119,hv,hm119,hn119⟩:=hv119
 subst hv
 have hm119:=hm119.mono (zAq (hzff12.trans (hzff13.trans (hzff14.trans (hzff15.trans (hz16.trans (hzff17.trans (hz21.trans (hz27.trans (hzff28.trans (hz29.trans (hz35.trans (hzff36.trans (hz37.trans (hz43.trans (hz44.trans (hzff45.trans hz46)))))))))))))))))
 have hn119:=hn119.mono (zAq (hzff12.trans (hzff13.trans (hzff14.trans (hzff15.trans (hz16.trans (hzff17.trans (hz21.trans (hz27.trans (hzff28.trans (hz29.trans (hz35.trans (hzff36.trans (hz37.trans (hz43.trans (hz44.trans (hzff45.trans hz46)))))))))))))))))
 refine gC z119 (c_rat_Cmp (by omega) qx116.m qy116.m (lq_z (w_a) (by decide)).1 (lq_z (w_a) (by decide)).2 (hm119.mono zd_le) (hn119.mono zd_le) (lq_z (v:=15) (by decide +kernel) (by decide)).1 (lq_z (v:=15) (by decide +kernel) (by decide)).2) O O O O fun v120 z120 hz120 hv120=>?_
 simp only [valR_c] at hv120
 subst hv120
 refine gP rfl rfl trivial ?_
 refine lB rfl rfl (b_eqT (sg_eq ((w_a).trans (show ((15:Int):Rat)=Rat.divInt 15 1 by decide +kernel)))) (lN ?_)
 refine G1 4 O ?_
 refine gl1 O O (.inr Y3) O ?_
 refine gP rfl rfl rfl ?_
 refine fl_iadS rfl rfl hr21 1 rfl _ (rowsK_get (by decide)) fun b125 p125 cs at125 hR=>lN ?_
 have hx:=row_ok hR (by decide)
 obtain ⟨t125,r125,e125,f125,hcs,qt125,qr125,qe125,qf125⟩:=hx
 subst hcs
 refine G1 2 O ?_
 refine fg_ldA (i:=⟨_,_,.load _ _ _⟩) (off:=2) rfl rfl rfl rfl at125 ti rfl (by simp) rfl sR ?_
 refine G1 3 O ?_
 refine fg_callvZ z120 (i:=⟨_,_,.callv _ _⟩) rfl (c_fil_By (n:=15) (d:=1) (by omega) (by decide) (by decide) (by decide) (by decide) (by decide)) rfl rfl rfl rfl rfl rfl rfl fun v129 z129 hz129 hv129=>?_
 have hv129:=qv_op hv129
 obtain ⟨c129,d129,hv,hm129,hn129⟩:=hv129
 subst hv
 have hm129:=hm129.mono (zAq (hzff12.trans (hzff13.trans (hzff14.trans (hzff15.trans (hz16.trans (hzff17.trans (hz21.trans (hz27.trans (hzff28.trans (hz29.trans (hz35.trans (hzff36.trans (hz37.trans (hz43.trans (hz44.trans (hzff45.trans (hz46.trans (hz119.trans hz120)))))))))))))))))))
 have hn129:=hn129.mono (zAq (hzff12.trans (hzff13.trans (hzff14.trans (hzff15.trans (hz16.trans (hzff17.trans (hz21.trans (hz27.trans (hzff28.trans (hz29.trans (hz35.trans (hzff36.trans (hz37.trans (hz43.trans (hz44.trans (hzff45.trans (hz46.trans (hz119.trans hz120)))))))))))))))))))
 refine gC z129 (c_rat_Cmp (by omega) qe125.m qf125.m (lq_z (w_b) (by decide)).1 (lq_z (w_b) (by decide)).2 (hm129.mono zd_le) (hn129.mono zd_le) (lq_z (v:=15) (by decide +kernel) (by decide)).1 (lq_z (v:=15) (by decide +kernel) (by decide)).2) O O O O fun v130 z130 hz130 hv130=>?_
 simp only [valR_c] at hv130
 subst hv130
 refine gP rfl rfl rfl ?_
 refine lB rfl rfl (b_eqT (sg_eq ((w_b).trans (show ((15:Int):Rat)=Rat.divInt 15 1 by decide +kernel)))) (lN ?_)
 refine G1 10 O ?_
 refine gl1 O O (.inr Y3) O ?_
 refine gP rfl rfl rfl ?_
 refine fl_iadS rfl rfl hr21 2 rfl _ (rowsK_get (by decide)) fun b136 p136 cs at136 hR=>lN ?_
 have hx:=row_ok hR (by decide)
 obtain ⟨t136,r136,e136,f136,hcs,qt136,qr136,qe136,qf136⟩:=hx
 subst hcs
 refine G1 2 O ?_
 refine fg_ldA (i:=⟨_,_,.load _ _ _⟩) (off:=1) rfl rfl rfl rfl at136 ti rfl (by simp) rfl sR ?_
 refine gP rfl rfl rfl ?_
 refine fl_iadS rfl rfl qr136 0 rfl _ (rowE_get (by decide)) fun b139 p139 cs at139 hR=>lN ?_
 obtain ⟨x139,y139,hcs,qx139,qy139⟩:=hR
 subst hcs
 refine fg_ldA (i:=⟨_,_,.load _ _ _⟩) (off:=0) rfl rfl rfl rfl at139 ti rfl (by simp) rfl sR ?_
 refine G1 3 O ?_
 refine fg_callvZ z130 (i:=⟨_,_,.callv _ _⟩) rfl (c_fil_By (n:=15) (d:=1) (by omega) (by decide) (by decide) (by decide) (by decide) (by decide)) rfl rfl rfl rfl rfl rfl rfl fun v142 z142 hz142 hv142=>?_
 have hv142:=qv_op hv142
 obtain ⟨c142,d142,hv,hm142,hn142⟩:=hv142
 subst hv
 have hm142:=hm142.mono (zAq (hzff12.trans (hzff13.trans (hzff14.trans (hzff15.trans (hz16.trans (hzff17.trans (hz21.trans (hz27.trans (hzff28.trans (hz29.trans (hz35.trans (hzff36.trans (hz37.trans (hz43.trans (hz44.trans (hzff45.trans (hz46.trans (hz119.trans (hz120.trans (hz129.trans hz130)))))))))))))))))))))
 have hn142:=hn142.mono (zAq (hzff12.trans (hzff13.trans (hzff14.trans (hzff15.trans (hz16.trans (hzff17.trans (hz21.trans (hz27.trans (hzff28.trans (hz29.trans (hz35.trans (hzff36.trans (hz37.trans (hz43.trans (hz44.trans (hzff45.trans (hz46.trans (hz119.trans (hz120.trans (hz129.trans hz130)))))))))))))))))))))
 refine gC z142 (c_rat_Cmp (by omega) qx139.m qy139.m (lq_z (w_c) (by decide)).1 (lq_z (w_c) (by decide)).2 (hm142.mono zd_le) (hn142.mono zd_le) (lq_z (v:=15) (by decide +kernel) (by decide)).1 (lq_z (v:=15) (by decide +kernel) (by decide)).2) O O O O fun v143 z143 hz143 hv143=>?_
 simp only [valR_c] at hv143
 subst hv143
 refine gP rfl rfl rfl ?_
 refine lB rfl rfl (b_eqT (sg_eq ((w_c).trans (show ((15:Int):Rat)=Rat.divInt 15 1 by decide +kernel)))) (lN ?_)
 refine G1 10 O ?_
 refine gl1 O O (.inr Y3) O ?_
 refine gP rfl rfl rfl ?_
 refine fl_iadS rfl rfl hr21 2 rfl _ (rowsK_get (by decide)) fun b149 p149 cs at149 hR=>lN ?_
 have hx:=row_ok hR (by decide)
 obtain ⟨t149,r149,e149,f149,hcs,qt149,qr149,qe149,qf149⟩:=hx
 subst hcs
 refine G1 2 O ?_
 refine fg_ldA (i:=⟨_,_,.load _ _ _⟩) (off:=2) rfl rfl rfl rfl at149 ti rfl (by simp) rfl sR ?_
 refine gC z143 (c_rat_Sign (by omega) qe149.m qf149.m (Nat.le_trans (lq_z (v:=0) w_e (by decide)).1 (by decide)) (Nat.le_trans (lq_z (v:=0) w_e (by decide)).2 (by decide))) O O O O fun v152 z152 hz152 hv152=>?_
 simp only [valR_c] at hv152
 subst hv152
 refine gP rfl rfl rfl ?_
 refine lB rfl rfl (b_eqT (congrArg (fun q:Rat=>q.num.sign) w_e)) (lN ?_)
 refine G1 10 O ?_
 refine gl1 O O (.inr Y2) O ?_
 refine gP rfl rfl rfl ?_
 refine fl_iadS rfl rfl hr29 1 rfl _ (rowsK_get (by decide)) fun b158 p158 cs at158 hR=>lN ?_
 have hx:=row_ok hR (by decide)
 obtain ⟨t158,r158,e158,f158,hcs,qt158,qr158,qe158,qf158⟩:=hx
 subst hcs
 refine G1 2 O ?_
 refine fg_ldA (i:=⟨_,_,.load _ _ _⟩) (off:=1) rfl rfl rfl rfl at158 ti rfl (by simp) rfl sR ?_
 refine gP rfl rfl rfl ?_
 refine fl_iadS rfl rfl qr158 1 rfl _ (rowE_get (by decide)) fun b161 p161 cs at161 hR=>lN ?_
 obtain ⟨x161,y161,hcs,qx161,qy161⟩:=hR
 subst hcs
 refine fg_ldA (i:=⟨_,_,.load _ _ _⟩) (off:=0) rfl rfl rfl rfl at161 ti rfl (by simp) rfl sR ?_
 refine G1 3 O ?_
 refine fg_callvZ z152 (i:=⟨_,_,.callv _ _⟩) rfl (c_fil_By (n:=3) (d:=1) (by omega) (by decide) (by decide) (by decide) (by decide) (by decide)) rfl rfl rfl rfl rfl rfl rfl fun v164 z164 hz164 hv164=>?_
 have hv164:=qv_op hv164
 obtain ⟨c164,d164,hv,hm164,hn164⟩:=hv164
 subst hv
 have hm164:=hm164.mono (zAq (hzff12.trans (hzff13.trans (hzff14.trans (hzff15.trans (hz16.trans (hzff17.trans (hz21.trans (hz27.trans (hzff28.trans (hz29.trans (hz35.trans (hzff36.trans (hz37.trans (hz43.trans (hz44.trans (hzff45.trans (hz46.trans (hz119.trans (hz120.trans (hz129.trans (hz130.trans (hz142.trans (hz143.trans hz152))))))))))))))))))))))))
 have hn164:=hn164.mono (zAq (hzff12.trans (hzff13.trans (hzff14.trans (hzff15.trans (hz16.trans (hzff17.trans (hz21.trans (hz27.trans (hzff28.trans (hz29.trans (hz35.trans (hzff36.trans (hz37.trans (hz43.trans (hz44.trans (hzff45.trans (hz46.trans (hz119.trans (hz120.trans (hz129.trans (hz130.trans (hz142.trans (hz143.trans hz152))))))))))))))))))))))))
 refine gC z164 (c_rat_Cmp (by omega) qx161.m qy161.m (lq_z (w_f) (by decide)).1 (lq_z (w_f) (by decide)).2 (hm164.mono zd_le) (hn164.mono zd_le) (lq_z (v:=3) (by decide +kernel) (by decide)).1 (lq_z (v:=3) (by decide +kernel) (by decide)).2) O O O O fun v165 z165 hz165 hv165=>?_
 simp only [valR_c] at hv165
 subst hv165
 refine gP rfl rfl rfl ?_
 refine lB rfl rfl (b_eqT (sg_eq ((w_f).trans (show ((3:Int):Rat)=Rat.divInt 3 1 by decide +kernel)))) (lN ?_)
 refine G1 10 O ?_
 refine gl1 O O (.inr Y2) O ?_
 refine gP rfl rfl rfl ?_
 refine fl_iadS rfl rfl hr29 2 rfl _ (rowsK_get (by decide)) fun b171 p171 cs at171 hR=>lN ?_
 have hx:=row_ok hR (by decide)
 obtain ⟨t171,r171,e171,f171,hcs,qt171,qr171,qe171,qf171⟩:=hx
 subst hcs
 refine G1 2 O ?_
 refine fg_ldA (i:=⟨_,_,.load _ _ _⟩) (off:=1) rfl rfl rfl rfl at171 ti rfl (by simp) rfl sR ?_
 refine gP rfl rfl rfl ?_
 refine fl_iadS rfl rfl qr171 0 rfl _ (rowE_get (by decide)) fun b174 p174 cs at174 hR=>lN ?_
 obtain ⟨x174,y174,hcs,qx174,qy174⟩:=hR
 subst hcs
 refine fg_ldA (i:=⟨_,_,.load _ _ _⟩) (off:=0) rfl rfl rfl rfl at174 ti rfl (by simp) rfl sR ?_
 refine G1 3 O ?_
 refine fg_callvZ z165 (i:=⟨_,_,.callv _ _⟩) rfl (c_fil_By (n:=12) (d:=1) (by omega) (by decide) (by decide) (by decide) (by decide) (by decide)) rfl rfl rfl rfl rfl rfl rfl fun v177 z177 _ hv177=>?_
 have hv177:=qv_op hv177
 obtain ⟨c177,d177,hv,hm177,hn177⟩:=hv177
 subst hv
 have hm177:=hm177.mono (zAq (hzff12.trans (hzff13.trans (hzff14.trans (hzff15.trans (hz16.trans (hzff17.trans (hz21.trans (hz27.trans (hzff28.trans (hz29.trans (hz35.trans (hzff36.trans (hz37.trans (hz43.trans (hz44.trans (hzff45.trans (hz46.trans (hz119.trans (hz120.trans (hz129.trans (hz130.trans (hz142.trans (hz143.trans (hz152.trans (hz164.trans hz165))))))))))))))))))))))))))
 have hn177:=hn177.mono (zAq (hzff12.trans (hzff13.trans (hzff14.trans (hzff15.trans (hz16.trans (hzff17.trans (hz21.trans (hz27.trans (hzff28.trans (hz29.trans (hz35.trans (hzff36.trans (hz37.trans (hz43.trans (hz44.trans (hzff45.trans (hz46.trans (hz119.trans (hz120.trans (hz129.trans (hz130.trans (hz142.trans (hz143.trans (hz152.trans (hz164.trans hz165))))))))))))))))))))))))))
 refine gC z177 (c_rat_Cmp (by omega) qx174.m qy174.m (lq_z (w_h) (by decide)).1 (lq_z (w_h) (by decide)).2 (hm177.mono zd_le) (hn177.mono zd_le) (lq_z (v:=12) (by decide +kernel) (by decide)).1 (lq_z (v:=12) (by decide +kernel) (by decide)).2) O O O O fun v178 z178 _ hv178=>?_
 simp only [valR_c] at hv178
 subst hv178
 refine gP rfl rfl rfl ?_
 refine lB rfl rfl (b_eqT (sg_eq ((w_h).trans (show ((12:Int):Rat)=Rat.divInt 12 1 by decide +kernel)))) (lN ?_)
 refine G0 6 O ?_
 refine xT ?_
 refine rI O ?_
 rfl
end Go.Proofs.YtlceligcgelbdaaGreat
