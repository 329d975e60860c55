/- Pairs' entries: a range over a function; the law, walked. -/
import Derived.WalkKit
import Derived.Orders
import Derived.Test.YtlceligcgelbdaaGreatNF4
set_option linter.unusedVariables false
set_option linter.unusedSimpArgs false
set_option maxRecDepth 100000
set_option maxHeartbeats 1000000
namespace Go.Proofs.YtlceligcgelbdaaGreat
open Go.CE Go.RowKit Go.Num
open Go.Eng (setL)
theorem fg_yld {call:Call'} {B:Base} {an:List Nat} {j:Nat} {l:List CE.D} {fs:Sf} {T:Mem} {tag last:Nat} {pj lj:List Nat} {Q:Sf→Prop} (z0:Mem) {i:I} {d b:Nat} {t:Go.Eng.Od} {args:List Go.Eng.Od} {vs:List AV} {af:List Nat} {Hs Hr:List HA} {Post:Mem→List HA→Prop} (hc:FCt call (1000000+b) vs z0 Hs (YPost Post)) (hi:i.o=.callv t args) (ht:fs.ev t=.c (.yl b)) (hd:i.d=some d) (hg:GK fs i) (hbits:Nat.beq (an.getD j 0 ||| last) (an.getD j 0)=true) (hpj:(pj.all fun q=>(an.getD j 0).testBit q)=true)
  (ha:args.map fs.ev=vs) (hz0:fs.z=z0) (hzT:∀ b k,T b k→z0 b k) (e:fs.H=Hs++Hr) (hw:∀ z' H',zle z0 z'→Post z' H'→FG call B an (j+1) l (fs.res d (Ab true) z' (H'++Hr)) T (j+1) (an.getD j 0 ||| (1 <<< j)) [] lj Q):FG call B an j (⟨i,af⟩::l) fs T tag last pj lj Q:=by
 subst hz0
 exact fd_yld (D:=⟨fs,T,tag,last,pj,lj⟩) hi hd hg hbits hpj ht ha hzT e hc hw
theorem c_elim_sides {k:Nat} (hk:12≤k) {z:Mem} {id:ByteArray} {kd py pr inn ou:Int} {n1 n2:Bool} {c1 c2:C}:FC (E k) 126 [.agg [Cs id,Cu kd,Ci py,Ci pr,Ci inn,Ci ou,Cb n1,c1,Cb n2,c2]] z fun v z'=>∃ b,v=.c (.fn 209 [] [(false,[.ptr b 0])])∧z' b (.cells 116 [Cs id,Cu kd,Ci py,Ci pr,Ci inn,Ci ou,Cb n1,c1,Cb n2,c2]):=by
 refine fc_of (tS_get126) (by omega) (len1 rfl) fun B j hj=>?_
 refine xR ?_
 refine fl_bx rfl fun b1=>?_
 refine R2 4 O ?_
 refine fl_mkf rfl rfl ?_
 refine fl_frzZ z (p:=[]) rfl rfl rfl (fun _ h=>h) fun zff1 _ f1=>?_
 refine R0 3 O ?_
 refine xT ?_
 exact rI O ⟨_,rfl,f1⟩
theorem c_sides_body {k:Nat} (hk:11≤k) {call':Call'} (hA:Agr (E k) call') {b pb:Nat} {id:ByteArray} {kd py pr inn ou:Int} {n1 n2:Bool} {c1 c2:C} {l1 l2:List UInt32} {z:Mem} {H:List HA} (hp:At z pb 0 [Cs id,Cu kd,Ci py,Ci pr,Ci inn,Ci ou,Cb n1,c1,Cb n2,c2]) (hx:CZ 1 RW z c1 l1) (hy:CZ 1 RW z c2 l2) (h1:l1.length≤9000000) (h2:l2.length≤9000000)
  {J:List (Int×Int)→Mem→List HA→Prop} (hJ:∀ L z z' H,zle z z'→J L z H→J L z' H) {L:List (Int×Int)} (hY:∀ L1 (e:Int×Int) z' H' c d,L1.length≤L.length+1→J L1 z' H'→zle z z'→CZ 1 RW z' c (toL (-(Num.valR ((n1,l1),(n2,l2)))).num.natAbs)→CZ 1 RW z' d (toL ((-(Num.valR ((n1,l1),(n2,l2)))).den:Int).natAbs)→FCt call' (1000000+b) [.agg [Ci e.1,Ci e.2,Cb (decide (((-(Num.valR ((n1,l1),(n2,l2)))):Rat).num<0)),c,Cb (decide (((((-(Num.valR ((n1,l1),(n2,l2)))):Rat).den:Nat):Int)<0)),d]] z' H' (YPost (J (L1++[e])))) (h0:J L z H) :
  FCt (bodyC call' K0 ge209.e.x) 0 [.c (.yl b),Ap pb] z H fun _ z' H'=>J (L++[(py,inn)]++[(pr,ou)]) z' H':=by
 refine body_fct fun B=>?_
 refine fx_drawZS ?_
 refine G1 5 O ?_
 refine fg_ldA (i:=⟨_,_,.load _ _ _⟩) (off:=2) rfl rfl trivial rfl hp.m (fun _ _ h=>h) rfl (by simp) rfl sR ?_
 refine G1 2 O ?_
 refine fg_ldA (i:=⟨_,_,.load _ _ _⟩) (off:=4) rfl rfl trivial rfl hp.m (fun _ _ h=>h) rfl (by simp) rfl sR ?_
 refine G1 2 O ?_
 refine fg_ldA (i:=⟨_,_,.load _ _ _⟩) (off:=6) rfl rfl trivial rfl hp.m (fun _ _ h=>h) rfl (by simp) rfl sR ?_
 refine gC z (FC.agr hA (c_rat_Neg (by omega) hx.m hy.m h1 h2)) O O O O fun v3 z1 hz1 hv3=>?_
 have hv3:=qv_op hv3
 obtain ⟨c3,d3,hv,hm3,hn3⟩:=hv3
 subst hv
 refine gP rfl rfl trivial ?_
 refine fl_bd (cs:=[_,_,_,_,_,_]) rfl (lN ?_)
 have hy3:=hY L (py,inn) z1 H c3 d3 (by simp) (hJ _ _ _ _ zI h0) zI (hm3.mono zd_le) (hn3.mono zd_le)
 refine fg_yld z1 (i:=⟨_,_,.callv _ _⟩) (Hr:=[]) hy3 rfl rfl rfl trivial rfl rfl rfl rfl (fun _ _ h=>zI _ _ h) (List.append_nil _).symm fun z2 H3 hz2 hJ3=>?_
 refine fg_nil ?_
 refine fx_condT rfl ?_
 rw [List.append_nil]
 refine fx_drawZ ?_
 refine G1 5 O ?_
 refine fg_ldA (i:=⟨_,_,.load _ _ _⟩) (off:=3) rfl rfl trivial rfl (hp.mono (hz1.trans hz2)) (fun _ _ h=>h) rfl (by simp) rfl sR ?_
 refine G1 2 O ?_
 refine fg_ldA (i:=⟨_,_,.load _ _ _⟩) (off:=5) rfl rfl trivial rfl (hp.mono (hz1.trans hz2)) (fun _ _ h=>h) rfl (by simp) rfl sR ?_
 refine G1 2 O ?_
 refine fg_ldA (i:=⟨_,_,.load _ _ _⟩) (off:=6) rfl rfl trivial rfl (hp.mono (hz1.trans hz2)) (fun _ _ h=>h) rfl (by simp) rfl sR ?_
 refine gC z2 (FC.agr hA (c_rat_Neg (by omega) (hx.mono (hz1.trans hz2)) (hy.mono (hz1.trans hz2)) h1 h2)) O O O O fun v13 z3 _ hv13=>?_
 have hv13:=qv_op hv13
 obtain ⟨c13,d13,hv,hm13,hn13⟩:=hv13
 subst hv
 refine gP rfl rfl trivial ?_
 refine fl_bd (cs:=[_,_,_,_,_,_]) rfl (lN ?_)
 have hy13:=hY (L++[(py,inn)]) (pr,ou) z3 H3 c13 d13 (by simp) (hJ _ _ _ _ zI hJ3) (((hz1.trans hz2).trans zI)) (hm13.mono zd_le) (hn13.mono zd_le)
 refine fg_yld z3 (i:=⟨_,_,.callv _ _⟩) (Hr:=[]) hy13 rfl rfl rfl trivial rfl rfl rfl rfl (fun _ _ h=>zI _ _ h) (List.append_nil _).symm fun z4 H13 _ hJ13=>?_
 refine fg_nil ?_
 exact ⟨.inr rfl,[],H13,rn,by rw [List.append_nil];exact List.Sublist.refl _,hJ13⟩
open Go.CE Go.RowKit Go.Num
open Go.Eng (setL)
def isB (e:Int) (l:List Bool):Bool:=decide (0≤e) && l.getD e.toNat false
theorem isB_t {e:Int} {l:List Bool} (h1:0≤e) (h2:e.toNat<l.length):isB e l=l[e.toNat]:=by simp [isB,h1,h2]
theorem isB_g {e:Int} {l:List Bool} (h:(l.length:Int)≤e):isB e l=false:=by
 have h2:l.length≤e.toNat:=by omega
 simp [isB,h2]
theorem isB_f {e:Int} {l:List Bool} (h:e<0):isB e l=false:=by
 have h2:¬ 0≤e:=by omega
 simp [isB,h2]
theorem at1 {z:Mem} {b ty:Nat} {c:C} (h:z b (.cells ty [c])):At z b 0 [c]:=⟨_,[c],h,rfl,by simp,rfl⟩
instance:RMono (RE Value.bool):=⟨fun _ h=>h⟩
structure PPr where
 id:List UInt8
 kd:Int
 py:Int
 pr:Int
 inn:Int
 ou:Int
 am:PRat
def RPr:RT PPr:=fun z cs a=>∃ c d,cs=[Cs (bs a.id),Cu a.kd,Ci a.py,Ci a.pr,Ci a.inn,Ci a.ou,Cb a.am.n,c,Cb a.am.d,d]∧CZ 1 RW z c a.am.nm∧CZ 1 RW z d a.am.dm
instance:RMono RPr:=⟨fun hz ⟨c,d,h,g0,g1⟩=>⟨c,d,h,g0.mono hz,g1.mono hz⟩⟩
abbrev PEq:=(Int×Int)×Rat
def REq:RT PEq:=fun z cs e=>∃ c d,cs=[Ci e.1.1,Ci e.1.2,Cb (decide (e.2.num<0)),c,Cb (decide ((e.2.den:Int)<0)),d]∧CZ 1 RW z c (toL e.2.num.natAbs)∧CZ 1 RW z d (toL (e.2.den:Int).natAbs)
instance:RMono REq:=⟨fun hz ⟨c,d,h,g0,g1⟩=>⟨c,d,h,g0.mono hz,g1.mono hz⟩⟩
def entsL (ms:List Bool) (l:List PPr):List PEq:=l.flatMap fun a=>if (isB a.py ms && isB a.pr ms)=true then [((a.py,a.inn),-(rv a.am)),((a.pr,a.ou),-(rv a.am))] else []
theorem en_yes {ms:List Bool} {l:List PPr} {i:Nat} {a:PPr} (ha:l[i]? = some a) (h:(isB a.py ms && isB a.pr ms)=true):entsL ms (l.take (i+1))=entsL ms (l.take i)++[(a.py,a.inn),(a.pr,a.ou)].map fun e=>(e,-(rv a.am)):=by
 rw [entsL,entsL,tk_some ha,List.flatMap_append]
 congr 1
 simp only [List.flatMap_cons,List.flatMap_nil,if_pos h]
 rfl
theorem en_no {ms:List Bool} {l:List PPr} {i:Nat} {a:PPr} (ha:l[i]? = some a) (h:(isB a.py ms && isB a.pr ms)=false):entsL ms (l.take (i+1))=entsL ms (l.take i):=by
 rw [entsL,entsL,tk_some ha,List.flatMap_append]
 simp only [List.flatMap_cons,List.flatMap_nil,h,Bool.false_eq_true,if_false,List.append_nil]
theorem en_len {ms:List Bool} {l:List PPr}:(entsL ms l).length≤2 * l.length:=by
 induction l with
 | nil=>simp [entsL]
 | cons a l ih =>
  have e:entsL ms (a::l)=(if (isB a.py ms && isB a.pr ms)=true then [((a.py,a.inn),-(rv a.am)),((a.pr,a.ou),-(rv a.am))] else [])++entsL ms l:=rfl
  rw [e,List.length_append,List.length_cons]
  split
  ·simp;omega
  simp;omega
def JE (b4:Nat) (F:List PEq) (q:Rat) (L:List (Int×Int)):Mem→List HA→Prop:=fun z H=>∃ cv csy m,H=[.blk b4 (.cells 25 [cv]),.row (.c cv) 145 6 m csy]∧(F++L.map fun e=>(e,q)).length=m∧CL 6 REq z csy (F++L.map fun e=>(e,q))
theorem JE.mono {b4:Nat} {F:List PEq} {q:Rat} {L:List (Int×Int)} {z z':Mem} {H:List HA} (h:JE b4 F q L z H) (hz:zle z z'):JE b4 F q L z' H:=by
 obtain ⟨cv,csy,m,h1,h2,h3⟩:=h
 exact ⟨cv,csy,m,h1,h2,h3.mono hz⟩
theorem je_nil {b4 m:Nat} {F:List PEq} {q:Rat} {z:Mem} {cu:C} {csx:List C} (h:CL 6 REq z csx F) (hm:F.length=m):JE b4 F q [] z [.blk b4 (.cells 25 [cu]),.row (.c cu) 145 6 m csx]:=⟨cu,csx,m,rfl,by simpa using hm,by simpa using h⟩
theorem je_len {F:List PEq} {q:Rat} {L:List (Int×Int)} {m:Nat} (h:(F++L.map fun e=>(e,q)).length=m) (hF:F.length≤2000) (hL:L.length≤([]:List (Int×Int)).length+1):m≤2001:=by
 rw [List.length_append,List.length_map] at h
 simp only [List.length_nil] at hL
 omega
theorem nb_t {b:Bool} (h:(!b)=true):b=false:=by cases b<;>simp_all
theorem nb_f {b:Bool} (h:(!b)=false):b=true:=by cases b<;>simp_all
theorem fl_rotb {call:Call'} {B:Base} {fs:Sf} {l:List I} {Q:Sf→Prop} {x a b:HA} {q:List HA} (e:fs.H=a::b::x::q) (hw:FL call B l (fs.heap (x::a::b::q)) Q):FL call B l fs Q:=fl_perm (by rw [e];exact (List.Perm.cons _ (List.Perm.swap _ _ _)).trans (List.Perm.swap _ _ _)) hw
theorem je_list {F:List PEq} {q:Rat} {L:List (Int×Int)} {e:Int×Int}:F++(L++[e]).map (fun e=>(e,q))=(F++L.map fun e=>(e,q))++[(e,q)]:=by rw [List.map_append,← List.append_assoc];rfl
theorem je_add {F:List PEq} {q:Rat} {L:List (Int×Int)} {e:Int×Int}:(F++(L++[e]).map (fun e=>(e,q))).length=(F++L.map fun e=>(e,q)).length+1:=by rw [je_list,List.length_append];rfl
theorem c_pairs_Both_1 {k:Nat} (hk:1≤k) {z:Mem} {e:Int} {b:Nat} {c:C} {ms:List Bool} (hb:At z b 0 [c]) (hv:CZ 1 (RE Value.bool) z c ms):FC (E k) 111 [Ai e,Ap b] z fun u _=>u=Ab (isB e ms):=by
 refine fc_of (tS_get111) (by omega) (len1 rfl) fun B j hj=>?_
 refine R4 64 O ?_
 refine fl_splitD 6 rfl (fun hg6=>?_) (fun hg6=>?_)
 ·refine lD rfl ?_
  refine lC rfl ?_
  refine lD rfl ?_
  refine fl_ldA1 rfl hb ?_
  refine lD rfl ?_
  refine fl_lenS rfl hv ?_
  refine R1 12 O ?_
  refine fl_splitD 12 rfl (fun hg12=>?_) (fun hg12=>?_)
  ·refine lD rfl ?_
   refine fl_ldA1 rfl hb ?_
   refine lD rfl ?_
   refine lC rfl ?_
   refine lD rfl ?_
   refine fl_iadE rfl rfl hv (e.toNat) (by omega) (by omega) fun p15 hp15=>?_
   refine lD rfl ?_
   refine fl_ldP rfl hp15 ?_
   refine R0 6 O ?_
   refine xT ?_
   exact rI O (cQ (isB_t (by omega) (by omega)).symm)
  refine R0 96 O ?_
  refine xT ?_
  exact rI O (cQ (isB_g (by omega)).symm)
 refine R0 6176 O ?_
 refine xT ?_
 exact rI O (cQ (isB_f (by omega)).symm)
theorem c_pairs_Both {k:Nat} (hk:2≤k) {z:Mem} {s1:List UInt8} {k1 p1 q1 i1 o1:Int} {n1 m1:Bool} {c1 d1:C} {cm:C} {ms:List Bool} (hv:CZ 1 (RE Value.bool) z cm ms):FC (E k) 48 [.agg [Cs (bs s1),Cu k1,Ci p1,Ci q1,Ci i1,Ci o1,Cb n1,c1,Cb m1,d1],.c cm] z fun u _=>u=Ab (isB p1 ms && isB q1 ms):=by
 refine fc_of (tS_get48) (by omega) (len1 rfl) fun B j hj=>?_
 refine xR ?_
 refine fl_bx rfl fun b2=>?_
 refine fl_box rfl rfl fun b3=>?_
 refine R2 4 O ?_
 refine fl_frzZ z (p:=[]) rfl rfl rfl (fun _ h=>h) fun zffb _ fb=>?_
 refine fl_mkf rfl rfl ?_
 refine R2 21 O ?_
 refine fl_ld1 rfl mem0 rfl ?_
 refine fl_callvZ zffb rfl (c_pairs_Both_1 (by omega) (at1 fb) hv.m) rfl rfl fun v10 z10 _ hv10=>?_
 subst hv10
 refine lM rfl ?_
 refine fl_splitB 11 rfl (fun hg11=>?_) (fun hg11=>?_)
 ·refine R1 5 O ?_
  refine lD rfl ?_
  refine fl_ld1 rfl mem0 rfl ?_
  refine lD rfl ?_
  refine fl_callvZ z10 rfl (c_pairs_Both_1 (by omega) (at1 (zI _ _ fb)) hv.m) rfl rfl fun v15 z15 _ hv15=>?_
  subst hv15
  refine R0 6 O ?_
  refine xT ?_
  refine rI O ?_
  rw [hg11];rfl
 refine R0 96 O ?_
 refine xT ?_
 refine rI O ?_
 rw [hg11];rfl
theorem c_elim_Entries {k:Nat} (hk:13≤k) {z:Mem} {cm:C} {w:AV} {ms:List Bool} {l:List PPr} (hv:CZ 1 (RE Value.bool) z cm ms) (hx:SZ 10 RPr z w l) (hl:l.length≤1000) (hs:∀ a,a∈l→a.am.nm.length≤9000000∧a.am.dm.length≤9000000):FC (E k) 58 [.c cm,w] z fun u z'=>∃ c,u=.c c∧CZ 6 REq z' c (entsL ms l):=by
  have hxl:=hx.le
  refine fc_of (tS_get58) (by omega) (len1 rfl) fun B j hj=>?_
  refine xR ?_
  refine fl_alloc fun b4=>?_
  refine lN ?_
  refine R4 12 O ?_
  refine fl_lenS rfl hx ?_
  refine fl_row0 145 6 ?_
  refine fl_perm (List.Perm.swap _ _ _) ?_
  refine R0 2 O ?_
  refine fx_seq (fx_block ?_)
  refine fx_loop (fun n fs=>∃ (i:Nat) (cu:C) (csx:List C) (m:Nat) (zz:Mem),LZ z zz [.blk b4 (.cells 25 [cu]),.row (.c cu) 145 6 m csx] [(0,.c cm),(4,Ap b4),(8,w),(9,Az l.length),(10,Az i)] fs∧n=l.length - i∧(i≤l.length)∧((entsL ms (l.take i)).length=m)∧(CL 6 REq zz csx (entsL ms (l.take i)))) ?_ _ ⟨0,Cz,[],0,_,LZ.m [] O,rfl,Nat.zero_le _,rfl,CL.nil⟩ (kK (by omega))
  intro n fs ⟨i,cu,csx,m,zz,hL0,hmz0,hi,hm0,hc⟩
  refine hL0.open fun e hzz=>?_
  refine R5 8 O ?_
  refine xD rfl (fun hc11=>?_) (fun hc11=>?_)
  · skip
    refine fx_kseq ?_
    refine fx_seq (fx_block ?_)
    refine xR ?_
    obtain ⟨a,ha⟩:=at_lt (l:=l) (i:=i) (by omega)
    obtain ⟨hs1,hs2⟩:=hs a (List.mem_of_getElem? ha)
    have hlm:(entsL ms (l.take i)).length≤2000:=Nat.le_trans en_len (by rw [List.length_take];omega)
    refine fl_iadS (zz:=zz) rfl rfl hx.m i rfl a ha fun b12 p12 cs at12 hR=>?_
    obtain ⟨c12,d12,hcs,q12,r12⟩:=hR
    subst hcs
    refine fl_ldA (off:=0) rfl at12 rfl (by simp) rfl ?_
    refine fl_alloc fun b6=>?_
    refine fl_stAll rfl rfl rfl rfl rep0 ?_
    refine lN ?_
    refine R4 4 O ?_
    refine fl_rot3 rfl ?_
    refine fl_ldAll rfl Y2 rfl ?_
    refine lC rfl ?_
    refine lE zz (c_pairs_Both (by omega) hv.m) O O fun z16 hz16=>?_
    refine R3 4 O ?_
    refine fx_condB rfl (fun hc17=>?_) (fun hc17=>?_)
    · skip
      refine fx_eseq ?_
      refine sq_n ?_
      refine xG ?_
      refine fl_rotb rfl ?_
      refine lB rfl rfl (bI_add (n:=i+1) (by omega) (by omega)) ?_
      refine R0 2 O ?_
      exact lq_n (by omega) ⟨i+1,cu,csx,m,_,LZ.m [_] O,rfl,by omega,by rw [en_no ha (nb_t hc17)];exact hm0,by rw [en_no ha (nb_t hc17)];exact hc.m⟩
    · skip
      refine R4 4 O ?_
      refine fl_ldAll rfl Y2 rfl ?_
      refine lZ z16 (c_elim_sides (by omega)) rfl rfl fun v19 z19 hz19 ⟨b19,hv19,hk19⟩=>?_
      subst hv19
      refine lN ?_
      refine fx_block ?_
      refine fx_range (us:=[]) (cs:=[(false,[.ptr b19 0])]) (Hs:=[.blk b4 (.cells 25 [cu]),.row (.c cu) 145 6 m csx]) (Hr:=_) (Post:=(JE b4 (entsL ms (l.take i)) (-(rv a.am))) [(a.py,a.inn),(a.pr,a.ou)]) rfl rfl rfl (fun call' b hA hY=>?_) fun z40 H40 hz40 hJ40=>?_
      · refine (c_sides_body (by omega) hA (L := []) ⟨_, _, hk19, rfl, by simp, rfl⟩ (q12.m) (r12.m) hs1 hs2 (J := (JE b4 (entsL ms (l.take i)) (-(rv a.am)))) (fun L z z' H hz h => h.mono hz) (fun L e z5 H5 c d hLl hj _ h5 g5 => hY _ _ _ _ rfl fun B => ?_) (je_nil (hc.m) hm0))
        obtain ⟨cv,csy,m2,rfl,hm2,hcl2⟩:=hj
        refine xR ?_
        refine fl_alloc fun b7=>?_
        refine fl_stAll rfl rfl rfl rfl rep0 ?_
        refine lN ?_
        refine fx_block ?_
        refine xG ?_
        refine fl_ld1 rfl Y1 rfl ?_
        refine fl_ldAll rfl mem0 rfl ?_
        refine fl_bslice rfl fun b23=>?_
        refine fl_appB (n:=m2) (m:=1) (cs:=csy) rfl rfl mem0 rfl (fun _=>repS P2) (by have:=je_len hm2 hlm hLl;omega) (by have:=je_len hm2 hlm hLl;omega) fun c24 hc24=>?_
        refine fl_stC rfl rfl P2 ?_
        refine lN ?_
        exact ⟨rfl,_,List.sublist_append_right [_,_] _,c24,_,m2+1,rfl,by rw [je_add,hm2],by rw [je_list];exact hcl2.append (CL.one rfl ⟨_,_,rfl,h5,g5⟩)⟩
      obtain ⟨cv,csy,m2,rfl,hm2,hc2⟩:=hJ40
      refine sq_n ?_
      refine xG ?_
      refine fl_rotb rfl ?_
      refine lB rfl rfl (bI_add (n:=i+1) (by omega) (by omega)) ?_
      refine R0 2 O ?_
      exact lq_n (by omega) ⟨i+1,cv,csy,m2,_,LZ.mk [_] (hzz.trans (hz16.trans (hz19.trans hz40))) (atc rfl (atc rfl (atc rfl (atc rfl (atc rfl atn))))),rfl,by omega,by rw [en_yes ha (nb_f hc17)];exact hm2,by rw [en_yes ha (nb_f hc17)];exact hc2⟩
  · skip
    refine fx_eseq ?_
    refine lq_e ?_
    refine sq_n ?_
    refine xR ?_
    refine fl_ld1 rfl mem0 rfl ?_
    refine fl_stC rfl rfl rep0 ?_
    refine lN ?_
    refine fx_frzR (p:=[_]) rfl (hc) hm0 (by have:=en_len (ms:=ms) (l:=l.take i);rw [List.length_take] at this;omega) fun zr _ hsr=>?_
    refine xT ?_
    refine rQ (.inl rfl) (rc rfl mem0 (Nat.le_refl _) rfl rn) ?_
    rw [List.take_of_length_le (by omega)] at hsr
    exact ⟨_,rfl,hsr⟩
open Go.CE Go.RowKit Go.Num
open Go.Eng (setL)
def P0:PPr:=⟨[105],1,0,1,0,1,rawOf (Rat.divInt 120 1)⟩
def LW:List PEn:=[⟨0,0,rawOf ((-120:Int):Rat)⟩,⟨1,1,rawOf ((-120:Int):Rat)⟩]
theorem p0_len:∀ a,a∈[P0]→a.am.nm.length≤9000000∧a.am.dm.length≤9000000:=fun a ha=>by
 simp at ha;subst ha
 have hd:=divInt_le (a:=120) (b:=1) (by decide)
 exact ⟨Nat.le_trans (len_le hd.1) (Nat.le_trans (m:=1) (toL_len.2 (by decide)) (by decide)),Nat.le_trans (len_le (b:=((1:Int)).natAbs) (by rw [Int.natAbs_natCast];exact hd.2)) (Nat.le_trans (m:=1) (toL_len.2 (by decide)) (by decide))⟩
theorem lw_sz {z:Mem} {b ty:Nat} {c d:C} (h:z b (.cells ty [Ci 0,Ci 0,Cb (decide ((((-120:Int):Rat)).num<0)),c,Cb (decide (((((-120:Int):Rat)).den:Int)<0)),d,Ci 1,Ci 1,Cb (decide ((((-120:Int):Rat)).num<0)),c,Cb (decide (((((-120:Int):Rat)).den:Int)<0)),d])) (h1:CZ 1 RW z c (toL (((-120:Int):Rat)).num.natAbs)) (h2:CZ 1 RW z d (toL ((((-120:Int):Rat)).den:Int).natAbs)):SZ 6 REn z (.c (.sl b 0 2 6)) LW:=
  CL.sz (l := LW) ⟨rfl, fun i a hi => match i, hi with
    | 0,hi=>by injection hi with hi;subst hi;exact ⟨rfl,c,d,rfl,h1,h2⟩
    | 1,hi=>by injection hi with hi;subst hi;exact ⟨rfl,c,d,rfl,h1,h2⟩
    | i+2,hi=>by simp [LW] at hi⟩ rfl (len1 rfl) h
theorem q0_neg : -(rv P0.am)=((-120:Int):Rat):=by
 rw [show rv P0.am=Rat.divInt 120 1 from rv_raw _]
 decide +kernel
theorem ents_n:entsL [false,true] [P0]=[]:=by simp [entsL,isB,P0]
theorem ents_w {z:Mem} {c:C} (h:CZ 6 REq z c (entsL [true,true] [P0])):SZ 6 REn z (.c c) LW:=by
 have e:entsL [true,true] [P0]=[(((0:Int),(0:Int)),-(rv P0.am)),((1,1),-(rv P0.am))]:=by simp [entsL,isB,P0]
 rw [e,q0_neg] at h
 exact sz_map (f:=fun e:PEq=>(⟨e.1.1,e.1.2,rawOf e.2⟩:PEn)) h fun cs e ⟨c,d,h1,h2,h3⟩=>⟨c,d,h1,h2,h3⟩
theorem c_law21_works {k:Nat} (hk:14≤k) {z:Mem}  : FC (E k) 13 [] z fun u _=>u=bool_ true:=by
 refine fc_of (tS_get13) (by omega) (len1 rfl) fun B j hj=>?_
 refine R4 8 O ?_
 refine lZ z (c_fil_By (n:=120) (d:=1) (by omega) (by decide) (by decide) (by decide) (by decide) (by decide)) rfl rfl fun v5 z5 hz5 hv5=>?_
 have hv5:=qv_op hv5
 obtain ⟨c5,d5,hv,hm5,hn5⟩:=hv5
 subst hv
 refine fl_bd (cs:=[Cs ⟨#[105]⟩,Cu 1,Ci 0,Ci 1,Ci 0,Ci 1,Cb (decide (((Rat.divInt 120 1):Rat).num<0)),c5,Cb (decide (((((Rat.divInt 120 1):Rat).den:Nat):Int)<0)),d5]) rfl ?_
 refine fl_alloc fun b1=>?_
 refine fl_stAll rfl rfl rfl rfl rep0 ?_
 refine lN ?_
 refine xR ?_
 refine fl_bslice (cs:=[Cb true,Cb true]) rfl fun b7=>?_
 refine fl_frzZ z5 (p:=[]) rfl rfl rfl (fun _ h=>h) fun zff7 hzff7 f7=>?_
 refine fl_ldAll rfl mem0 rfl ?_
 refine fl_bslice rfl fun b9=>?_
 refine fl_frzZ zff7 (p:=[]) rfl rfl rfl (fun _ h=>h) fun zff9 hzff9 f9=>?_
 refine lZ zff9 (c_elim_Entries (ms:=[true,true]) (l:=[P0]) (by omega) (CL.sz (cE_cl (e:=Value.bool) (l:=[true,true])) rfl (len1 rfl) (zI _ _ f7)) (CL.sz (CL.one (R:=RPr) (a:=P0) rfl ⟨_,_,rfl,hm5.m,hn5.m⟩) rfl (len1 rfl) f9) (len1 rfl) p0_len) rfl rfl fun v10 z10 hz10 ⟨c10,hv10,hk10⟩=>?_
 subst hv10
 refine R2 5 O ?_
 refine fl_bslice (cs:=[Cb false,Cb true]) rfl fun b11=>?_
 refine fl_frzZ z10 (p:=[]) rfl rfl rfl (fun _ h=>h) fun zff11 hzff11 f11=>?_
 refine fl_ldAll rfl mem0 rfl ?_
 refine fl_bslice rfl fun b13=>?_
 refine fl_frzZ zff11 (p:=[]) rfl rfl rfl (fun _ h=>h) fun zff13 hzff13 f13=>?_
 refine lZ zff13 (c_elim_Entries (ms:=[false,true]) (l:=[P0]) (by omega) (CL.sz (cE_cl (e:=Value.bool) (l:=[false,true])) rfl (len1 rfl) (zI _ _ f11)) (CL.sz (CL.one (R:=RPr) (a:=P0) rfl ⟨_,_,rfl,hm5.m,hn5.m⟩) rfl (len1 rfl) f13) (len1 rfl) p0_len) rfl rfl fun v14 z14 hz14 ⟨c14,hv14,hk14⟩=>?_
 subst hv14
 refine R2 5 O ?_
 refine lZ z14 (c_ref04_Whole (n := -120) (by omega) (by decide) (by decide)) rfl rfl fun v15 z15 _ hv15=>?_
 have hv15:=qv_op hv15
 obtain ⟨c15,d15,hv,hm15,hn15⟩:=hv15
 subst hv
 have hm15:=hm15.mono (zAq (hz5.trans (hzff7.trans (hzff9.trans (hz10.trans (hzff11.trans (hzff13.trans hz14)))))))
 have hn15:=hn15.mono (zAq (hz5.trans (hzff7.trans (hzff9.trans (hz10.trans (hzff11.trans (hzff13.trans hz14)))))))
 refine fl_al4 fun b4=>?_
 refine fl_st4 rfl rfl rep0 ?_
 refine lN ?_
 refine R4 6 O ?_
 refine fl_ld4 rfl mem0 rfl ?_
 refine fl_bd (cs:=[Ci 0,Ci 0,Cb (decide (((((-120:Int):Rat)):Rat).num<0)),c15,Cb (decide (((((((-120:Int):Rat)):Rat).den:Nat):Int)<0)),d15]) rfl ?_
 refine fl_ld4 rfl mem0 rfl ?_
 refine fl_bd (cs:=[Ci 1,Ci 1,Cb (decide (((((-120:Int):Rat)):Rat).num<0)),c15,Cb (decide (((((((-120:Int):Rat)):Rat).den:Nat):Int)<0)),d15]) rfl ?_
 refine fl_bslice (cs:=[Ci 0,Ci 0,Cb (decide (((((-120:Int):Rat)):Rat).num<0)),c15,Cb (decide (((((((-120:Int):Rat)):Rat).den:Nat):Int)<0)),d15,Ci 1,Ci 1,Cb (decide (((((-120:Int):Rat)):Rat).num<0)),c15,Cb (decide (((((((-120:Int):Rat)):Rat).den:Nat):Int)<0)),d15]) rfl fun b21=>?_
 refine fl_frzZ z15 (p:=[]) rfl rfl rfl (fun _ h=>h) fun zff21 _ f21=>?_
 refine lE zff21 (c_law21_same (l:=LW) (by omega) (ents_w hk10.m) (lw_sz f21 hm15.m hn15.m)) O O fun z22 _=>?_
 refine R1 7 O ?_
 refine lD rfl ?_
 refine fl_lenS rfl hk14 ?_
 refine R0 12 O ?_
 refine xT ?_
 exact rI O (congrArg bool_ (decide_eq_true (by rw [ents_n];rfl)))
open Go.CE Go.RowKit Go.Num
open Go.Eng (setL)
theorem c_law21_ElimApplies {k:Nat} (hk:18≤k) {z:Mem} {ct:C} {v w:AV} {t:List (List PRat)} {l:List PEn} {cs:List PClass} (hx:CZ 1 (RC 4 RRat) z ct t) (he:SZ 6 REn z v l) (hc:SZ 6 RClass z w cs):FC (E k) 3 [.agg [ct],v,w] z fun u _=>u=bool_ true:=by
 have hcl0:=hc.le
 refine fc_of (tS_get3) (by omega) (len1 rfl) fun B j hj=>?_
 refine xR ?_
 refine fl_bx rfl fun b3=>?_
 refine R2 8 O ?_
 refine fl_ldAll rfl mem0 rfl ?_
 refine lZ z (c_law21_small (by omega) hx) rfl rfl fun v10 z10 hz10 ⟨w10,hv10,hs10⟩=>?_
 subst hv10
 refine R1 4 O ?_
 refine fl_splitB 12 rfl (fun hg12=>?_) (fun hg12=>?_)
 ·refine R2 8208 O ?_
  refine lE z10 (c_law21_works (by omega)) O O fun z22 hz22=>?_
  refine R0 3 O ?_
  refine fx_rseq ?_
  refine rI O ?_
  rfl
 refine lD rfl ?_
 refine lM rfl ?_
 refine lD rfl ?_
 refine lZ z10 (c_law21_little (by omega) he.m) rfl rfl fun v14 z14 hz14 ⟨w14,hv14,hs14⟩=>?_
 subst hv14
 refine R1 12 O ?_
 refine fl_splitB 17 rfl (fun hg17=>?_) (fun hg17=>?_)
 ·refine R2 256 O ?_
  refine lE z14 (c_law21_works (by omega)) O O fun z22 hz22=>?_
  refine R0 3 O ?_
  refine fx_rseq ?_
  refine rI O ?_
  rfl
 refine lD rfl ?_
 refine lM rfl ?_
 refine lD rfl ?_
 refine fl_lenS rfl hc ?_
 refine R3 8 O ?_
 refine xD rfl (fun hc21=>?_) (fun hc21=>?_)
 ·refine R4 4 O ?_
  refine lE z14 (c_law21_works (by omega)) O O fun z22 hz22=>?_
  refine R0 3 O ?_
  refine fx_rseq ?_
  refine rI O ?_
  rfl
 refine R5 16 O ?_
 refine fx_seq (fx_block ?_)
 obtain ⟨hT6,hR6⟩:=hs10 (nb_f hg12)
 obtain ⟨hl20,hsr⟩:=hs14 (nb_f hg17)
 have hT:t.length≤1000:=by omega
 have hR1:∀ r,r∈t→r.length≤1000∧∀ x,x∈r→x.nm.length≤1000∧x.dm.length≤1000:=fun r hr=>⟨by have:=(hR6 r hr).1;omega,fun x hx5=>by have:=(hR6 r hr).2 x hx5;omega⟩
 have hl:l.length≤1000:=by omega
 have hs1:∀ a,a∈l→a.am.nm.length≤100∧a.am.dm.length≤100:=fun a ha=>by have:=hsr a ha;omega
 have hs2:∀ a,a∈l→a.am.nm.length≤999∧a.am.dm.length≤999:=fun a ha=>by have:=hsr a ha;omega
 have hs3:∀ a,a∈l→a.am.nm.length≤1000000∧a.am.dm.length≤1000000:=fun a ha=>by have:=hsr a ha;omega
 have hcl12:cs.length≤1000:=by omega
 refine fx_loop (fun n fs=>∃ (i:Nat),LI z14 [.blk b3 (.cells 24 [ct])] [(1,v),(2,w),(3,Ap b3),(7,Az i)] fs∧n=cs.length - i∧(i≤cs.length)∧(∀ c,c∈cs.take i→Sr c.arg)) ?_ _ ⟨0,LI.m [] O,rfl,Nat.zero_le _,fun a ha=>by simp at ha⟩ (kK (by omega))
 intro n fs ⟨i,hL0,hmz0,hi,hsc⟩
 refine hL0.open fun e zl0 hzl0=>?_
 refine R4 24 O ?_
 refine fl_lenS rfl hc ?_
 refine R3 4 O ?_
 refine xD rfl (fun hc26=>?_) (fun hc26=>?_)
 ·refine fx_kseq ?_
  refine fx_seq (fx_block ?_)
  refine R4 10 O ?_
  obtain ⟨cl,hcl⟩:=at_lt (l:=cs) (i:=i) (by omega)
  refine fl_iadS (zz:=zl0) rfl rfl hc.m i rfl cl hcl fun b31 p31 cs at31 hR=>?_
  obtain ⟨c31,d31,hcs,q31,r31⟩:=hR
  subst hcs
  refine lF rfl ?_
  refine fl_ldA (off:=2) rfl at31 rfl (by simp) rfl ?_
  refine lZ zl0 (c_law21_short (by omega) q31 r31) rfl rfl fun v34 z34 _ ⟨w34,hv34,hs34⟩=>?_
  subst hv34
  refine R0 2 O ?_
  refine fx_condB rfl (fun hc35=>?_) (fun hc35=>?_)
  ·refine xR ?_
   refine lE z34 (c_law21_works (by omega)) O O fun z36 _=>?_
   refine R0 3 O ?_
   refine xT ?_
   refine sq_r ?_
   refine lq_r ?_
   refine sq_r ?_
   refine rI O ?_
   rfl
  refine fx_skip ?_
  refine sq_n ?_
  refine xG ?_
  refine lC rfl ?_
  refine lB rfl rfl (bI_add (n:=i+1) (by omega) (by omega)) ?_
  refine R0 2 O ?_
  exact lq_n (by omega) ⟨i+1,LI.m [] O,rfl,by omega,tk_all hcl hsc (hs34 (nb_f hc35))⟩
 refine fx_eseq ?_
 refine lq_e ?_
 refine sq_n ?_
 refine xR ?_
 rw [List.take_of_length_le (by omega)] at hsc
 have hc1:∀ a,a∈cs→a.arg.nm.length≤999∧a.arg.dm.length≤999:=fun a ha=>by have:=hsc a ha;omega
 have hc2:∀ a,a∈cs→a.arg.nm.length≤1000000∧a.arg.dm.length≤1000000:=fun a ha=>by have:=hsc a ha;omega
 refine fl_ldAll rfl mem0 rfl ?_
 refine lZ zl0 (c_law21_refTable (by omega) hx.m hT (tb_up hR1)) rfl rfl fun v38 z38 hz38 ⟨c38,hv38,hk38⟩=>?_
 subst hv38
 have hk38:=hk38.mono (zAq (hz10.trans (hz14.trans hzl0)))
 refine fl_alloc fun b8=>?_
 refine fl_stAll rfl rfl rfl rfl rep0 ?_
 refine lN ?_
 refine fx_ss ?_
 refine fx_drwS ?_
 refine fg_load (i:=⟨_,_,.load _ _ _⟩) rfl rfl trivial rfl (.inr Y1) rfl (Nat.le_refl _) rfl sR ?_
 refine G1 3 O ?_
 refine gC z38 (c_elim_Apply (by omega) hx.m hT hR1 he.m hl hs1) O O O O fun v41 z41 hz41 ⟨c41,hv41,hk41⟩=>?_
 subst hv41
 refine fg_load (i:=⟨_,_,.load _ _ _⟩) rfl rfl trivial rfl (.inr mem0) rfl (Nat.le_refl _) rfl sR ?_
 refine G1 3 O ?_
 refine gC z41 (c_law21_refEntries (by omega) he.m hl hs3) O O O O fun v44 z44 hz44 hv44=>?_
 have hv44:=hv44.mono (zAq (hz10.trans (hz14.trans (hzl0.trans (hz38.trans hz41)))))
 refine gC z44 (c_ref21_Apply (by omega) hk38.m hT hR1 (hv44.mono zd_le) hl hs1) O O O O fun v45 z45 hz45 ⟨c45,hv45,hk45⟩=>?_
 subst hv45
 rw [← app_eq] at hk45
 refine gE z45 (c_law21_is (by omega) (raw_tab hk41.m) (raw_tab hk45)) O O O O fun z46 hz46=>?_
 refine G1 4 O ?_
 refine fg_load (i:=⟨_,_,.load _ _ _⟩) rfl rfl rfl rfl (.inr Y1) rfl (Nat.le_refl _) rfl sR ?_
 refine fg_load (i:=⟨_,_,.load _ _ _⟩) rfl rfl rfl rfl (.inr mem0) rfl (Nat.le_refl _) rfl sR ?_
 refine gE z46 (c_law21_is (by omega) hx.m hk38.m) O O O O fun z51 hz51=>?_
 refine G0 4 O ?_
 refine R4 112 O ?_
 refine lZ z51 (c_elim_Book (by omega) hc.m he.m hl hc1 hs2) rfl rfl fun v56 z56 hz56 ⟨hq56,hLB56⟩=>?_
 have hq56:=qv_op hq56
 obtain ⟨c56,d56,hv,hm56,hn56⟩:=hq56
 subst hv
 refine lM rfl ?_
 refine lZ z56 (c_law21_classes (by omega) hc.m hcl12 hc2) rfl rfl fun v58 z58 hz58 hv58=>?_
 have hv58:=hv58.mono (zAq (hz10.trans (hz14.trans (hzl0.trans (hz38.trans (hz41.trans (hz44.trans (hz45.trans (hz46.trans (hz51.trans hz56))))))))))
 refine lM rfl ?_
 refine lZ z58 (c_law21_refEntries (by omega) he.m hl hs3) rfl rfl fun v60 z60 _ hv60=>?_
 have hv60:=hv60.mono (zAq (hz10.trans (hz14.trans (hzl0.trans (hz38.trans (hz41.trans (hz44.trans (hz45.trans (hz46.trans (hz51.trans (hz56.trans hz58)))))))))))
 refine lZ z60 (c_ref21_Book (by omega) hv58.m (hv60.mono zd_le) hl hc1 hs2) rfl rfl fun v61 z61 _ hq61=>?_
 have hq61:=qv_op hq61
 obtain ⟨c61,d61,hv,hm61,hn61⟩:=hq61
 subst hv
 refine lE z61 (c_fil_IsRat (by omega) hm56.m hn56.m hm61 hn61) O O fun z62 _=>?_
 refine lM rfl ?_
 refine lD rfl ?_
 refine lE z62 (c_law21_works (by omega)) O O fun z64 _=>?_
 refine R0 6 O ?_
 refine xT ?_
 refine rI O ?_
 rfl
end Go.Proofs.YtlceligcgelbdaaGreat
