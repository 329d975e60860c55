/- A ledger is written over; the law, walked. -/
import Derived.WalkKit
import Derived.Orders
import Derived.Test.YtlceligcgelbdaaGreatJF9
set_option linter.unusedVariables false
set_option linter.unusedSimpArgs false
set_option maxRecDepth 100000
set_option maxHeartbeats 1000000
namespace Go.Proofs.YtlceligcgelbdaaGreat
open Go.CE Go.RowKit Go.Num
open Go.Eng (setL)
open Go.Eng (setL)
theorem perm3 {α:Type} {a b c:α} {l:List α}:(a::b::c::l).Perm (b::c::a::l):=(List.Perm.swap _ _ _).trans (.cons _ (.swap _ _ _))
theorem mem_perm {α:Type} {a:α} {l:List α} (h:a∈l):∃ l',l.Perm (a::l'):=by
 obtain ⟨s,t,rfl⟩:=List.append_of_mem h
 exact ⟨s++t,List.perm_middle⟩
structure SpU (U:Mem) (bo:Nat) (hs:List C) (T R:List (Ro Rat)):Prop where
 f:∀ b k k',U b k→U b k'→k=k'
 no:∀ n,¬ C.v (.int .u32 n)∈hs
 nt:∀ d,d∈T→∀ n,¬ C.v (.int .u32 n)∈d.2.1
 nq:∀ d,d∈R→∀ n,¬ C.v (.int .u32 n)∈d.2.1
 o:U bo (.cells 87 hs)
 t:∀ d,d∈T→U (numR d) (.cells 35 d.2.1)
 q:∀ d,d∈R→U (numR d) (.cells 35 d.2.1)
structure SpG (U:Mem) (bo:Nat) (hs:List C) (T R:List (Ro Rat)) (y:Nat) (G:List HA):Prop where
 o:HA.blk bo (.cells 87 hs)∈G
 t:∀ (i:Nat) d,y≤i→T[i]? = some d→HA.blk (numR d) (.cells 35 d.2.1)∈G
 q:∀ (i:Nat) d,y≤i→R[i]? = some d→HA.blk (numR d) (.cells 35 d.2.1)∈G
 l:∀ b k cs n,U b k→k.cs=some cs→C.v (.int .u32 n)∈cs→∃ ty cs',HA.blk b (.cells ty cs')∈G∧cs'.length=cs.length
section
variable {U:Mem} {bo y:Nat} {hs:List C} {T R:List (Ro Rat)} {G:List HA} {d e:Ro Rat}
theorem xb_num (h:XB U T) (hd:d∈T):d.1=.sl (numR d) 0 d.2.2.length 4∧U (numR d) (.cells 35 d.2.1):=by
 obtain ⟨b,h1,h2⟩:=h d hd
 have e:numR d=b:=by rw [numR,h1]
 rw [e]
 exact ⟨h1,h2⟩
theorem nd_no (h:(bo::(T.map numR++R.map numR)).Nodup):(∀ d,d∈T→bo≠numR d)∧(∀ d,d∈R→bo≠numR d)∧(∀ d,d∈T→∀ e,e∈R→numR d≠numR e)∧(T.map numR).Nodup∧(R.map numR).Nodup:=by
 rw [List.nodup_cons,List.nodup_append] at h
 obtain ⟨h1,h2,h3,h4⟩:=h
 rw [List.mem_append] at h1
 exact ⟨fun d hd e=>h1 (.inl (e ▸ List.mem_map.2 ⟨d,hd,rfl⟩)),fun d hd e=>h1 (.inr (e ▸ List.mem_map.2 ⟨d,hd,rfl⟩)),fun d hd e he=>h4 _ (List.mem_map.2 ⟨d,hd,rfl⟩) _ (List.mem_map.2 ⟨e,he,rfl⟩),h2,h3⟩
theorem nd_at (h:(T.map numR).Nodup) {i j:Nat} (hij:i<j) {a b:Ro Rat} (ha:T[i]? = some a) (hb:T[j]? = some b):numR a≠numR b:=by
 obtain ⟨h1,h2⟩:=List.getElem?_eq_some_iff.1 ha
 obtain ⟨h3,h4⟩:=List.getElem?_eq_some_iff.1 hb
 have:=List.pairwise_iff_getElem.1 h i j (by rw [List.length_map];exact h1) (by rw [List.length_map];exact h3) hij
 rw [List.getElem_map,List.getElem_map,h2,h4] at this
 exact this
theorem sp0 (hU:SpU U bo hs T R) (h:∀ b k,U b k→HA.blk b k∈G) (hr:∀ b k,U b k→k.isRo=false):SpG U bo hs T R 0 G:=
  ⟨h _ _ hU.o, fun i d _ hd => h _ _ (hU.t d (List.mem_of_getElem? hd)), fun i d _ hd => h _ _ (hU.q d (List.mem_of_getElem? hd)), fun b k cs n hb hk _ => by
    cases k with
    | cells ty l=>injection hk with hk;subst hk;exact ⟨ty,l,h _ _ hb,rfl⟩
    | ro l=>have:=hr _ _ hb;simp [Blk.isRo] at this
    | sit s n=>cases hk
    | mp es n=>cases hk
    | mit _ _ _ _=>cases hk
    | mcur _ _ _=>cases hk⟩
theorem sp_out (hnd:(bo::(T.map numR++R.map numR)).Nodup) (hG:SpG U bo hs T R y G) (hd:T[y]? = some d) (he:R[y]? = some e) (hd2:U (numR d) (.cells 35 d.2.1)) (he2:U (numR e) (.cells 35 e.2.1)) (hU:SpU U bo hs T R) :
  ∃ Gb,G.Perm (.blk (numR d) (.cells 35 d.2.1)::.blk (numR e) (.cells 35 e.2.1)::Gb)∧SpG U bo hs T R (y+1) Gb:=by
 obtain ⟨n1,n2,n3,n4,n5⟩:=nd_no hnd
 have hdm:=List.mem_of_getElem? hd
 have hem:=List.mem_of_getElem? he
 obtain ⟨Ga,p1⟩:=mem_perm (hG.t y d (Nat.le_refl _) hd)
 have m1:HA.blk (numR e) (.cells 35 e.2.1)∈Ga:=by
  rcases List.mem_cons.1 (p1.mem_iff.1 (hG.q y e (Nat.le_refl _) he)) with h | h
  ·injection h with h;exact absurd h.symm (n3 d hdm e hem)
  exact h
 obtain ⟨Gb,p2⟩:=mem_perm m1
 have hp:=p1.trans (p2.cons _)
 have keep:∀ b k,b≠numR d→b≠numR e→HA.blk b k∈G→HA.blk b k∈Gb:=fun b k h1 h2 h=>by
  rcases List.mem_cons.1 (hp.mem_iff.1 h) with h | h
  ·injection h with h;exact absurd h h1
  rcases List.mem_cons.1 h with h | h
  ·injection h with h;exact absurd h h2
  exact h
 refine ⟨Gb,hp,⟨keep _ _ (n1 d hdm) (n2 e hem) hG.o,fun i a hi ha=>keep _ _ ?_ ?_ (hG.t i a (by omega) ha),fun i a hi ha=>keep _ _ ?_ ?_ (hG.q i a (by omega) ha),fun b k cs n hb hk hn=>?_⟩⟩
 ·exact fun h=>nd_at n4 (show y<i by omega) hd ha h.symm
 ·exact n3 a (List.mem_of_getElem? ha) e hem
 ·exact fun h=>n3 d hdm a (List.mem_of_getElem? ha) h.symm
 ·exact fun h=>nd_at n5 (show y<i by omega) he ha h.symm
 obtain ⟨ty,cs',h1,h2⟩:=hG.l b k cs n hb hk hn
 refine ⟨ty,cs',keep _ _ (fun h=>?_) (fun h=>?_) h1,h2⟩
 ·subst h
  have:=hU.f _ _ _ hb hd2
  subst this
  injection hk with hk;subst hk
  exact hU.nt d hdm n hn
 subst h
 have:=hU.f _ _ _ hb he2
 subst this
 injection hk with hk;subst hk
 exact hU.nq e hem n hn
theorem rep_pre {a a':HA} {l l':List HA} (h:Rep1 l a a' l'):∀ pre:List HA,Rep1 (pre++l) a a' (pre++l')
 | []=>h
 | _::p=>repS (rep_pre h p)
theorem fl_stL {call:Call'} {B:Base} {fs:Sf} {l:List I} {Q:Sf→Prop} {pre:List HA} {x z:Go.Eng.Od} {b p:Nat} {n:Int} {v:AV} {c:C} (hH:fs.H=pre++G) (hnd:(bo::(T.map numR++R.map numR)).Nodup) (hU:SpU U bo hs T R) (hG:SpG U bo hs T R y G) (hx:fs.ev x=.c (.ptr b p)) (hy:fs.ev z=v) (hv:v.cells? = some [c]) (ha:At U b p [.v (.int .u32 n)])
  (hw:∀ G',SpG U bo hs T R y G'→FL call B l (fs.heap (pre++G')) Q):FL call B (⟨none,none,.store 1 x z⟩::l) fs Q:=by
 obtain ⟨k0,full,g1,g2,g3,g4⟩:=ha
 have hmem:C.v (.int .u32 n)∈full:=by
  have:C.v (.int .u32 n)∈(full.drop p).take [C.v (Value.int .u32 n)].length:=by rw [g4];simp
  exact List.mem_of_mem_drop (List.mem_of_mem_take this)
 obtain ⟨ty,cs',hm,hl⟩:=hG.l b k0 full n g1 g2 hmem
 obtain ⟨G',hr⟩:=rep1_of (a':=.blk b (.cells ty (setL cs' p [c]))) hm
 obtain ⟨pp,qq,e1,e2⟩:=hr.split
 have hlen:p+1≤cs'.length:=by rw [hl];exact g3
 have keep:∀ b' k,b'≠b→HA.blk b' k∈G→HA.blk b' k∈G':=fun b' k hb h=>by
  rw [e1] at h
  rw [e2]
  simp only [List.mem_append,List.mem_cons] at h ⊢
  rcases h with h | h | h
  ·exact .inl h
  ·injection h with h;exact absurd h hb
  exact .inr (.inr h)
 have nb:∀ b' cs ty',U b' (.cells ty' cs)→(∀ n,¬ C.v (.int .u32 n)∈cs)→b'≠b:=fun b' cs ty' h1 h2 h3=>by
  subst h3
  have:=hU.f _ _ _ g1 h1
  subst this
  injection g2 with g2;subst g2
  exact h2 n hmem
 refine fl_st hx hy hv (by rw [hH];exact rep_pre hr pre) rfl hlen (hw G' ⟨keep _ _ (nb _ _ _ hU.o hU.no) hG.o,fun i a hi ha=>keep _ _ (nb _ _ _ (hU.t a (List.mem_of_getElem? ha)) (hU.nt a (List.mem_of_getElem? ha))) (hG.t i a hi ha),fun i a hi ha=>keep _ _ (nb _ _ _ (hU.q a (List.mem_of_getElem? ha)) (hU.nq a (List.mem_of_getElem? ha))) (hG.q i a hi ha),fun b' k cs n' hb hk hn=>?_⟩)
 by_cases hbb:b'=b
 ·subst hbb
  have:=hU.f _ _ _ g1 hb
  subst this
  rw [g2] at hk
  injection hk with hk;subst hk
  exact ⟨ty,setL cs' p [c],by rw [e2];simp,by rw [Go.Eng.setL_length _ _ _ (by simpa using hlen)];exact hl⟩
 obtain ⟨ty',cs2,h1,h2⟩:=hG.l b' k cs n' hb hk hn
 exact ⟨ty',cs2,keep _ _ hbb h1,h2⟩
end
theorem drop_2 {cs:List C} {j:Nat} {a b c d e f:C} (h:(cs.drop j).take 6=[a,b,c,d,e,f]):(cs.drop (j+2)).take 4=[c,d,e,f]:=by
 have:=congrArg (fun l=>l.drop 2) h
 simp only [List.drop_take,List.drop_drop] at this
 exact this
theorem drop_3 {cs:List C} {j:Nat} {a b c d:C} (h:(cs.drop j).take 4=[a,b,c,d]):cs[j+3]? = some d:=by
 have:=congrArg (fun l=>l[3]?) h
 simp only [List.getElem?_take,List.getElem?_drop] at this
 simpa using this
theorem cz_nu {α:Type} {size:Nat} {R:RT α} {z:Mem} {c:C} {l:List α} (h:CZ size R z c l) (n:Int):¬ c=.v (.int .u32 n):=fun e=>by
 subst e
 cases h
theorem cl_nu {α:Type} {size:Nat} {R:RT α} {z:Mem} {cs:List C} {l:List α} (hs:0<size) (h:CL size R z cs l) (hR:∀ ws a,R z ws a→∀ n,¬ C.v (.int .u32 n)∈ws) (n:Int):¬ C.v (.int .u32 n)∈cs:=fun hm=>by
 obtain ⟨i,hi,he⟩:=List.getElem_of_mem hm
 have hq:i / size<l.length:=by
  rw [h.1] at hi
  exact Nat.div_lt_of_lt_mul (by rwa [Nat.mul_comm])
 obtain ⟨a,ha⟩:=at_lt hq
 obtain ⟨h1,h2⟩:=h.2 _ a ha
 refine hR _ a h2 n ?_
 have h3:i / size * size+i % size=i:=by rw [Nat.mul_comm];exact Nat.div_add_mod i size
 have h4:((cs.drop (i / size * size)).take size)[i % size]? = some (C.v (.int .u32 n)):=by
  rw [List.getElem?_take,if_pos (Nat.mod_lt _ hs),List.getElem?_drop,h3,List.getElem?_eq_getElem hi,he]
 exact List.mem_of_getElem? h4
theorem rv_nu {z:Mem} {ws:List C} {q:Rat} (h:RV z ws q) (n:Int):¬ C.v (.int .u32 n)∈ws:=fun hm=>by
 obtain ⟨c,d,rfl,h1,h2⟩:=h
 simp only [List.mem_cons,List.not_mem_nil,or_false] at hm
 rcases hm with hm | hm | hm | hm
 ·cases hm
 ·exact cz_nu h1 n hm.symm
 ·cases hm
 exact cz_nu h2 n hm.symm
theorem rl_nu {z:Mem} {ws:List C} {r:PRow} (h:RLRow z ws r) (n:Int):¬ C.v (.int .u32 n)∈ws:=fun hm=>by
 obtain ⟨c,d,e,rfl,h1,h2,h3⟩:=h
 simp only [List.mem_cons] at hm
 rcases hm with hm | hm | hm
 ·exact cz_nu h1 n hm.symm
 ·exact cz_nu h2 n hm.symm
 cases hr:r.2 with
 | none =>
  rw [hr] at h3
  rw [show e=_ from h3] at hm
  simp at hm
 | some q =>
  rw [hr] at h3
  exact rv_nu h3 n hm
theorem sp_u {U:Mem} {bo Y m:Nat} {hs:List C} {T R:List (Ro Rat)} {P:List PRow} (h:XLed U bo hs T R P Y m) (hf:∀ b k k',U b k→U b k'→k=k'):SpU U bo hs T R:=
 ⟨hf,cl_nu (by decide) h.r fun ws a hr n=>rl_nu hr n,fun d hd=>cl_nu (by decide) (h.tk d hd) fun ws a hr n=>rv_nu hr n,fun d hd=>cl_nu (by decide) (h.qk d hd) fun ws a hr n=>rv_nu hr n,h.o,fun d hd=>(xb_num h.t hd).2,fun d hd=>(xb_num h.q hd).2⟩
theorem c_spoil_nil {k:Nat} (hk:1≤k) {z:Mem} {cI:C} {G:List HA}:FCt (E k) 31 [.agg [Cz,cI]] z G fun _ _ H'=>H'=[]:=by
 refine fct_of (tS_get31) (by omega) (len1 rfl) fun B j hj=>?_
 refine xR ?_
 refine fl_bx rfl fun b1=>?_
 refine lN ?_
 refine R5 4 O ?_
 refine fx_block ?_
 refine fx_loop (fun n fs=>∃ (i:Nat),LI z (.blk b1 (.cells 74 [Cz,cI])::G) [(1,Ap b1),(2,Az i)] fs∧n=0) ?_ _ ⟨0,LI.m [] O,rfl⟩ (kK (by omega))
 intro n fs ⟨i,hL0,hmz0⟩
 refine hL0.open fun e zl0 _=>?_
 refine R4 16 O ?_
 refine fl_ld1 rfl mem0 rfl ?_
 refine fl_len rfl rfl ?_
 refine R3 4 O ?_
 refine xD rfl (fun hc10=>?_) (fun hc10=>?_)
 ·omega
 refine fx_eseq ?_
 refine lq_e ?_
 refine ret_h (.inr rfl) rn (List.nil_sublist _) ?_
 rfl
theorem c_spoil_ok {k:Nat} (hk:1≤k) {z:Mem} {U:Mem} {bo Y m:Nat} {hs:List C} {T R:List (Ro Rat)} {P:List PRow} {cI:C} {G:List HA} (hX:XLed U bo hs T R P Y m) (hP:P.length=Y) (hPb:∀ r,r∈P→∃ b,r.2=some b) (hY:Y≤1000) (hm:m≤1000) (hU:SpU U bo hs T R) (hG:SpG U bo hs T R 0 G):FCt (E k) 31 [.agg [.sl bo 0 Y 6,cI]] z G fun _ _ H'=>H'=[]:=by
 refine fct_of (tS_get31) (by omega) (len1 rfl) fun B j hj=>?_
 refine xR ?_
 refine fl_bx rfl fun b1=>?_
 refine lN ?_
 refine R5 4 O ?_
 refine fx_block ?_
 refine fx_loop (fun n fs=>∃ (i:Nat) (Ga:List HA),LI z (.blk b1 (.cells 74 [.sl bo 0 Y 6,cI])::Ga) [(1,Ap b1),(2,Az i)] fs∧n=Y - i∧(i≤Y)∧(SpG U bo hs T R i Ga)) ?_ _ ⟨0,G,LI.m [] O,rfl,Nat.zero_le _,hG⟩ (kK (by omega))
 intro n fs ⟨i,Ga,hL0,hmz0,hi,hGa⟩
 refine hL0.open fun e zl0 _=>?_
 refine R4 16 O ?_
 refine fl_ld1 rfl mem0 rfl ?_
 refine fl_len rfl rfl ?_
 refine R3 4 O ?_
 refine xD rfl (fun hc10=>?_) (fun hc10=>?_)
 ·refine fx_kseq ?_
  refine fx_seq (fx_block ?_)
  refine fx_drwS ?_
  obtain ⟨d9,hd⟩:=at_lt (l:=T) (i:=i) (by rw [hX.tl];omega)
  obtain ⟨e8,he⟩:=at_lt (l:=R) (i:=i) (by rw [hX.ql];omega)
  obtain ⟨hd1,hd2⟩:=xb_num hX.t (List.mem_of_getElem? hd)
  obtain ⟨he1,he2⟩:=xb_num hX.q (List.mem_of_getElem? he)
  have hdl:=hX.tm d9 (List.mem_of_getElem? hd)
  have hel:=hX.qm e8 (List.mem_of_getElem? he)
  have hdc:=hX.tk d9 (List.mem_of_getElem? hd)
  have hec:=hX.qk e8 (List.mem_of_getElem? he)
  have hh0:=hX.th i d9 hd
  have hh1:=hX.qh i e8 he
  rw [hd1,hdl] at hh0
  rw [he1,hel] at hh1
  obtain ⟨Gb,hperm,hGb⟩:=sp_out hX.nd hGa hd he hd2 he2 hU
  obtain ⟨r,hr⟩:=at_lt (l:=P) (i:=i) (by rw [hP];omega)
  obtain ⟨bq,hbq⟩:=hPb r (List.mem_of_getElem? hr)
  obtain ⟨ct,cr,ce,cf,hcs,_,_,hqe,hqf⟩:=lrow_ok (hX.r.2 i r hr).2 hbq
  have hsl:hs.length=Y * 6:=by rw [hX.r.1,hP]
  have hCL:CL 4 RV U (d9.2.1++e8.2.1++[Cb (decide (bq.num<0)),ce,Cb (decide ((bq.den:Int)<0)),cf]) (d9.2.2++e8.2.2++[bq]):=(hdc.append hec).append (CL.one rfl ⟨_,_,rfl,hqe,hqf⟩)
  have hLL:(d9.2.2++e8.2.2++[bq]).length=m+m+1:=by rw [List.length_append,List.length_append,hdl,hel];rfl
  refine G1 2 O ?_
  refine gl1 O O Ht O ?_
  refine G1 2 O ?_
  refine gP rfl rfl trivial ?_
  refine fl_iad rfl rfl i rfl (by omega) (lN ?_)
  refine G1 2 O ?_
  refine fg_ld1 (i:=⟨_,_,.load _ _ _⟩) rfl rfl trivial rfl (.inr (memS hGa.o)) (by rw [Nat.zero_add];exact hh0) sR ?_
  refine G1 2 O ?_
  refine gl1 O O Ht O ?_
  refine G1 2 O ?_
  refine gP rfl rfl trivial ?_
  refine fl_iad rfl rfl i rfl (by omega) (lN ?_)
  refine G1 2 O ?_
  refine fg_ld1 (i:=⟨_,_,.load _ _ _⟩) rfl rfl trivial rfl (.inr (memS hGa.o)) (by rw [Nat.zero_add];exact hh1) sR ?_
  refine fg_app (i:=⟨_,_,.app _ _ _ _ _ _⟩) rfl trivial rfl rfl rfl rfl ?_
  refine fl_perm ((hperm.cons _).trans perm3) ?_
  refine fl_asrow (p:=[]) (n:=m) (size:=4) rfl (by rw [hdc.1,hdl]) ?_
  refine fl_appB (n:=m) (m:=m) (cs:=d9.2.1) rfl rfl Y1 (by rw [hec.1,hel]) (fun _=>rep0) (by omega) (by omega) fun c25 hc25=>lN ?_
  refine G0 2 O ?_
  refine R4 8 O ?_
  refine fl_ld1 rfl Y2 rfl ?_
  refine lC rfl ?_
  refine fl_iad rfl rfl i rfl (by omega) ?_
  refine lF rfl ?_
  refine fl_ld (v:=.agg [Cb (decide (bq.num<0)),ce,Cb (decide ((bq.den:Int)<0)),cf]) rfl (memS (memS (memS hGb.o))) (by rw [hsl];omega) (by rw [Nat.zero_add,drop_2 hcs];rfl) ?_
  refine fl_bslice (cs:=[Cb (decide (bq.num<0)),ce,Cb (decide ((bq.den:Int)<0)),cf]) rfl fun b33=>?_
  refine fl_appB (n:=m+m) (m:=1) (cs:=d9.2.1++e8.2.1) rfl rfl mem0 rfl (fun _=>repS rep0) (by omega) (by omega) fun c34 hc34=>?_
  refine R2 4 O ?_
  refine fl_rowC (p:=[_]) rfl (by omega) fun bl hbl=>?_
  have hbl:c34=.sl bl 0 (m+m+1) 4:=by injection hbl
  subst hbl
  refine fl_fr3 rfl ?_
  refine fl_fr2 rfl ?_
  refine fl_fr3 rfl ?_
  refine fl_fr3 rfl ?_
  refine R0 2 O ?_
  refine fx_block ?_
  refine fx_loop (fun n fs=>∃ (kk:Nat) (Gc:List HA),LI zl0 (.blk bl (.cells 35 (d9.2.1++e8.2.1++[Cb (decide (bq.num<0)),ce,Cb (decide ((bq.den:Int)<0)),cf]))::.blk b1 (.cells 74 [.sl bo 0 Y 6,cI])::Gc) [(1,Ap b1),(2,Az i),(3,.c (.sl bl 0 (m+m+1) 4)),(4,Az kk)] fs∧n=m+m+1 - kk∧(kk≤m+m+1)∧(SpG U bo hs T R (i+1) Gc)) ?_ _ ⟨0,Gb,LI.m [_,_] O,rfl,Nat.zero_le _,hGb⟩ (kK (by omega))
  intro n fs ⟨kk,Gc,hL1,hmz1,hkk,hGc⟩
  refine hL1.open fun e zl1 _=>?_
  refine R4 16 O ?_
  refine fl_len rfl rfl ?_
  refine R3 4 O ?_
  refine xD rfl (fun hc38=>?_) (fun hc38=>?_)
  ·refine fx_kseq ?_
   refine fx_seq (fx_block ?_)
   refine xR ?_
   obtain ⟨qk,hqk⟩:=at_lt (l:=(d9.2.2++e8.2.2++[bq])) (i:=kk) (by omega)
   obtain ⟨_,dc,dd,hcell,hdn,hdd⟩:=hCL.2 kk qk hqk
   have hd3:=drop_3 hcell
   have hddl:=hdd.le
   refine R0 2 O ?_
   refine fx_block ?_
   refine fx_loop (fun n fs=>∃ (nn:Nat) (Gd:List HA),LI zl1 (.blk bl (.cells 35 (d9.2.1++e8.2.1++[Cb (decide (bq.num<0)),ce,Cb (decide ((bq.den:Int)<0)),cf]))::.blk b1 (.cells 74 [.sl bo 0 Y 6,cI])::Gd) [(1,Ap b1),(2,Az i),(3,.c (.sl bl 0 (m+m+1) 4)),(4,Az kk),(5,Az nn)] fs∧n=(toL (qk.den:Int).natAbs).length - nn∧(nn≤(toL (qk.den:Int).natAbs).length)∧(SpG U bo hs T R (i+1) Gd)) ?_ _ ⟨0,Gc,LI.m [] O,rfl,Nat.zero_le _,hGc⟩ (kK (by omega))
   intro n fs ⟨nn,Gd,hL2,hmz2,hnn,hGd⟩
   refine hL2.open fun e zl2 _=>?_
   refine R4 32 O ?_
   refine fl_iad rfl rfl kk rfl (by omega) ?_
   refine R1 4 O ?_
   refine fl_ld1 rfl mem0 (by rw [Nat.zero_add];exact hd3) ?_
   refine fl_lenS rfl hdd ?_
   refine R3 4 O ?_
   refine xD rfl (fun hc49=>?_) (fun hc49=>?_)
   ·refine fx_kseq ?_
    refine fx_seq (fx_block ?_)
    refine xG ?_
    refine R1 4 O ?_
    refine fl_iad rfl rfl kk rfl (by omega) ?_
    refine R1 4 O ?_
    refine fl_ld1 rfl mem0 (by rw [Nat.zero_add];exact hd3) ?_
    refine lC rfl ?_
    refine fl_iadS rfl rfl hdd nn rfl _ (List.getElem?_eq_getElem (by omega)) fun b59 p59 cs at59 hR59=>?_
    have hR59:cs=_:=hR59
    subst hR59
    refine fl_stL (pre:=[_,_]) rfl hX.nd hU hGd rfl rfl rfl at59 fun Ge hGe=>?_
    refine lN ?_
    refine sq_n ?_
    refine xG ?_
    refine lC rfl ?_
    refine lB rfl rfl (bI_add (n:=nn+1) (by omega) (by omega)) ?_
    refine R0 2 O ?_
    exact lq_n (by omega) ⟨nn+1,Ge,LI.m [] O,rfl,by omega,hGe⟩
   refine fx_eseq ?_
   refine lq_e ?_
   refine sq_n ?_
   refine xG ?_
   refine lC rfl ?_
   refine lB rfl rfl (bI_add (n:=kk+1) (by omega) (by omega)) ?_
   refine R0 2 O ?_
   exact lq_n (by omega) ⟨kk+1,Gd,LI.m [] O,rfl,by omega,hGd⟩
  refine fx_eseq ?_
  refine lq_e ?_
  refine sq_n ?_
  refine xG ?_
  refine lC rfl ?_
  refine lB rfl rfl (bI_add (n:=i+1) (by omega) (by omega)) ?_
  refine R0 2 O ?_
  exact lq_n (by omega) ⟨i+1,Gc,LI.m [_] O,rfl,by omega,hGc⟩
 refine fx_eseq ?_
 refine lq_e ?_
 refine ret_h (.inr rfl) rn (List.nil_sublist _) ?_
 rfl
open Go.CE Go.RowKit Go.Num
open Go.Eng (setL)
theorem fl_thawY {call:Call'} {B:Base} {fs:Sf} {l:List I} {Q:Sf→Prop} {zA zB:Mem} (hA:zle B.z zA) (hAB:zle zA zB) (hB:zle zB fs.z)
  (hw:∀ (G:List HA) (zt:Mem),(∀ b k,zd zA zB b k→HA.blk b k∈G)→(∀ b k k',zd zA zB b k→zd zA zB b k'→k=k')→zle zA zt→FL call B l ⟨fs.e,zt,G++fs.H⟩ Q):FL call B l fs Q:=
 fl_thaw hA hAB hB fun G zt h1 _ h3 h4 _=>hw G zt (fun b k h=>(h1 b k).2 h) (fun b k k' g1 g2=>h3 b k k' ((h1 b k).2 g1) ((h1 b k').2 g2)) h4
def RunOut (U:Mem) (c:C) (P:List PRow):Prop:=(c=Cz∧P=[])∨∃ bo hs T R Y m,c=.sl bo 0 Y 6∧XLed U bo hs T R P Y m∧P.length=Y∧Y≤1000∧m≤1000∧∀ r,r∈P→∃ b,r.2=some b
theorem RunOut.cz {U:Mem} {c:C} {P:List PRow} (h:RunOut U c P):CZ 6 RLRow U c P:=by
 rcases h with ⟨rfl,rfl⟩ | ⟨bo,hs,T,R,Y,m,rfl,hX,hP,hY,_,_⟩
 ·exact .nil
 exact hX.r.sz hP (by omega) hX.o
theorem RunOut.b {U:Mem} {c:C} {P:List PRow} (h:RunOut U c P):∀ r,r∈P→∃ b,r.2=some b:=by
 rcases h with ⟨_,rfl⟩ | ⟨_,_,_,_,_,_,_,_,_,_,_,h⟩
 ·exact fun r hr=>absurd hr List.not_mem_nil
 exact h
theorem spoil_fc {k:Nat} (hk:1≤k) {U z:Mem} {c cI:C} {P:List PRow} {G:List HA} (h:RunOut U c P) (hm:∀ b k,U b k→HA.blk b k∈G) (hf:∀ b k k',U b k→U b k'→k=k') (hr:∀ b k,U b k→k.isRo=false):FCt (E k) 31 [.agg [c,cI]] z G fun _ _ H'=>H'=[]:=by
 rcases h with ⟨rfl,_⟩ | ⟨bo,hs,T,R,Y,m,rfl,hX,hP,hY,hmm,hb⟩
 ·exact c_spoil_nil hk
 exact c_spoil_ok hk hX hP hb hY hmm (sp_u hX hf) (sp0 (sp_u hX hf) hm hr)
theorem errq_eq {ms:List (List Bool)} {pi e f:Int} {goods:List PGood} {sales:List PSale} (h:ErrQ ms pi goods sales e) (g:ErrQ ms pi goods sales f):e=f:=by
 rcases h with ⟨h,h1,h2⟩ | ⟨h,h1,h2⟩ | ⟨h,h1⟩<;>rcases g with ⟨g,g1,g2⟩ | ⟨g,g1,g2⟩ | ⟨g,g1⟩<;>first | exact h.trans g.symm | exact absurd h2 g2 | exact absurd g2 h2 | exact absurd h1 g1 | exact absurd g1 h1
theorem ss6 {ms:List (List Bool)} {goods:List PGood} {sales:List PSale} (h:SmallP ms goods sales):∀ a,a∈sales→a.sh.nm.length≤1000000∧a.sh.dm.length≤1000000:=fun a ha=>by
 have:=h.ss a ha
 omega
theorem zd_ro {zA zB:Mem}:∀ b k,zd zA zB b k→k.isRo=false:=fun _ _ h=>h.2.2
theorem rowsK_b {tk rl:List Ent} {Y m:Nat} {r:PRow} (h:r∈rowsK tk rl Y m Y):∃ b,r.2=some b:=by
 rw [rowsK] at h
 obtain ⟨y,hy,rfl⟩:=List.mem_map.1 h
 exact ⟨_,if_pos (List.mem_range.1 hy)⟩
theorem run_z {k:Nat} (hk:16≤k) {z:Mem} {cM:C} {pi:Int} {gv sv:AV} {ms:List (List Bool)} {goods:List PGood} {sales:List PSale} (hm:CZ 1 (RC 1 (RE Value.bool)) z cM ms) (hG:SZ 12 RGood z gv goods) (hS:SZ 6 RSale z sv sales) (h:SmallP ms goods sales):FC (E k) 29 [.c cM,Ai pi,gv,sv] z fun u z'=>∃ (e:Int) (cR cI:C),u=.tup [.agg [cR,cI],Ai e]∧ErrQ ms pi goods sales e∧RunOut (zd z z') cR (rowsX ms pi goods sales e)∧CZ 17 RItem z' cI (itemsX ms pi goods sales e):=FC.mono (c_profit_RunW hk hm hG hS h.m h.r h.g h.gs h.s h.ss) fun u z' _ ⟨h1,h2,h3⟩=>by
 by_cases hR:RightG ms pi goods sales
 ·by_cases hS:SoldG ms goods sales
  ·obtain ⟨bo,hs,T,R,cI,e,g1,g2,_⟩:=h3 hR hS
   exact ⟨0,_,cI,e,.inl ⟨rfl,hR,hS⟩,.inr ⟨bo,hs,T,R,_,_,rfl,by rw [rowsX,if_pos rfl];exact g1,by rw [rowsX,if_pos rfl];exact rowsK_len,by have:=h.m;omega,by have:=ents8 h.r;omega,fun r hr=>by rw [rowsX,if_pos rfl] at hr;exact rowsK_b hr⟩,by rw [itemsX,if_pos rfl];exact g2⟩
  exact ⟨220,_,_,h2 hR hS,.inr (.inl ⟨rfl,hR,hS⟩),.inl ⟨rfl,by rw [rowsX,if_neg (by decide)]⟩,by rw [itemsX,if_neg (by decide)];exact .nil⟩
 exact ⟨2,_,_,h1 hR,.inr (.inr ⟨rfl,hR⟩),.inl ⟨rfl,by rw [rowsX,if_neg (by decide)]⟩,by rw [itemsX,if_neg (by decide)];exact .nil⟩
theorem c_law22_ProfitRuns {k:Nat} (hk:18≤k) {z:Mem} {cM:C} {pi:Int} {gv sv:AV} {ms:List (List Bool)} {goods:List PGood} {sales:List PSale} (hm:CZ 1 (RC 1 (RE Value.bool)) z cM ms) (hG:SZ 12 RGood z gv goods) (hS:SZ 6 RSale z sv sales):FC (E k) 4 [.c cM,Ai pi,gv,sv] z fun u _=>u=bool_ true:=by
 refine fc_of (tS_get4) (by omega) (len1 rfl) fun B j hj=>?_
 refine fx_base fun hB0=>?_
 refine R4 224 O ?_
 refine lZ z (c_law22_small (by omega) hm hG hS) rfl rfl fun v19 z19 hz19 ⟨w19,hv19,hs19⟩=>?_
 subst hv19
 refine R3 4 O ?_
 refine fx_condB rfl (fun hc20=>?_) (fun hc20=>?_)
 ·refine R4 4 O ?_
  refine lE z19 (c_law22_works (by omega)) O O fun z21 _=>?_
  refine R0 3 O ?_
  refine fx_rseq ?_
  refine rI O ?_
  rfl
 refine R4 4 O ?_
 have hsm:=hs19 (nf_t hc20)
 have hgl:=hsm.g
 refine lM rfl ?_
 refine lZ z19 (c_law22_refGoods (by omega) hG.m (by omega) hsm.gs) rfl rfl fun v23 z23 hz23 hv23=>?_
 have hv23:=hv23.mono (zAq (hz19))
 refine lM rfl ?_
 refine lZ z23 (c_law22_refSales (by omega) hS.m (by have:=hsm.s;omega) (ss6 hsm)) rfl rfl fun v25 z25 _ hv25=>?_
 have hv25:=hv25.mono (zAq (hz19.trans hz23))
 refine R2 227 O ?_
 refine lZ z25 (c_ref22_Run (by omega) hm.m hv23.m (hv25.mono zd_le) hsm.m hsm.r hsm.g hsm.gs hsm.s hsm.ss) rfl rfl fun v31 z31 _ ⟨e31,cS,cJ,hv31,hEQ,hRR,hRI⟩=>?_
 subst hv31
 refine R1 9 O ?_
 refine fl_al2 fun b11=>?_
 refine fl_st2 rfl rfl rep0 ?_
 refine R3 17 O ?_
 refine fx_seq (fx_block ?_)
 refine fx_loop (fun n fs=>∃ (t:Nat),LI z31 [.blk b11 (.cells 67 [cS,cJ])] [(0,.c cM),(1,Ai pi),(2,gv),(3,sv),(9,v23),(10,v25),(11,Ap b11),(12,Ai e31),(13,Az t)] fs∧n=2 - t∧(t≤2)) ?_ _ ⟨0,LI.m [] O,rfl,Nat.zero_le _⟩ (kK (by omega))
 intro n fs ⟨t,hL0,hmz0,ht⟩
 refine hL0.open fun e zl0 hzl0=>?_
 refine R5 32 O ?_
 refine xD rfl (fun hc35=>?_) (fun hc35=>?_)
 ·refine fx_kseq ?_
  refine fx_seq (fx_block ?_)
  refine R4 56 O ?_
  refine lZ zl0 (run_z (by omega) hm.m hG.m hS.m hsm) rfl rfl fun v43 z43 _ ⟨e43,cR,cI,hv43,hEQ2,hRO,hXI⟩=>?_
  subst hv43
  have heq:=errq_eq hEQ hEQ2
  subst heq
  have hXR:=hRO.cz.mono zd_le
  refine R1 9 O ?_
  refine fl_al2 fun b14=>?_
  refine fl_st2 rfl rfl rep0 ?_
  refine R2 41 O ?_
  refine lB rfl rfl neqI ?_
  refine lC rfl ?_
  refine lD rfl ?_
  refine fl_ld2 rfl mem0 rfl ?_
  refine lD rfl ?_
  refine fl_ld2 rfl Y1 rfl ?_
  refine lD rfl ?_
  refine lE z43 (c_law22_is (by omega) hXR hRR.m hXI hRI.m hRO.b) O O fun z52 _=>?_
  refine R3 32 O ?_
  refine xG ?_
  refine fl_ld2 rfl mem0 rfl ?_
  refine fl_thawY (zA:=zl0) (zB:=z43) zI zI zI fun G zt hGm hGf hzt=>?_
  refine fl_callLZ zt G (spoil_fc (by omega) hRO hGm hGf zd_ro) rfl rfl rfl fun v56 z56 H56 _ hv56=>?_
  subst hv56
  refine lN ?_
  refine sq_n ?_
  refine xG ?_
  refine lC rfl ?_
  refine lB rfl rfl (bI_add (n:=t+1) (by omega) (by omega)) ?_
  refine R0 2 O ?_
  exact lq_n (by omega) ⟨t+1,LI.mk [_] (hzl0.trans (hzt.trans zI)) (atc rfl (atc rfl (atc rfl (atc rfl (atc rfl (atc rfl (atc rfl (atc rfl (atc rfl atn))))))))),rfl,by omega⟩
 refine fx_eseq ?_
 refine lq_e ?_
 refine sq_n ?_
 refine R4 14 O ?_
 refine lE zl0 (c_law22_sameGoods (by omega) hG.m hv23.m) O O fun z59 _=>?_
 refine R1 15 O ?_
 refine lD rfl ?_
 refine lE z59 (c_law22_sameSales (by omega) hS.m hv25.m) O O fun z63 _=>?_
 refine R1 6 O ?_
 refine lD rfl ?_
 refine lE z63 (c_law22_works (by omega)) O O fun z66 _=>?_
 refine R0 6 O ?_
 refine xT ?_
 refine rI O ?_
 rfl
end Go.Proofs.YtlceligcgelbdaaGreat
