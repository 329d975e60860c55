/- Sales put to their goods; what is released, walked. -/
import Derived.WalkKit
import Derived.Orders
import Derived.Test.YtlceligcgelbdaaGreatJF3
set_option linter.unusedVariables false
set_option linter.unusedSimpArgs false
set_option maxRecDepth 100000
set_option maxHeartbeats 1000000
namespace Go.Proofs.YtlceligcgelbdaaGreat
open Go.CE Go.RowKit Go.Num
open Go.Eng (setL)
theorem at0p {z:Mem} {b ty:Nat} {cs:List C} (h:z b (.cells ty cs)):At z b 0 cs:=⟨_,cs,h,rfl,by simp,by simp⟩
def GOk (z:Mem) (F:List (Fg PSale)):Prop:=∀ y,y∈F→CL 6 RSale z y.d.2.1 y.d.2.2
theorem GOk.mono {z z':Mem} {F:List (Fg PSale)} (h:GOk z F) (hz:zle z z'):GOk z' F:=fun y hy=>(h y hy).mono hz
theorem GOk.m {z z':Mem} {F:List (Fg PSale)} (h:GOk z F) [q:Zl z z']:GOk z' F:=h.mono q.h
def GZ (z:Mem) (F:List (Fg PSale)):Prop:=∀ d,d∈F.map Fg.d→CZ 6 RSale z d.1 d.2.2
theorem GZ.mono {z z':Mem} {F:List (Fg PSale)} (h:GZ z F) (hz:zle z z'):GZ z' F:=fun d hd=>SZ.mono (h d hd) hz
theorem GZ.m {z z':Mem} {F:List (Fg PSale)} (h:GZ z F) [q:Zl z z']:GZ z' F:=h.mono q.h
theorem tx_bs (k:List UInt8):tx (bs k)=k:=by simp [tx,bs]
section
variable {z:Mem} {F F1 F2:List (Fg PSale)} {x:Fg PSale} {k:List UInt8} {ck c':Nat} {d':Ro PSale} {sales:List PSale} {i:Nat} {a:PSale} {ms:List (List Bool)} {goods:List PGood} {g:PGood}
theorem gok_x (h:GOk z F) (h4:(F1++x::F2=F∧c'=ck)∨(F1=F∧F2=[]∧x=emptyG k ck∧c'=ck+1)):CL 6 RSale z x.d.2.1 x.d.2.2:=gam_x (P:=fun d=>CL 6 RSale z d.2.1 d.2.2) h CL.nil h4
theorem gok_step (h:GOk z F) (h4:(F1++x::F2=F∧c'=ck)∨(F1=F∧F2=[]∧x=emptyG k ck∧c'=ck+1)) (g:CL 6 RSale z d'.2.1 d'.2.2):GOk z (F1++⟨k,x.n,d'⟩::F2):=gam_all (P:=fun d=>CL 6 RSale z d.2.1 d.2.2) h h4 g
theorem sold_l (ha:sales[i]? = some a) (hlo:∀ id:ByteArray,lOf F (tx id)=salesOf (sales.take i) id) (h3:x.d.2.2=lOf F (tx a.id)) (h4:(F1++x::F2=F∧c'=ck)∨(F1=F∧F2=[]∧x=emptyG (tx a.id) ck∧c'=ck+1)) (h5:∀ y,y∈F1→y.k≠tx a.id) (h1:x.k=tx a.id) {c:C} {cs:List C} :
    ∀ id:ByteArray,lOf (F1++⟨tx a.id,x.n,(c,cs,x.d.2.2++[a])⟩::F2) (tx id)=salesOf (sales.take (i+1)) id:=fun id=>by
  rw [lOf_step h4 h5 h1,salesOf,tk_some ha,List.filter_append]
  by_cases hid:tx id=tx a.id
  · have e:=tx_inj.1 hid
    subst e
    rw [if_pos rfl,h3,hlo,List.filter_cons,decide_eq_true rfl]
    rfl
  · have e : ¬ a.id = id := fun e => hid (by rw [e])
    rw [if_neg hid,hlo,List.filter_cons,decide_eq_false e]
    simp [salesOf]
theorem sold_k (ha:sales[i]? = some a) (hke:∀ y,y∈F→∃ s,s∈sales.take i∧y.k=tx s.id) (h4:(F1++x::F2=F∧c'=ck)∨(F1=F∧F2=[]∧x=emptyG (tx a.id) ck∧c'=ck+1)) {d':Ro PSale}:∀ y,y∈F1++⟨tx a.id,x.n,d'⟩::F2→∃ s,s∈sales.take (i+1)∧y.k=tx s.id:=fun y hy=>by
 have hk:y∈F→∃ s,s∈sales.take (i+1)∧y.k=tx s.id:=fun hy=>by
  obtain ⟨s,h1,h2⟩:=hke y hy
  exact ⟨s,by rw [tk_some ha];exact List.mem_append_left _ h1,h2⟩
 have hin:y∈F1∨y∈F2→y∈F:=fun hy=>by
  rcases h4 with ⟨h4,_⟩ | ⟨rfl,rfl,_⟩
  ·rw [← h4];rcases hy with hy | hy<;>simp [hy]
  rcases hy with hy | hy
  ·exact hy
  cases hy
 rcases List.mem_append.1 hy with hy | hy
 ·exact hk (hin (.inl hy))
 rcases List.mem_cons.1 hy with rfl | hy
 ·exact ⟨a,by rw [tk_some ha];simp,rfl⟩
 exact hk (hin (.inr hy))
theorem gam_row (h:BornF F ck) (hl:∀ id:ByteArray,lOf F (tx id)=salesOf sales id) (hx:x∈F):x.d.2.2=salesOf sales (bs x.k):=by
 rw [← lOf_mem h hx,← hl,tx_bs]
theorem gam_xl (h:BornF F ck) (hl:∀ id:ByteArray,lOf F (tx id)=salesOf sales id) (hx:x∈F) (hs:sales.length≤1000):x.d.2.2.length≤1000:=by
 rw [gam_row h hl hx]
 exact Nat.le_trans (List.length_filter_le _ _) hs
theorem gam_sub (h:BornF F ck) (hl:∀ id:ByteArray,lOf F (tx id)=salesOf sales id) (hx:x∈F) (ha:a∈x.d.2.2):a∈sales:=by
 rw [gam_row h hl hx] at ha
 exact (List.mem_filter.1 ha).1
theorem gok_all (h:GOk z F) (hb:BornF F ck) (hl:∀ id:ByteArray,lOf F (tx id)=salesOf sales id) (hs:sales.length≤1000):∀ d,d∈F.map Fg.d→CL 6 RSale z d.2.1 d.2.2∧d.2.2.length≤9223372036854775807:=fun d hd=>by
 obtain ⟨x,hx,rfl⟩:=List.mem_map.1 hd
 exact ⟨h x hx,Nat.le_trans (gam_xl hb hl hx hs) (by decide)⟩
theorem gam_nd (h:BornF F ck):((F.map Fg.ent).map fun e=>e.2.2).Nodup:=by
 have:=h.nd
 rw [List.map_map]
 exact this
theorem gam_lt (h:BornF F ck):∀ e,e∈F.map Fg.ent→e.2.2<ck:=fun e he=>by
 obtain ⟨x,hx,rfl⟩:=List.mem_map.1 he
 exact h.lt x hx
def badF (F:List (Fg PSale)) (d:Value×AV×Nat):Prop:=∃ k,d.1=.string (bs k)∧1<sumQ ((lOf F k).map fun s=>rv s.sh)
theorem bad_x (h:BornF F ck) (hx:x∈F) (hb:badF F x.ent):1<sumQ (x.d.2.2.map fun s=>rv s.sh):=by
 obtain ⟨k,h1,h2⟩:=hb
 have h3:bs x.k=bs k:=by injection h1
 have h4:x.k=k:=by rw [← tx_bs x.k,h3,tx_bs]
 rw [← h4,lOf_mem h hx] at h2
 exact h2
theorem x_bad (h:BornF F ck) (hx:x∈F) (hb:1<sumQ (x.d.2.2.map fun s=>rv s.sh)):badF F x.ent:=⟨x.k,rfl,by rw [lOf_mem h hx];exact hb⟩
theorem sold_b (hl:∀ id:ByteArray,lOf F (tx id)=salesOf sales id) (hno:∀ d,d∈F.map Fg.ent→¬ badF F d):∀ s,s∈sales→sumQ ((salesOf sales s.id).map fun x=>rv x.sh)≤1:=fun s hs=>by
 have hm:s∈salesOf sales s.id:=List.mem_filter.2 ⟨hs,decide_eq_true rfl⟩
 have hne:lOf F (tx s.id)≠[]:=fun h=>by rw [hl] at h;rw [h] at hm;cases hm
 obtain ⟨x,hx,hk,_⟩:=lOf_ex hne
 have h1:=hno x.ent (List.mem_map.2 ⟨x,hx,rfl⟩)
 refine Rat.not_lt.1 fun h=>h1 ⟨x.k,rfl,?_⟩
 rw [hk,hl]
 exact h
theorem sold_nb (hl:∀ id:ByteArray,lOf F (tx id)=salesOf sales id) {d:Value×AV×Nat} (hd:d∈F.map Fg.ent) (hb:badF F d):¬ SoldG ms goods sales:=fun r=>by
 obtain ⟨k,_,h2⟩:=hb
 have h3:lOf F k=salesOf sales (bs k):=by rw [← hl,tx_bs]
 rw [h3] at h2
 cases hs:salesOf sales (bs k) with
 | nil=>rw [hs] at h2;exact absurd h2 (by decide)
 | cons s l =>
  have hm:s∈salesOf sales (bs k):=by rw [hs];exact List.mem_cons_self ..
  obtain ⟨m1,m2⟩:=List.mem_filter.1 hm
  have e:=of_decide_eq_true m2
  rw [← e] at h2
  exact Rat.not_lt.2 (r.b s m1) h2
theorem sold_n1 (ha:sales[i]? = some a) (h:fstI (fun b:PGood=>decide (b.id=a.id)) goods<0):¬ SoldG ms goods sales:=fun r=>by
 obtain ⟨g,h1,h2,_⟩:=r.a a (List.mem_of_getElem? ha)
 have:=fst_none (show ¬ fstI (fun b:PGood=>decide (b.id=a.id)) goods ≥ 0 by omega) g h1
 exact absurd h2 (of_decide_eq_false this)
theorem nd_inj:∀ {goods:List PGood} {g h:PGood},(goods.map PGood.id).Nodup→g∈goods→h∈goods→g.id=h.id→g=h
 | [],_,_,_,hg,_,_=>by cases hg
 | x::l,g,h,hn,hg,hh,e=>by
  simp only [List.map_cons,List.nodup_cons] at hn
  rcases List.mem_cons.1 hg with h1 | h1<;>rcases List.mem_cons.1 hh with h2 | h2
  ·rw [h1,h2]
  ·exact absurd (List.mem_map.2 ⟨h,h2,by rw [← e,h1]⟩) hn.1
  ·exact absurd (List.mem_map.2 ⟨g,h1,by rw [e,h2]⟩) hn.1
  exact nd_inj hn.2 h1 h2 e
theorem sold_n2 {ig:Nat} (ha:sales[i]? = some a) (hnd:(goods.map PGood.id).Nodup) (hg:goods[ig]? = some g) (hid:g.id=a.id) (h:a.yr≤g.yr):¬ SoldG ms goods sales:=fun r=>by
 obtain ⟨g',h1,h2,h3,_⟩:=r.a a (List.mem_of_getElem? ha)
 have e:=nd_inj hnd h1 (List.mem_of_getElem? hg) (h2.trans hid.symm)
 subst e
 omega
theorem sold_n3 (ha:sales[i]? = some a) (h:a.yr ≥ (ms.length:Int)):¬ SoldG ms goods sales:=fun r=>by
 obtain ⟨_,_,_,_,h4⟩:=r.a a (List.mem_of_getElem? ha)
 omega
end
theorem sumS_tk {l:List PSale} {i:Nat} {s:PSale} (h:l[i]? = some s):sumQ ((l.take (i+1)).map fun s=>rv s.sh)=sumQ ((l.take i).map fun s=>rv s.sh)+rv s.sh:=by
 have h2:(l.map fun s=>rv s.sh)[i]? = some (rv s.sh):=by rw [List.getElem?_map,h];rfl
 have:=sumQ_tk h2
 rw [← List.map_take,← List.map_take] at this
 exact this
theorem sg_gt {p q:Rat}:(p.num * (q.den:Int) - q.num * (p.den:Int)).sign > 0↔q<p:=by
 rw [← Rat.not_le,← sg_le (p:=p) (q:=q)]
 omega
theorem c_profit_runner_sold {k:Nat} (hk:11≤k) {z:Mem} {br n0:Nat} {pa:Int} {cR cI cM cS:C} {gv sv:AV} {ms:List (List Bool)} {goods:List PGood} {sales:List PSale} (hm:CZ 1 (RC 1 (RE Value.bool)) z cM ms) (hnd:(goods.map PGood.id).Nodup) (hG:SZ 12 RGood z gv goods) (hS:SZ 6 RSale z sv sales) (hSs:∀ a,a∈sales→a.sh.nm.length≤1000∧a.sh.dm.length≤1000) (hSl:sales.length≤1000):FCt (E k) 79 [Ap br,gv,sv] z [.blk br (.cells 192 [cR,cI,cM,Ci (n0:Nat),Ci pa,cS])] fun u z' H'=>∃ b:Bool,u=bool_ b∧(b=true↔SoldG ms goods sales)∧(b=true→∃ bm F ck,H'=[.blk br (.cells 192 [cR,cI,cM,Ci (n0:Nat),Ci pa,.mp bm])]∧z' bm (.mp (F.map Fg.ent) ck)∧∀ id:ByteArray,CZ 6 RSale z' (uOg F (tx id)) (lOf F (tx id))∧lOf F (tx id)=salesOf sales id):=by
 have hgl:=hG.le
 have hsl:=hS.le
 refine fct_of (tS_get79) (by omega) (len1 rfl) fun B j hj=>?_
 refine R4 16 O ?_
 refine fl_mkm fun b16=>?_
 refine fl_nilck rfl ?_
 refine lF rfl ?_
 refine fl_stE (cs':=[cR,cI,cM,Ci (n0:Nat),Ci pa,.mp b16]) rfl rfl rfl P1 rfl rfl (Nat.le_of_ble_eq_true rfl) ?_
 refine fl_many0 ?_
 refine lN ?_
 refine R4 12 O ?_
 refine fl_lenS rfl hS ?_
 refine R0 2 O ?_
 refine fx_seq (fx_block ?_)
 refine fx_loop (fun n fs=>∃ (i:Nat) (F:List (Fg PSale)) (ck:Nat) (zz:Mem),LZ z zz [gamR 173 6 F,gamM b16 F ck,.blk br (.cells 192 [cR,cI,cM,Ci (n0:Nat),Ci pa,.mp b16])] [(0,Ap br),(1,gv),(19,sv),(20,Az sales.length),(21,Az i)] fs∧n=sales.length - i∧(i≤sales.length)∧(BornF F ck)∧(∀ id:ByteArray,lOf F (tx id)=salesOf (sales.take i) id)∧(GOk zz F)∧(∀ s,s∈sales.take i→saleB ms goods s)∧(∀ y,y∈F→∃ s,s∈sales.take i∧y.k=tx s.id)) ?_ _ ⟨0,[],0,_,LZ.m [] O,rfl,Nat.zero_le _,BornF.nil,fun id=>rfl,fun y hy=>absurd hy List.not_mem_nil,fun s hs=>absurd hs List.not_mem_nil,fun y hy=>absurd hy List.not_mem_nil⟩ (kK (by omega))
 intro n fs ⟨i,F,ck,zz,hL0,hmz0,hi,hbo,hlo,hgo,hsa,hke⟩
 refine hL0.open fun e hzz=>?_
 refine R5 8 O ?_
 refine xD rfl (fun hc22=>?_) (fun hc22=>?_)
 ·refine fx_kseq ?_
  refine fx_seq (fx_block ?_)
  refine xR ?_
  obtain ⟨a,ha⟩:=at_lt (l:=sales) (i:=i) (by omega)
  have hsz:=hSs a (List.mem_of_getElem? ha)
  refine fl_iadS (zz:=zz) rfl rfl hS.m i rfl a ha fun b23 p23 cs at23 hR=>?_
  obtain ⟨e0,e1,hcs,s0,s1⟩:=hR
  subst hcs
  refine fl_ldA (off:=0) rfl at23 rfl (by simp) rfl ?_
  refine fl_alloc fun b8=>?_
  refine fl_stAll rfl rfl rfl rfl rep0 ?_
  refine fl_frzZ zz (p:=[]) rfl rfl rfl (fun _ h=>h) fun zff8 _ f8=>?_
  obtain ⟨F1,w1,F2,ck1,hw1,hw2,hw3,hw4,hw5,hw6⟩:=gamS a.id ck F
  have hwl:w1.d.2.2.length≤1000:=by
   rw [hw3,hlo]
   exact Nat.le_trans (List.length_filter_le _ _) (by rw [List.length_take];omega)
  refine fl_gam (p:=[]) rfl hw4 ?_
  refine lN ?_
  refine R4 6 O ?_
  refine fl_mkf rfl rfl ?_
  refine lE zff8 (c_slices_IndexFunc___profit_Good_profit_Good_ (by omega) hG.m (at0p f8)) O O fun z27 _=>?_
  refine R3 5 O ?_
  refine fx_drwS ?_
  refine G1 9 O ?_
  refine fg_splitD 30 rfl (fun hg30=>?_) (fun hg30=>?_)
  ·refine G0 524800 O ?_
   refine R5 32 O ?_
   refine fx_rseq ?_
   refine sq_r ?_
   refine lq_r ?_
   refine sq_r ?_
   refine ret_h (.inl rfl) (rt rfl rn) (List.Sublist.refl _) ?_
   exact ⟨false,rfl,⟨fun h=>(by cases h),fun h=>absurd h (sold_n1 ha hg30)⟩,fun h=>(by cases h)⟩
  refine G1 2 O ?_
  refine fg_ldA (i:=⟨_,_,.load _ _ _⟩) (off:=1) rfl rfl rfl rfl (at0p f8) ti rfl (by simp) rfl sR ?_
  refine G1 7 O ?_
  obtain ⟨ig,g,hig,hgg,hgid⟩:=fst_get (Int.not_lt.1 hg30)
  replace hgid:=of_decide_eq_true hgid
  refine gP rfl rfl rfl ?_
  refine fl_iadS rfl rfl hG ig hig g hgg fun b35 p35 cs at35 hR=>lN ?_
  obtain ⟨g0,g1,g2,g3,hcs,t0,t1,t2,t3⟩:=hR
  subst hcs
  refine G1 2 O ?_
  refine fg_ldA (i:=⟨_,_,.load _ _ _⟩) (off:=1) rfl rfl rfl rfl at35 ti rfl (by simp) rfl sR ?_
  refine G1 12 O ?_
  refine fg_splitD 40 rfl (fun hg40=>?_) (fun hg40=>?_)
  ·refine G0 512 O ?_
   refine R5 32 O ?_
   refine fx_rseq ?_
   refine sq_r ?_
   refine lq_r ?_
   refine sq_r ?_
   refine ret_h (.inl rfl) (rt rfl rn) (List.Sublist.refl _) ?_
   exact ⟨false,rfl,⟨fun h=>(by cases h),fun h=>absurd h (sold_n2 ha hnd hgg hgid hg40)⟩,fun h=>(by cases h)⟩
  refine G1 2 O ?_
  refine fg_ldA (i:=⟨_,_,.load _ _ _⟩) (off:=1) rfl rfl rfl rfl (at0p f8) ti rfl (by simp) rfl sR ?_
  refine G1 2 O ?_
  refine gP rfl rfl rfl ?_
  refine fl_nilck rfl (lN ?_)
  refine G1 2 O ?_
  refine gl1 O O (.inr Y2) O ?_
  refine gP rfl rfl rfl ?_
  refine fl_lenS rfl hm (lN ?_)
  refine G0 4 O ?_
  refine fx_cseq ?_
  refine xD rfl (fun hc49=>?_) (fun hc49=>?_)
  ·refine R5 8 O ?_
   refine fx_rseq ?_
   refine sq_r ?_
   refine lq_r ?_
   refine sq_r ?_
   refine ret_h (.inl rfl) (rt rfl rn) (List.Sublist.refl _) ?_
   exact ⟨false,rfl,⟨fun h=>(by cases h),fun h=>absurd h (sold_n3 ha hc49)⟩,fun h=>(by cases h)⟩
  refine fx_kseq ?_
  refine fx_drw ?_
  refine G1 2 O ?_
  refine gP rfl rfl trivial ?_
  refine fl_nilck rfl (lN ?_)
  refine G1 2 O ?_
  refine gl1 O O (.inr Y2) O ?_
  refine G1 2 O ?_
  refine fg_ldA (i:=⟨_,_,.load _ _ _⟩) (off:=0) rfl rfl trivial rfl (at0p f8) ti rfl (by simp) rfl sR ?_
  refine G1 2 O ?_
  refine gP rfl rfl trivial ?_
  refine fl_nilck rfl (lN ?_)
  refine G1 2 O ?_
  refine gl1 O O (.inr Y2) O ?_
  refine G1 2 O ?_
  refine fg_ldA (i:=⟨_,_,.load _ _ _⟩) (off:=0) rfl rfl trivial rfl (at0p f8) ti rfl (by simp) rfl sR ?_
  obtain ⟨r62,hf62,hv62⟩:=findG a.id F
  rw [← hw2] at hv62
  refine fg_look (i:=⟨_,_,.look _ _ _ _ _ _⟩) rfl rfl trivial rfl rfl rfl rfl Y1 hf62 hv62 ?_
  refine fg_ldA (i:=⟨_,_,.load _ _ _⟩) (off:=0) rfl rfl trivial rfl (at0p f8) ti rfl (by simp) rfl sR ?_
  refine fg_own (k:=.cells 173 [Cs a.id,Ci a.yr,Cb a.sh.n,e0,Cb a.sh.d,e1]) (w:=fun b=>.c (.sl b 0 1 6)) rfl trivial rfl (fun _=>rfl) (fun st hst=>?_) (fun b64 hT64=>?_)
  ·simp only [stepE,fillS,AS.ev,hst 63 (by simp [Ins.sl,Od.sls,Od.sl])];rfl
  refine fg_appM (i:=⟨_,_,.app _ _ _ _ _ _⟩) (u:=.c w1.d.1) (ty:=173) (ty':=173) (size:=6) (n:=w1.d.2.2.length) (m:=0) (p:=(F1.map Fg.d).map (rowT 173 6)) (q:=(F2.map Fg.d).map (rowT 173 6)) (cs:=w1.d.2.1) rfl rfl trivial rfl rfl (fun _ _ h=>h.imp (fun h=>h) memS) rfl rfl mem0 (fun _=>repS rep0) rfl (by omega) (by omega) fun c65 hc65=>?_
  refine fg_mupd (i:=⟨_,_,.mupd _ _ _ _⟩) rfl rfl trivial rfl rfl rfl rfl rfl rfl (hw6 (c65,w1.d.2.1++[Cs a.id,Ci a.yr,Cb a.sh.n,e0,Cb a.sh.d,e1],w1.d.2.2++[a])) P2 ?_
  refine fg_nil ?_
  refine sq_n ?_
  refine xG ?_
  refine fl_gamE (p:=[_]) (F1:=F1) (F2:=F2) (k:=tx a.id) (n:=w1.n) (u:=c65) (cs:=w1.d.2.1++[Cs a.id,Ci a.yr,Cb a.sh.n,e0,Cb a.sh.d,e1]) (r:=w1.d.2.2++[a]) rfl (by simp) ?_
  refine lB rfl rfl (bI_add (n:=i+1) (by omega) (by omega)) ?_
  refine R0 2 O ?_
  exact lq_n (by omega) ⟨i+1,(F1++⟨tx a.id,w1.n,(c65,w1.d.2.1++[Cs a.id,Ci a.yr,Cb a.sh.n,e0,Cb a.sh.d,e1],w1.d.2.2++[a])⟩::F2),ck1,_,LZ.m [_] O,rfl,by omega,hbo.step hw4 hw5 hw1,sold_l ha hlo hw3 hw4 hw5 hw1,gok_step (hgo.m) hw4 (CL.append (gok_x (hgo.m) hw4) (CL.one rfl ⟨_,_,rfl,s0.m,s1.m⟩)),tk_all ha hsa ⟨g,List.mem_of_getElem? hgg,hgid,Int.not_le.1 hg40,Int.not_le.1 hc49⟩,sold_k ha hke hw4⟩
 refine fx_eseq ?_
 refine lq_e ?_
 refine sq_n ?_
 refine R4 4 O ?_
 rw [List.take_of_length_le (by omega)] at hlo hsa hke
 refine fl_frzMR (p:=[]) (D:=F.map Fg.d) rfl (gok_all (hgo) hbo hlo hSl) fun zf hzf hzr=>?_
 replace hzr:GZ zf F:=hzr
 refine fl_frzZ zf (p:=[]) rfl rfl rfl (fun _ h=>h) fun zffm hzffm fm=>?_
 have hGF:=hbo
 have hbF:=hlo
 refine lC rfl ?_
 refine fl_nilck rfl ?_
 refine lF rfl ?_
 refine fl_ld1 rfl mem0 rfl ?_
 refine fl_rngMZ rfl fm fun b71=>?_
 refine lN ?_
 refine fx_seq (fx_block ?_)
 refine fx_mrangeZ (i0:=6) (v0:=.bool false) (p:=[]) (badF F) rfl rfl rfl rfl (gam_nd hGF) (gam_lt hGF) fm (fun dd hdd B2 zm hzm hcur=>?_) (fun hno=>?_) (fun dd hdd hbad e2=>?_)
 ·obtain ⟨x,hx,rfl⟩:=List.mem_map.1 hdd
  have hxr:=((hzr.mono (hzffm.trans hzm))) x.d (List.mem_map.2 ⟨x,hx,rfl⟩)
  have hxl:=gam_xl hGF hbF hx hSl
  refine fx_block ?_
  refine xR ?_
  refine fl_entM rfl hcur ((hzm) _ _ fm) (Go.CE.find_born (gam_nd hGF) hdd) rfl ?_
  refine R2 10 O ?_
  refine lZ zm (c_rat_Whole (by omega) (by decide) (by decide)) rfl rfl fun v76 z76 hz76 hv76=>?_
  have hv76:=qv_op hv76
  obtain ⟨c76,d76,hv,hm76,hn76⟩:=hv76
  subst hv
  have hm76:=hm76.mono (zAq (hzz.trans (hzf.trans (hzffm.trans hzm))))
  have hn76:=hn76.mono (zAq (hzz.trans (hzf.trans (hzffm.trans hzm))))
  refine fl_al4 fun b12=>?_
  refine fl_st4 rfl rfl rep0 ?_
  refine lN ?_
  refine R4 12 O ?_
  refine fl_lenS rfl hxr ?_
  refine R0 2 O ?_
  refine fx_seq (fx_block ?_)
  refine fx_loop (fun n fs=>∃ (jj:Nat) (q:Rat) (c3:C) (d3:C) (zy:Mem),LZ z76 zy [.blk b12 (.cells 35 [Cb (decide (q.num<0)),c3,Cb (decide ((q.den:Int)<0)),d3])] [(12,Ap b12),(77,.c x.d.1),(78,Az x.d.2.2.length),(79,Az jj)] fs∧n=x.d.2.2.length - jj∧(jj≤x.d.2.2.length)∧(q=sumQ ((x.d.2.2.take jj).map fun s=>rv s.sh))∧(LQ (jj * 1002+1) q)∧(CZ 1 RW zy c3 (toL q.num.natAbs))∧(CZ 1 RW zy d3 (toL (q.den:Int).natAbs))) ?_ _ ⟨0,0,_,_,_,LZ.m [] O,rfl,Nat.zero_le _,rfl,lq_zero.mono (by omega),(hm76.mono zd_le),(hn76.mono zd_le)⟩ (kK (by omega))
  intro n fs ⟨jj,q,c3,d3,zy,hL1,hmz1,hjj,hq,hql,hqm,hqn⟩
  refine hL1.open fun e hzy=>?_
  refine R5 8 O ?_
  refine xD rfl (fun hc80=>?_) (fun hc80=>?_)
  ·refine fx_kseq ?_
   refine fx_seq (fx_block ?_)
   refine xR ?_
   obtain ⟨s,hs5⟩:=at_lt (l:=x.d.2.2) (i:=jj) (by omega)
   have hss:=hSs s (gam_sub hGF hbF hx (List.mem_of_getElem? hs5))
   refine fl_iadS (zz:=zy) rfl rfl hxr.m jj rfl s hs5 fun b81 p81 cs at81 hR=>?_
   obtain ⟨u0,u1,hcs,r0,r1⟩:=hR
   subst hcs
   refine fl_ldA (off:=0) rfl at81 rfl (by simp) rfl ?_
   refine fl_alloc fun b14=>?_
   refine fl_stAll rfl rfl rfl rfl rep0 ?_
   refine lN ?_
   refine xG ?_
   refine fl_ld4 rfl Y1 rfl ?_
   refine lF rfl ?_
   refine fl_ld4 rfl mem0 rfl ?_
   refine lZ zy (c_rat_Add (by omega) hqm hqn (Nat.le_trans hql.1 (by omega)) (Nat.le_trans hql.2 (by omega)) r0 r1 (Nat.le_trans hss.1 (by decide)) (Nat.le_trans hss.2 (by decide))) rfl rfl fun v86 z86 _ hv86=>?_
   rw [valR_c] at hv86
   have hv86:=qv_op hv86
   obtain ⟨c86,d86,hv,hm86,hn86⟩:=hv86
   subst hv
   have hm86:=hm86.mono (zAq (hzz.trans (hzf.trans (hzffm.trans (hzm.trans (hz76.trans hzy))))))
   have hn86:=hn86.mono (zAq (hzz.trans (hzf.trans (hzffm.trans (hzm.trans (hz76.trans hzy))))))
   refine fl_st4 rfl rfl P1 ?_
   refine lN ?_
   refine sq_n ?_
   refine xG ?_
   refine lB rfl rfl (bI_add (n:=jj+1) (by omega) (by omega)) ?_
   refine R0 2 O ?_
   exact lq_n (by omega) ⟨jj+1,(q+rv s.sh),_,_,_,LZ.m [_] O,rfl,by omega,by rw [sumS_tk hs5,hq],(hql.add (lq_rv (m:=1000) hss.1 hss.2)).mono (by omega),(hm86.mono zd_le),(hn86.mono zd_le)⟩
  refine fx_eseq ?_
  refine lq_e ?_
  refine sq_n ?_
  refine fx_drwS ?_
  refine gl4 O O Ht O ?_
  refine gC zy (c_rat_Whole (by omega) (by decide) (by decide)) O O O O fun v89 z89 _ hv89=>?_
  have hv89:=qv_op hv89
  obtain ⟨c89,d89,hv,hm89,hn89⟩:=hv89
  subst hv
  have hm89:=hm89.mono (zAq (hzz.trans (hzf.trans (hzffm.trans (hzm.trans (hz76.trans hzy))))))
  have hn89:=hn89.mono (zAq (hzz.trans (hzf.trans (hzffm.trans (hzm.trans (hz76.trans hzy))))))
  refine gC z89 (c_rat_Cmp (by omega) hqm.m hqn.m (Nat.le_trans hql.1 (by omega)) (Nat.le_trans hql.2 (by omega)) (hm89.mono zd_le) (hn89.mono zd_le) lq_one.1 lq_one.2) O O O O fun v90 z90 _ hv90=>?_
  simp only [valR_c] at hv90
  subst hv90
  refine G0 2 O ?_
  refine xD rfl (fun hc91=>?_) (fun hc91=>?_)
  ·refine R5 4 O ?_
   refine xT ?_
   rw [List.take_of_length_le (by omega)] at hq
   subst hq
   exact .inr ⟨rfl,x_bad hGF hx (sg_gt.1 hc91),rfl⟩
  refine fx_skip ?_
  rw [List.take_of_length_le (by omega)] at hq
  subst hq
  exact .inl ⟨rfl,fun h=>hc91 (sg_gt.2 (bad_x hGF hx h))⟩
 ·refine sq_n ?_
  refine R5 4 O ?_
  refine xT ?_
  refine ret_h (.inl rfl) (rt rfl rn) (List.Sublist.refl _) ?_
  have hb1:=sold_b hbF hno
  exact ⟨true,rfl,⟨fun _=>⟨hsa,hb1⟩,fun _=>rfl⟩,fun _=>⟨b16,F,ck,rfl,fm,fun id=>⟨gam_z (hzr.m) (tx id),hbF id⟩⟩⟩
 refine sq_r ?_
 refine ret_h (.inl rfl) (rt rfl rn) (List.Sublist.refl _) ?_
 exact ⟨false,rfl,⟨fun h=>(by cases h),fun h=>absurd h (sold_nb hbF hdd hbad)⟩,fun h=>(by cases h)⟩
open Go.CE Go.RowKit Go.Num
open Go.Eng (setL)
theorem later_ad {y:Int} (h:0≤y) (h2:y<9223372036854775807):binW .add (.int .i64 y) (.int .i64 1)=some (.int .i64 ((y.toNat+1:Nat):Int)):=b_add' (k:=.i64) (a:=y) (b:=1) (r:=((y.toNat+1:Nat):Int)) (by rw [wi64 ⟨by omega,by omega⟩];omega)
section
variable {ms:List (List Bool)} {g:PGood} {L full:List Nat} {y:Nat}
theorem yrs_s (h:y<ms.length):yrs ms g (ms.length - y) y=y::if bothM ms g y=true then yrs ms g (ms.length - (y+1)) (y+1) else []:=by
 obtain ⟨k,hk⟩:∃ k,ms.length - y=k+1:=⟨ms.length - y - 1,by omega⟩
 rw [hk,yrs,show ms.length - (y+1)=k by omega]
theorem later_nx (h:L++yrs ms g (ms.length - y) y=full) (hl:y<ms.length) (hb:bothM ms g y=true):(L++[y])++yrs ms g (ms.length - (y+1)) (y+1)=full:=by
 rw [yrs_s hl,if_pos hb] at h
 rw [List.append_assoc];exact h
theorem later_end (h:L++yrs ms g (ms.length - y) y=full) (hl:y<ms.length) (hb:bothM ms g y=false):L++[y]=full:=by
 rw [yrs_s hl,if_neg (by rw [hb];exact Bool.false_ne_true)] at h
 exact h
theorem later_out (h:L++yrs ms g (ms.length - y) y=full) (hl:ms.length≤y):L=full:=by
 rw [show ms.length - y=0 by omega,yrs,List.append_nil] at h
 exact h
end
theorem both_lent {k:Nat} (hk:1≤k) {z:Mem} {br y:Nat} {cR cI cM cN cP cS:C} {ms:List (List Bool)} {r0:List Bool} {g:PGood} {c0 c1 c2 c3:C} (hm:CZ 1 (RC 1 (RE Value.bool)) z cM ms) (hr:ms[y]? = some r0) (hp:isE r0.length g.py=true) (hq:isE r0.length g.pr=true) (hg0:CZ 1 RW z c0 g.mg.nm) (hg1:CZ 1 RW z c1 g.mg.dm) (hg2:CZ 1 RW z c2 g.us.nm) (hg3:CZ 1 RW z c3 g.us.dm) :
  FCt (E k) 159 [Ap br,.agg [Cs g.id,Ci g.yr,Ci g.py,Ci g.pr,Cb g.mg.n,c0,Cb g.mg.d,c1,Cb g.us.n,c2,Cb g.us.d,c3],Az y] z [.blk br (.cells 192 [cR,cI,cM,cN,cP,cS])] fun v z' H'=>v=bool_ (bothM ms g y)∧H'=[.blk br (.cells 192 [cR,cI,cM,cN,cP,cS])]:=fun mem nx hh=>by
 have hz:zle z (tz z [.blk br (.cells 192 [cR,cI,cM,cN,cP,cS])]):=⟨fun _ _ h=>.inl h⟩
 have hb:At (tz z [.blk br (.cells 192 [cR,cI,cM,cN,cP,cS])]) br 0 [cR,cI,cM,cN,cP,cS]:=at0p (ty:=192) (.inr (by simp))
 obtain ⟨v,mem',nx',z',H',q1,q2,q3,q4,q5,q6,q7,q8,z1,q9,_⟩:=(c_profit_runner_both hk (hg0.mono hz) (hg1.mono hz) (hg2.mono hz) (hg3.mono hz) hb (hm.mono hz) hr hp hq).lent (fun a ha=>⟨_,_,by simpa using ha⟩) mem nx hh
 exact ⟨v,mem',nx',z',H',q1,q2,q3,q4,q5,q6,q7,q9,q8⟩
theorem c_release0 {k:Nat} (hk:11≤k) {z:Mem} {br bo y e0 m0 Y:Nat} {cd cI cM cN cP cS:C} {hs cs:List C} {q x:Rat} {w0 w1 x0 x1:C} (hd:hs[y * 6+1]? = some cd) (hyY:y<Y) (hem:e0<m0) (hcl:cs.length=m0 * 4) (hw:(cs.drop (e0 * 4)).take 4=[Cb (decide (q.num<0)),w0,Cb (decide ((q.den:Int)<0)),w1]) (q0:CZ 1 RW z w0 (toL q.num.natAbs)) (q1:CZ 1 RW z w1 (toL (q.den:Int).natAbs)) (g0:CZ 1 RW z x0 (toL x.num.natAbs)) (g1:CZ 1 RW z x1 (toL (x.den:Int).natAbs)) (hq:LQ 4000000 q) (hx:LQ 4000000 x):FCt (E k) 162 [Ap br,Az y,Az e0,.agg [Cb (decide (x.num<0)),x0,Cb (decide ((x.den:Int)<0)),x1]] z [.row (.c cd) 35 4 m0 cs,.blk bo (.cells 87 hs),.blk br (.cells 192 [.sl bo 0 Y 6,cI,cM,cN,cP,cS])] fun v z' H'=>v=.tup []∧∃ bd a b,cd=.sl bd 0 m0 4∧H'=[.blk bd (.cells 35 (setL cs (e0 * 4) [Cb (decide ((q+x).num<0)),a,Cb (decide (((q+x).den:Int)<0)),b])),.blk bo (.cells 87 hs),.blk br (.cells 192 [.sl bo 0 Y 6,cI,cM,cN,cP,cS])]∧CZ 1 RW (zd z z') a (toL (q+x).num.natAbs)∧CZ 1 RW (zd z z') b (toL ((q+x).den:Int).natAbs):=by
 refine fct_of (tS_get162) (by omega) (len1 rfl) fun B j hj=>?_
 refine xR ?_
 refine fl_bx rfl fun b7=>?_
 refine fl_rowC (p:=[_]) rfl (by omega) fun bd hbd=>?_
 injection hbd with hbd
 subst hbd
 refine lN ?_
 refine R4 4 O ?_
 refine fl_nilck rfl ?_
 refine R1 4 O ?_
 refine fl_ld1 rfl Y3 rfl ?_
 refine lC rfl ?_
 refine fl_iad rfl rfl y rfl (by omega) ?_
 refine lF rfl ?_
 refine fl_ld1 rfl Y2 (by rw [Nat.zero_add];exact hd) ?_
 refine R0 2 O ?_
 refine fx_drw ?_
 refine G1 16 O ?_
 refine gP rfl rfl trivial ?_
 refine fl_iad rfl rfl e0 rfl (by omega) (lN ?_)
 refine fg_ld4 (i:=⟨_,_,.load _ _ _⟩) rfl rfl trivial rfl (.inr Y1) (by rw [Nat.zero_add];exact hw) sR ?_
 refine gl4 O O Ht O ?_
 refine gC z (c_rat_Add (by omega) q0 q1 (Nat.le_trans hq.1 (by decide)) (Nat.le_trans hq.2 (by decide)) g0 g1 (Nat.le_trans hx.1 (by decide)) (Nat.le_trans hx.2 (by decide))) O O O O fun v25 z25 _ hv25=>?_
 simp only [valR_c] at hv25
 obtain ⟨c25,d25,hv,hm25,hn25⟩:=hv25
 subst hv
 refine gP rfl rfl trivial ?_
 refine fl_iad rfl rfl e0 rfl (by omega) (lN ?_)
 refine gS O O O ?_
 refine fl_st rfl rfl rfl P1 rfl (by omega) ?_
 refine lN ?_
 refine fg_nil ?_
 refine ret_h (.inr rfl) rn (List.sublist_append_right [_] _) ?_
 rw [Nat.zero_add]
 exact ⟨rfl,bd,_,_,rfl,rfl,hm25,hn25⟩
theorem c_profit_runner_later {k:Nat} (hk:3≤k) {z:Mem} {br:Nat} {g:PGood} {c0 c1 c2 c3:C}:FC (E k) 161 [Ap br,.agg [Cs g.id,Ci g.yr,Ci g.py,Ci g.pr,Cb g.mg.n,c0,Cb g.mg.d,c1,Cb g.us.n,c2,Cb g.us.d,c3]] z fun v z'=>∃ b1 b2,v=.c (.fn 239 [] [(false,[.ptr b2 0]),(false,[.ptr b1 0])])∧z' b1 (.cells 189 [.ptr br 0])∧z' b2 (.cells 91 [Cs g.id,Ci g.yr,Ci g.py,Ci g.pr,Cb g.mg.n,c0,Cb g.mg.d,c1,Cb g.us.n,c2,Cb g.us.d,c3]):=by
 refine fc_of (tS_get161) (by omega) (len1 rfl) fun B j hj=>?_
 refine xR ?_
 refine fl_box rfl rfl fun b2=>?_
 refine fl_frzZ z (p:=[]) rfl rfl rfl (fun _ h=>h) fun zff2 _ f2=>?_
 refine fl_bx rfl fun b3=>?_
 refine fl_frzZ zff2 (p:=[]) rfl rfl rfl (fun _ h=>h) fun zff3 _ f3=>?_
 refine R2 4 O ?_
 refine fl_mkf rfl rfl ?_
 refine R0 3 O ?_
 refine xT ?_
 exact rI O ⟨_,_,rfl,(zI _ _ f2),f3⟩
theorem c_later_body {k:Nat} (hk:2≤k) {call':Call'} (hA:Agr (E k) call') {b pg prr br:Nat} {cR cI cM cN cP cS:C} {ms:List (List Bool)} {g:PGood} {c0 c1 c2 c3:C} {z:Mem} {Hr:List HA} (hpg:At z pg 0 [Cs g.id,Ci g.yr,Ci g.py,Ci g.pr,Cb g.mg.n,c0,Cb g.mg.d,c1,Cb g.us.n,c2,Cb g.us.d,c3]) (hpr:At z prr 0 [.ptr br 0]) (hg0:CZ 1 RW z c0 g.mg.nm) (hg1:CZ 1 RW z c1 g.mg.dm) (hg2:CZ 1 RW z c2 g.us.nm) (hg3:CZ 1 RW z c3 g.us.dm) (hm:CZ 1 (RC 1 (RE Value.bool)) z cM ms) (hyr:0≤g.yr) (hyl:g.yr<(ms.length:Int)) (hp:isE (entsN ms) g.py=true) (hq:isE (entsN ms) g.pr=true) (hms:∀ r,r∈ms→r.length=entsN ms)
  {J:List Nat→Mem→List HA→Prop} (hJ:∀ L z z' H,zle z z'→J L z H→J L z' H) (hY:∀ L1 y z' Hq,J L1 z' Hq→zle z z'→g.yr.toNat<y→y<ms.length→L1.length=y - (g.yr.toNat+1)→FCt call' (1000000+b) [Az y,Ab (bothM ms g y)] z' (.blk br (.cells 192 [cR,cI,cM,cN,cP,cS])::Hq) (YPost fun z2 H2=>∃ Hq2,H2=.blk br (.cells 192 [cR,cI,cM,cN,cP,cS])::Hq2∧J (L1++[y]) z2 Hq2)) (h0:J [] z Hr) :
  FCt (bodyC call' K0 ge239.e.x) 0 [.c (.yl b),Ap pg,Ap prr] z (.blk br (.cells 192 [cR,cI,cM,cN,cP,cS])::Hr) fun _ z' H'=>∃ Hq,H'=.blk br (.cells 192 [cR,cI,cM,cN,cP,cS])::Hq∧J (yrs ms g (ms.length - (g.yr.toNat+1)) (g.yr.toNat+1)) z' Hq:=by
 have hml:=hm.le
 refine body_fct fun B=>?_
 refine R4 4 O ?_
 refine fl_ldA (off:=1) rfl hpg rfl (by simp) rfl ?_
 refine lB rfl rfl (later_ad hyr (by omega)) ?_
 refine R0 2 O ?_
 refine fx_block ?_
 refine fx_loop (fun n fs=>∃ (y:Nat) (L:List Nat) (Hq:List HA) (zz:Mem),LZ z zz (.blk br (.cells 192 [cR,cI,cM,cN,cP,cS])::Hq) [(0,.c (.yl b)),(1,Ap pg),(2,Ap prr),(4,Az y)] fs∧n=ms.length - y∧(g.yr.toNat<y)∧(J L zz Hq)∧(L++yrs ms g (ms.length - y) y=yrs ms g (ms.length - (g.yr.toNat+1)) (g.yr.toNat+1))∧(L.length=y - (g.yr.toNat+1))) ?_ _ ⟨(g.yr.toNat+1),[],Hr,_,LZ.m [] O,rfl,Nat.lt_succ_self _,h0,rfl,by simp⟩ (kK (by omega))
 intro n fs ⟨y,L,Hq,zz,hL0,hmz0,hy,hJ0,hL,hLn⟩
 refine hL0.open fun e hzz=>?_
 refine R4 8 O ?_
 refine fl_ldA1 rfl hpr.m ?_
 refine fl_nilck rfl ?_
 refine lF rfl ?_
 refine fl_ld1 rfl mem0 rfl ?_
 refine fl_lenS rfl hm ?_
 refine R3 4 O ?_
 refine xD rfl (fun hc15=>?_) (fun hc15=>?_)
 ·refine fx_kseq ?_
  refine fx_seq (fx_block ?_)
  refine xR ?_
  have hlt:y<ms.length:=by omega
  obtain ⟨r0,hr0⟩:=at_lt (l:=ms) (i:=y) hlt
  have hrl:=hms r0 (List.mem_of_getElem? hr0)
  refine fl_ldA1 rfl hpr.m ?_
  refine fl_ldA (off:=0) rfl hpg.m rfl (by simp) rfl ?_
  refine lC rfl ?_
  refine fl_callLZ zz [.blk br (.cells 192 [cR,cI,cM,cN,cP,cS])] (FCt.agr hA (both_lent (by omega) (hm.m) hr0 (by rw [hrl];exact hp) (by rw [hrl];exact hq) hg0.m hg1.m hg2.m hg3.m)) rfl rfl rfl fun v21 z21 H21 hz21 ⟨hv21,hH21⟩=>?_
  subst hv21 hH21
  refine R2 49 O ?_
  refine fl_yld (Hs:=_::Hq) rfl rfl (List.append_nil _).symm (hY L y z21 Hq (hJ _ _ _ _ zI hJ0) zI (by omega) hlt hLn) fun z25 H25 hz25 hJ25=>?_
  obtain ⟨Hq2,hH25,hJ2⟩:=hJ25
  subst hH25
  rw [List.append_nil]
  refine R0 36 O ?_
  refine fx_condB rfl (fun hc30=>?_) (fun hc30=>?_)
  ·refine xT ?_
   refine sq_r ?_
   refine lq_r ?_
   refine ret_h (.inl rfl) rn (List.Sublist.refl _) ?_
   exact ⟨Hq2,rfl,by rw [later_end hL hlt (not_b hc30)] at hJ2;exact hJ2⟩
  refine fx_skip ?_
  refine sq_n ?_
  refine xG ?_
  refine lC rfl ?_
  refine lB rfl rfl (bI_add (n:=y+1) (by omega) (by omega)) ?_
  refine R0 2 O ?_
  exact lq_n (by omega) ⟨(y+1),(L++[y]),Hq2,_,LZ.mk [] (hzz.trans (hz21.trans hz25)) (atc rfl (atc rfl (atc rfl (atc rfl atn)))),rfl,by omega,hJ2,later_nx hL hlt (not_c hc30),by rw [List.length_append,List.length_singleton];omega⟩
 refine fx_eseq ?_
 refine lq_e ?_
 refine ret_h (.inr rfl) rn (List.Sublist.refl _) ?_
 rw [later_out hL (by omega)] at hJ0
 exact ⟨Hq,rfl,hJ0⟩
end Go.Proofs.YtlceligcgelbdaaGreat
