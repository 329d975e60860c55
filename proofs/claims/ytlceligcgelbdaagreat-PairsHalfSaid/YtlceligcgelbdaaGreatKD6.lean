/- The law, walked. -/
import Derived.WalkKit
import Derived.Orders
import Derived.Test.YtlceligcgelbdaaGreatKA7
import Derived.Test.YtlceligcgelbdaaGreatKD3
import Derived.Test.YtlceligcgelbdaaGreatKD5
set_option linter.unusedVariables false
set_option linter.unusedSimpArgs false
set_option maxRecDepth 100000
set_option maxHeartbeats 1000000
namespace Go.Proofs.YtlceligcgelbdaaGreat
open Go.CE Go.RowKit Go.Num
open Go.Eng (setL)
theorem fl_frzS {α:Type} {size:Nat} {R:RT α} [RMono R] {call:Call'} {B:Base} {fs:Sf} {l:List I} {Q:Sf→Prop} {u:AV} {ty n:Nat} {cs:List C} {r:List α} {p q:List HA} (e:fs.H=p++.row u ty size n cs::q) (hc:CL size R fs.z cs r) (hn:r.length=n) (hm:n≤9223372036854775807)
    (hw:∀ z',zle fs.z z'→SZ size R z' u r→FL call B l (fs.frz z' (p++q)) Q):FL call B l fs Q:=fun st rf=>by
  obtain ⟨g1,g2⟩:=rf.hold.h (.row u ty size n cs) (by rw [e];simp)
  rcases g2 with ⟨h0,rfl⟩ | ⟨b,rfl,h3⟩
  · have hr0 : r = [] := List.eq_nil_of_length_eq_zero (by omega)
    subst hr0
    refine hw fs.z zI .nil st ?_
    have hsub:(p++q).Sublist fs.H:=by rw [e];exact (List.Sublist.refl p).append (List.sublist_cons_self _ _)
    exact ⟨rf.env,rf.hold.sub hsub,rf.le,rf.old,fun b hb=>rf.own b ((fps_sub hsub).subset hb),rf.zle,rf.zin⟩
  · have h1 := rf.frz (p := p) (q := q) (b := b) (k := .cells ty cs) (a := .row (.c (.sl b 0 n size)) ty size n cs) e rfl (fun m hm => by
      obtain ⟨_,hm⟩:=hm
      rcases hm with ⟨_,hm⟩ | ⟨b',hb',hm⟩
      · cases hm
      · injection hb' with hb';injection hb' with hb';subst hb';exact hm)
    exact hw _ ⟨fun _ _ h=>.inl h⟩ ((hc.mono ⟨fun _ _ h=>.inl h⟩).sz hn hm (.inr ⟨rfl,rfl⟩)) st h1
theorem _root_.Go.CE.CL.m {α:Type} {size:Nat} {R:RT α} [RMono R] {z z':Mem} {cs:List C} {l:List α} (h:CL size R z cs l) [q:Zl z z']:CL size R z' cs l:=CL.mono h q.h
theorem fl_appS {call:Call'} {B:Base} {fs:Sf} {l:List I} {Q:Sf→Prop} {d:Nat} {α:Type} {R:RT α} {ty size bytes n:Nat} {zero:List Value} {x y:Go.Eng.Od} {u v:AV} {s:List α} {cs:List C} {zb:Mem} {H':AV→List C→List HA} (hx:fs.ev x=u) (hy:fs.ev y=v) (hs:SZ size R zb v s) (hz:zle zb fs.z) (hr:∀ u' news,Rep1 fs.H (.row u ty size n cs) (.row u' ty size (n+s.length) (cs++news)) (H' u' news)) (hb:(n+s.length) * bytes≤140737488355328) (hn:n+s.length≤9223372036854775807)
  (hw:∀ (c:C) (news:List C),CL size R zb news s→FL call B l (fs.res d (.c c) fs.z (H' (.c c) news)) Q):FL call B (⟨some d,none,.app ty size bytes zero x y⟩::l) fs Q:=fun st rf=>by
 obtain ⟨news,h1,h2⟩:=hs.src (st:=st) fun b k hb=>(rf.hold.z b k (hz b k hb)).1
 exact ap_app (H':=fun u=>H' u news) rf hx hy h1 (fun u'=>hr u' news) h2.1 hb hn fun c _=>hw c news h2
theorem cl_set {α:Type} {size:Nat} {R:RT α} {z:Mem} {cs ws:List C} {l:List α} {a:α} {i:Nat} (h:CL size R z cs l) (hi:i<l.length) (hl:ws.length=size) (hR:R z ws a):CL size R z (setL cs (i * size) ws) (l.set i a):=by
 have hle:i * size+size≤l.length * size:=by rw [← Nat.succ_mul];exact Nat.mul_le_mul_right _ hi
 have hb:i * size+ws.length≤cs.length:=by rw [hl,h.1];exact hle
 have e:∀ j,((setL cs (i * size) ws).drop (j * size)).take size=if j=i then ws else (cs.drop (j * size)).take size:=by
  intro j
  apply List.ext_getElem?
  intro q
  by_cases hq:q<size
  ·rw [List.getElem?_take,if_pos hq,List.getElem?_drop,setL_at _ _ _ hb,hl]
   by_cases hj:j=i
   ·subst hj
    rw [if_pos rfl,if_pos ⟨by omega,by omega⟩,show j * size+q - j * size=q by omega]
   rw [if_neg hj,List.getElem?_take,if_pos hq,List.getElem?_drop,if_neg ?_]
   rintro ⟨h1,h2⟩
   rcases Nat.lt_or_gt_of_ne hj with h3 | h3
   ·have:(j+1) * size≤i * size:=Nat.mul_le_mul_right _ h3
    rw [Nat.succ_mul] at this
    omega
   have:(i+1) * size≤j * size:=Nat.mul_le_mul_right _ h3
   rw [Nat.succ_mul] at this
   omega
  rw [List.getElem?_take,if_neg hq]
  by_cases hj:j=i
  ·rw [if_pos hj,List.getElem?_eq_none (by omega)]
  rw [if_neg hj,List.getElem?_take,if_neg hq]
 refine ⟨by rw [Go.Eng.setL_length _ _ _ hb,List.length_set,h.1],fun j b hj=>?_⟩
 rw [e j]
 by_cases hji:j=i
 ·subst hji
  rw [List.getElem?_set_self hi] at hj
  injection hj with hj
  subst hj
  rw [if_pos rfl]
  exact ⟨hl,hR⟩
 rw [List.getElem?_set_ne (fun e=>hji e.symm)] at hj
 rw [if_neg hji]
 exact h.2 j b hj
def tf (x:PFiling) (i:Nat) (yy:PYear) (dl:List PDeal):PFiling:={ x with years:=x.years.set i { yy with deals:=dl } }
theorem smf_turn {x:PFiling} {i n:Nat} {yy:PYear} (hS:SmF x) (hyy:x.years[i]? = some yy):SmF (tf x i yy (turn yy.deals n)):=by
 have hy:=hS.y yy (List.mem_of_getElem? hyy)
 have hp:=turn_perm yy.deals n
 refine ⟨hS.l0,hS.l1,hS.l2,by rw [tf,List.length_set];exact hS.l3,hS.t,hS.c,hS.i,hS.g,hS.r0,hS.r0',hS.r1,fun a ha=>?_⟩
 rcases List.mem_or_eq_of_mem_set ha with ha | rfl
 ·exact hS.y a ha
 exact ⟨hy.l0,hy.l1,by rw [← hp.length_eq];exact hy.l2,hy.l3,hy.l4,hy.r0,hy.r1,fun a ha=>hy.r2 a (hp.mem_iff.2 ha),hy.r3,hy.r3',hy.r4⟩
theorem match_cases {x:PFiling} {yr:Int} {nl:List ByteArray} {cl:List PClass} {z:Mem} {v:AV} (h:(¬ (0≤yr∧yr<(x.years.length:Int))∧v=.tup [nilv,int_ 0,int_ 2])∨∃ yy,x.years[yr.toNat]? = some yy∧(0≤yr∧yr<(x.years.length:Int))∧MPost nl cl yy.deals z v) :
  ∃ u n1 n2,v=.tup [u,int_ n1,int_ n2]∧(¬ n2=0→u=nilv)∧(n2=0→∃ yy,x.years[yr.toNat]? = some yy∧(0≤yr∧yr<(x.years.length:Int))∧AllOk nl cl yy.deals∧SZ 10 (RPair nl cl) z u (sortP (pairsUp yy.deals yy.deals.length))):=by
 rcases h with ⟨_,h⟩ | ⟨yy,h1,h2,h3⟩
 ·exact ⟨_,_,_,h,fun _=>rfl,fun e=>absurd e (by decide)⟩
 rcases h3 with ⟨i,_,_,_,h⟩ | ⟨h4,c,h,h5⟩
 ·exact ⟨_,_,_,h,fun _=>rfl,fun e=>absurd e (by decide)⟩
 exact ⟨_,_,_,h,fun e=>absurd rfl e,fun _=>⟨yy,h1,h2,all_of h4,h5⟩⟩
theorem match_ok {x:PFiling} {yr:Int} {nl:List ByteArray} {cl:List PClass} {z:Mem} {v:AV} {yy:PYear} {n:Nat} (h:(¬ (0≤yr∧yr<((tf x yr.toNat yy (turn yy.deals n)).years.length:Int))∧v=.tup [nilv,int_ 0,int_ 2])∨∃ y,(tf x yr.toNat yy (turn yy.deals n)).years[yr.toNat]? = some y∧(0≤yr∧yr<((tf x yr.toNat yy (turn yy.deals n)).years.length:Int))∧MPost nl cl y.deals z v)
  (hr:0≤yr∧yr<(x.years.length:Int)) (hok:AllOk nl cl yy.deals):∃ c,v=.tup [.c c,int_ 0,int_ 0]∧CZ 10 (RPair nl cl) z c (sortP (pairsUp yy.deals yy.deals.length)):=by
 have hp:=turn_perm yy.deals n
 rcases h with ⟨h1,_⟩ | ⟨y,h1,_,h3⟩
 ·rw [tf,List.length_set] at h1
  exact absurd hr h1
 have e:y={ yy with deals:=turn yy.deals n }:=by
  rw [tf,List.getElem?_set_self (by omega)] at h1
  injection h1 with h1
  exact h1.symm
 subst e
 rcases h3 with ⟨i,hi,hb,_⟩ | ⟨_,c,h4,h5⟩
 ·have:=of_all (hok.perm hp) i hi
  rw [this] at hb;cases hb
 exact ⟨c,h4,by rw [sort_eq (pairs_perm hok hp) (pairs_nd (of_all hok) _)];exact h5⟩
def LenQ (q:Rat) (k:Nat):Prop:=(toL q.num.natAbs).length≤k∧(toL (q.den:Int).natAbs).length≤k
theorem LenQ.up {q:Rat} {k k':Nat} (h:LenQ q k) (g:k≤k'):LenQ q k':=⟨Nat.le_trans h.1 g,Nat.le_trans h.2 g⟩
theorem sm_len {d:PDeal} (h:Sm d.amount):(toL (amtV d).num.natAbs).length≤7∧(toL ((amtV d).den:Int).natAbs).length≤7:=by
 have h1:(toL (amtV d).num.natAbs).length≤d.amount.nm.length:=lenN (x:=((d.amount.n,d.amount.nm),(d.amount.d,d.amount.dm)))
 have h2:(toL ((amtV d).den:Int).natAbs).length≤d.amount.dm.length+1:=lenD (x:=((d.amount.n,d.amount.nm),(d.amount.d,d.amount.dm)))
 have:=h.1
 have:=h.2
 exact ⟨by omega,by omega⟩
theorem LenQ.add {q:Rat} {k:Nat} {d:PDeal} (h:LenQ q k) (g:Sm d.amount):LenQ (q+amtV d) (k+8):=len_add h.1 h.2 (sm_len g).1 (sm_len g).2
theorem lenq0:LenQ ((0:Int):Rat) (1+8 * 0):=⟨toL_len.2 (by decide),toL_len.2 (by decide)⟩
theorem qv_1 {z:Mem} {v:AV} {p r:Rat} (h:QV z v (Num.valR ((decide (p.num<0),toL p.num.natAbs),(decide ((p.den:Int)<0),toL (p.den:Int).natAbs))+r)):QV z v (p+r):=by
 have e:Num.valR ((decide (p.num<0),toL p.num.natAbs),(decide ((p.den:Int)<0),toL (p.den:Int).natAbs))=p:=val_cR p
 rwa [e] at h
theorem qv_2 {z:Mem} {v:AV} {p r:Rat} (h:QV z v (p+Num.valR ((decide (r.num<0),toL r.num.natAbs),(decide ((r.den:Int)<0),toL (r.den:Int).natAbs)))):QV z v (p+r):=by
 have e:Num.valR ((decide (r.num<0),toL r.num.natAbs),(decide ((r.den:Int)<0),toL (r.den:Int).natAbs))=r:=val_cR r
 rwa [e] at h
theorem cmp0 {v:AV} {p r:Rat} (h:v=int_ ((Num.valR ((decide (p.num<0),toL p.num.natAbs),(decide ((p.den:Int)<0),toL (p.den:Int).natAbs))).num * ((Num.valR ((decide (r.num<0),toL r.num.natAbs),(decide ((r.den:Int)<0),toL (r.den:Int).natAbs))).den:Int) - (Num.valR ((decide (r.num<0),toL r.num.natAbs),(decide ((r.den:Int)<0),toL (r.den:Int).natAbs))).num * ((Num.valR ((decide (p.num<0),toL p.num.natAbs),(decide ((p.den:Int)<0),toL (p.den:Int).natAbs))).den:Int)).sign) (e:p=r):v=int_ 0:=by
 subst e
 rw [h]
 simp
theorem b_geqS (a b:ByteArray):binW .geq (.string a) (.string b)=some (.bool (!decide (tx a<tx b))):=by
 show some (Value.bool (!(Go.Op.bytesLess a.data.toList b.data.toList)))=_
 rw [Go.Proofs.bytesLess_eq]
theorem turn_step {dl:List PDeal} {s:Nat} {d:PDeal} (hs:s+1≤dl.length) (hd:dl[dl.length - 1 - s]? = some d):(dl.drop (dl.length - s)).reverse++[d]=(dl.drop (dl.length - (s+1))).reverse:=by
 obtain ⟨h1,h2⟩:=List.getElem?_eq_some_iff.1 hd
 have e:dl.drop (dl.length - (s+1))=d::dl.drop (dl.length - s):=by
  rw [show dl.length - (s+1)=dl.length - 1 - s by omega,List.drop_eq_getElem_cons h1,h2,show dl.length - 1 - s+1=dl.length - s by omega]
 rw [e,List.reverse_cons]
theorem c_law20_PairsHalf {k:Nat} (hk:13≤k) {z:Mem} {x:PFiling} {c0 c1 c2 c3 c4 c5 c6 c7 c8 c9 c10 c11:C} (g0:CZ 8 RBracket z c0 x.brackets) (g1:CZ 1 RW z c1 x.threshold.nm) (g2:CZ 1 RW z c2 x.threshold.dm) (g3:CZ 1 RW z c3 x.cap.nm) (g4:CZ 1 RW z c4 x.cap.dm) (g5:CZ 1 RW z c5 x.interest.nm) (g6:CZ 1 RW z c6 x.interest.dm) (g7:CZ 1 RW z c7 x.floor.nm) (g8:CZ 1 RW z c8 x.floor.dm) (g9:CZ 6 RClass z c9 x.classes) (g10:CZ 1 RS z c10 x.entities) (g11:CZ 6 RYear z c11 x.years) {yr by_:Int} (hy1 : -9223372036854775808≤yr) (hy2:yr<9223372036854775808):FC (E k) 9 [.agg [Cs x.name,Cs x.parent,c0,Cb x.threshold.n,c1,Cb x.threshold.d,c2,Cb x.cap.n,c3,Cb x.cap.d,c4,Ci x.back,Ci x.forward,Cb x.interest.n,c5,Cb x.interest.d,c6,Cb x.floor.n,c7,Cb x.floor.d,c8,Ci x.keep,c9,c10,c11],Ai yr,Ai by_] z fun u _=>u=bool_ true:=by
 refine fc_of (tS_get9) (by omega) (len1 rfl) fun B j hj=>?_
 refine xR ?_
 refine fl_bx rfl fun b3=>?_
 refine R2 8 O ?_
 refine fl_ldAll rfl mem0 rfl ?_
 refine lZ z (c_law20_few (by omega) g0 g1 g2 g3 g4 g5 g6 g7 g8 g9 g10 g11) rfl rfl fun v26 z26 hz26 ⟨b26,hv26,hs26⟩=>?_
 subst hv26
 refine R3 4 O ?_
 refine fx_condB rfl (fun hc27=>?_) (fun hc27=>?_)
 ·refine R4 4 O ?_
  refine lE z26 (works_fc (by omega)) O O fun z28 _=>?_
  refine R0 3 O ?_
  refine fx_rseq ?_
  refine rI O ?_
  rfl
 refine R4 4 O ?_
 have hS:SmF x:=hs26 (by simpa using hc27)
 refine fl_ldAll rfl mem0 rfl ?_
 refine lC rfl ?_
 refine lZ z26 (c_pairs_Match (by omega) g0.m g1.m g2.m g3.m g4.m g5.m g6.m g7.m g8.m g9.m g10.m g11.m hS hy1 hy2) rfl rfl fun v32 z32 hz32 hm32=>?_
 obtain ⟨u0,n1,n2,hv32,hne,hzr⟩:=match_cases hm32
 subst hv32
 refine R3 4721 O ?_
 refine fx_condN rfl (fun hc37=>?_) (fun hc37=>?_)
 ·refine R4 4 O ?_
  obtain rfl:=hne hc37
  refine lM rfl ?_
  refine fl_lenS rfl (SZ.nil:SZ 1 RN z32 nilv []) ?_
  refine R1 4 O ?_
  refine fl_splitD 41 rfl (fun hg41=>?_) (fun hg41=>?_)
  ·refine lD rfl ?_
   refine lE z32 (works_fc (by omega)) O O fun z42 _=>?_
   refine R0 6 O ?_
   refine fx_rseq ?_
   refine rI O ?_
   rfl
  exact absurd rfl hg41
 refine R4 8 O ?_
 obtain ⟨yy,hyy,hyr,hok,hP⟩:=hzr hc37
 refine R1 8 O ?_
 refine fl_splitD 46 rfl (fun hg46=>?_) (fun hg46=>?_)
 ·omega
 refine R1 4 O ?_
 refine lD rfl ?_
 refine fl_ld1 rfl mem0 rfl ?_
 refine lD rfl ?_
 refine fl_lenS rfl g11 ?_
 refine R3 8 O ?_
 refine xD rfl (fun hc52=>?_) (fun hc52=>?_)
 ·omega
 refine R4 8 O ?_
 refine fl_ld1 rfl mem0 rfl ?_
 refine lC rfl ?_
 refine fl_iadS rfl rfl g11 yr.toNat (by omega) yy hyy fun b56 p56 cs at56 hR=>?_
 obtain ⟨y0,y1,y2,y3,y4,hcs,q0,q1,q2,q3,q4⟩:=hR
 subst hcs
 refine lF rfl ?_
 have hSy:=hS.y yy (List.mem_of_getElem? hyy)
 have hdl:=hSy.l2
 have hpl:=pairs_len hok
 have hPl:(sortP (pairsUp yy.deals yy.deals.length)).length=(pairsUp yy.deals yy.deals.length).length:=sortP_len _
 refine fl_ldA (off:=3) (v:=.c y2) rfl at56.m rfl (by simp) rfl ?_
 refine R2 4 O ?_
 refine lZ z32 (c_rat_Whole (by omega) (by decide) (by decide)) rfl rfl fun v59 z59 hz59 hv59=>?_
 obtain ⟨c59,d59,hv,hm59,hn59⟩:=hv59
 subst hv
 have hm59:=hm59.mono (zA (hz26.trans hz32))
 have hn59:=hn59.mono (zA (hz26.trans hz32))
 refine lZ z59 (c_rat_Whole (by omega) (by decide) (by decide)) rfl rfl fun v60 z60 hz60 hv60=>?_
 obtain ⟨c60,d60,hv,hm60,hn60⟩:=hv60
 subst hv
 have hm60:=hm60.mono (zA (hz26.trans (hz32.trans hz59)))
 have hn60:=hn60.mono (zA (hz26.trans (hz32.trans hz59)))
 refine lZ z60 (c_rat_Whole (by omega) (by decide) (by decide)) rfl rfl fun v61 z61 hz61 hv61=>?_
 obtain ⟨c61,d61,hv,hm61,hn61⟩:=hv61
 subst hv
 have hm61:=hm61.mono (zA (hz26.trans (hz32.trans (hz59.trans hz60))))
 have hn61:=hn61.mono (zA (hz26.trans (hz32.trans (hz59.trans hz60))))
 refine fl_al4 fun b11=>?_
 refine fl_al4 fun b12=>?_
 refine fl_al4 fun b13=>?_
 refine fl_st4 rfl rfl P2 ?_
 refine fl_st4 rfl rfl P1 ?_
 refine fl_st4 rfl rfl rep0 ?_
 refine lN ?_
 refine R5 8 O ?_
 refine fx_seq (fx_block ?_)
 refine fx_loop (fun n fs=>∃ (i:Nat) (qg:Rat) (qt:Rat) (cg:C) (dg:C) (ct:C) (dt:C) (zz:Mem),LZ z61 zz [.blk b13 (.cells 35 [Cb (decide (((0:Int):Rat).num<0)),c61,Cb (decide ((((0:Int):Rat).den:Int)<0)),d61]),.blk b12 (.cells 35 [Cb (decide (qt.num<0)),ct,Cb (decide ((qt.den:Int)<0)),dt]),.blk b11 (.cells 35 [Cb (decide (qg.num<0)),cg,Cb (decide ((qg.den:Int)<0)),dg]),.blk b3 (.cells 101 [Cs x.name,Cs x.parent,c0,Cb x.threshold.n,c1,Cb x.threshold.d,c2,Cb x.cap.n,c3,Cb x.cap.d,c4,Ci x.back,Ci x.forward,Cb x.interest.n,c5,Cb x.interest.d,c6,Cb x.floor.n,c7,Cb x.floor.d,c8,Ci x.keep,c9,c10,c11])] [(1,Ai yr),(2,Ai by_),(3,Ap b3),(7,u0),(10,.c y2),(11,Ap b11),(12,Ap b12),(13,Ap b13),(14,Az i)] fs∧n=yy.deals.length - i∧(i≤yy.deals.length)∧(qg=sumG (yy.deals.take i))∧(qt=sumT (yy.deals.take i))∧(CZ 1 RW (zd z zz) cg (toL qg.num.natAbs))∧(CZ 1 RW (zd z zz) dg (toL (qg.den:Int).natAbs))∧(CZ 1 RW (zd z zz) ct (toL qt.num.natAbs))∧(CZ 1 RW (zd z zz) dt (toL (qt.den:Int).natAbs))∧(LenQ qg (1+8 * i))∧(LenQ qt (1+8 * i))) ?_ _ ⟨0,((0:Int):Rat),((0:Int):Rat),_,_,_,_,_,LZ.m [] O,rfl,Nat.zero_le _,rfl,rfl,(hm59.mono (zd_mono zI)),(hn59.mono (zd_mono zI)),(hm60.mono (zd_mono zI)),(hn60.mono (zd_mono zI)),lenq0,lenq0⟩ (kK (by omega))
 intro n fs ⟨i,qg,qt,cg,dg,ct,dt,zz,hL0,hmz0,hi,hqg,hqt,hgm,hgn,htm,htn,hgl,htl⟩
 refine hL0.open fun e hzz=>?_
 refine R4 16 O ?_
 refine fl_lenS rfl q2 ?_
 refine R3 4 O ?_
 refine xD rfl (fun hc65=>?_) (fun hc65=>?_)
 ·refine fx_kseq ?_
  refine fx_seq (fx_block ?_)
  refine R4 8 O ?_
  obtain ⟨d1,hd1⟩:=at_lt (l:=yy.deals) (i:=i) (by omega)
  have hsm:=hSy.r2 d1 (List.mem_of_getElem? hd1)
  refine fl_iadS rfl rfl q2 i rfl d1 hd1 fun b70 p70 cs at70 hR=>?_
  obtain ⟨v0c,v1c,hcs,v0,v1⟩:=hR
  subst hcs
  refine lF rfl ?_
  refine fl_ldA (off:=0) rfl at70.m rfl (by simp) rfl ?_
  refine lN ?_
  refine fx_condB rfl (fun hc72=>?_) (fun hc72=>?_)
  ·refine fx_drw ?_
   refine gl4 O O (.inr Y2) O ?_
   refine G1 4 O ?_
   refine gP rfl rfl trivial ?_
   refine fl_iadS rfl rfl q2 i rfl d1 hd1 fun b76 p76 cs at76 hR=>lN ?_
   obtain ⟨w0c,w1c,hcs,w0,w1⟩:=hR
   subst hcs
   refine G1 2 O ?_
   refine fg_ldA (i:=⟨_,_,.load _ _ _⟩) (off:=6) rfl rfl trivial rfl at76 ti rfl (by simp [pairC]) rfl sR ?_
   refine gC zz (c_rat_Add (by omega) (hgm.mono zd_le) (hgn.mono zd_le) (by have:=hgl.1;omega) (by have:=hgl.2;omega) w0.m w1.m (by have:=hsm.1;omega) (by have:=hsm.2;omega)) O O O O fun v79 z79 _ hv79=>?_
   replace hv79:=qv_1 hv79
   obtain ⟨c79,d79,hv,hm79,hn79⟩:=hv79
   subst hv
   have hm79:=hm79.mono (zA (hz26.trans (hz32.trans (hz59.trans (hz60.trans (hz61.trans hzz))))))
   have hn79:=hn79.mono (zA (hz26.trans (hz32.trans (hz59.trans (hz60.trans (hz61.trans hzz))))))
   refine gS O O O ?_
   refine fl_st4 rfl rfl P2 ?_
   refine lN ?_
   refine fg_nil ?_
   refine sq_n ?_
   refine xG ?_
   refine lC rfl ?_
   refine lB rfl rfl (bI_add (n:=i+1) (by omega) (by omega)) ?_
   refine R0 2 O ?_
   exact lq_n (by omega) ⟨i+1,qg+amtV d1,qt,_,_,_,_,_,LZ.m [] O,rfl,by omega,by rw [sumG_step hd1,if_pos hc72,hqg],by rw [sumT_step hd1,if_pos hc72,hqt],hm79,hn79,(htm.mono (zd_mono zI)),(htn.mono (zd_mono zI)),(hgl.add hsm).up (by omega),htl.up (by omega)⟩
  refine fx_drw ?_
  refine gl4 O O (.inr Y1) O ?_
  refine G1 4 O ?_
  refine gP rfl rfl trivial ?_
  refine fl_iadS rfl rfl q2 i rfl d1 hd1 fun b83 p83 cs at83 hR=>lN ?_
  obtain ⟨w0c,w1c,hcs,w0,w1⟩:=hR
  subst hcs
  refine G1 2 O ?_
  refine fg_ldA (i:=⟨_,_,.load _ _ _⟩) (off:=6) rfl rfl trivial rfl at83 ti rfl (by simp [pairC]) rfl sR ?_
  refine gC zz (c_rat_Add (by omega) (htm.mono zd_le) (htn.mono zd_le) (by have:=htl.1;omega) (by have:=htl.2;omega) w0.m w1.m (by have:=hsm.1;omega) (by have:=hsm.2;omega)) O O O O fun v86 z86 _ hv86=>?_
  replace hv86:=qv_1 hv86
  obtain ⟨c86,d86,hv,hm86,hn86⟩:=hv86
  subst hv
  have hm86:=hm86.mono (zA (hz26.trans (hz32.trans (hz59.trans (hz60.trans (hz61.trans hzz))))))
  have hn86:=hn86.mono (zA (hz26.trans (hz32.trans (hz59.trans (hz60.trans (hz61.trans hzz))))))
  refine gS O O O ?_
  refine fl_st4 rfl rfl P1 ?_
  refine lN ?_
  refine fg_nil ?_
  refine sq_n ?_
  refine xG ?_
  refine lC rfl ?_
  refine lB rfl rfl (bI_add (n:=i+1) (by omega) (by omega)) ?_
  refine R0 2 O ?_
  exact lq_n (by omega) ⟨i+1,qg,qt+amtV d1,_,_,_,_,_,LZ.m [] O,rfl,by omega,by rw [sumG_step hd1,if_neg (by rw [hc72];decide),hqg],by rw [sumT_step hd1,if_neg (by rw [hc72];decide),hqt],(hgm.mono (zd_mono zI)),(hgn.mono (zd_mono zI)),hm86,hn86,hgl.up (by omega),(htl.add hsm).up (by omega)⟩
 refine fx_eseq ?_
 refine lq_e ?_
 refine sq_n ?_
 refine R5 8 O ?_
 refine fx_seq (fx_block ?_)
 refine fx_loop (fun n fs=>∃ (i1:Nat) (qa:Rat) (ca:C) (da:C) (zy:Mem),LZ zz zy [.blk b13 (.cells 35 [Cb (decide (qa.num<0)),ca,Cb (decide ((qa.den:Int)<0)),da]),.blk b12 (.cells 35 [Cb (decide (qt.num<0)),ct,Cb (decide ((qt.den:Int)<0)),dt]),.blk b11 (.cells 35 [Cb (decide (qg.num<0)),cg,Cb (decide ((qg.den:Int)<0)),dg]),.blk b3 (.cells 101 [Cs x.name,Cs x.parent,c0,Cb x.threshold.n,c1,Cb x.threshold.d,c2,Cb x.cap.n,c3,Cb x.cap.d,c4,Ci x.back,Ci x.forward,Cb x.interest.n,c5,Cb x.interest.d,c6,Cb x.floor.n,c7,Cb x.floor.d,c8,Ci x.keep,c9,c10,c11])] [(1,Ai yr),(2,Ai by_),(3,Ap b3),(7,u0),(10,.c y2),(11,Ap b11),(12,Ap b12),(13,Ap b13),(15,Az i1)] fs∧n=(sortP (pairsUp yy.deals yy.deals.length)).length - i1∧(i1≤(sortP (pairsUp yy.deals yy.deals.length)).length)∧(qa=sumA ((sortP (pairsUp yy.deals yy.deals.length)).take i1))∧(CZ 1 RW (zd z zy) ca (toL qa.num.natAbs))∧(CZ 1 RW (zd z zy) da (toL (qa.den:Int).natAbs))∧(LenQ qa (1+8 * i1))) ?_ _ ⟨0,((0:Int):Rat),_,_,_,LZ.m [] O,rfl,Nat.zero_le _,rfl,(hm61.mono (zd_mono zI)),(hn61.mono (zd_mono zI)),lenq0⟩ (kK (by omega))
 intro n fs ⟨i1,qa,ca,da,zy,hL1,hmz1,hi1,hqa,ham,han,hal⟩
 refine hL1.open fun e hzy=>?_
 refine R4 24 O ?_
 refine fl_lenS rfl hP ?_
 refine R3 4 O ?_
 refine xD rfl (fun hc90=>?_) (fun hc90=>?_)
 ·refine fx_kseq ?_
  refine fx_seq (fx_block ?_)
  refine fx_drwS ?_
  obtain ⟨a1,ha1⟩:=at_lt (l:=(sortP (pairsUp yy.deals yy.deals.length))) (i:=i1) (by omega)
  have hm1:=sortP_mem.1 (List.mem_of_getElem? ha1)
  have hsm:=hSy.r2 a1.1 ((mem_pairs hok a1).1 hm1).1
  refine gl4 O O Ht O ?_
  refine G1 5 O ?_
  refine gP rfl rfl trivial ?_
  refine fl_iadS rfl rfl (hP.mono zd_le) i1 rfl a1 ha1 fun b96 p96 cs at96 hR=>lN ?_
  obtain ⟨s0c,s1c,hcs,s0,s1⟩:=hR
  subst hcs
  refine G1 2 O ?_
  refine fg_ldA (i:=⟨_,_,.load _ _ _⟩) (off:=6) rfl rfl trivial rfl at96 ti rfl (by simp [pairC]) rfl sR ?_
  refine gC zy (c_rat_Add (by omega) (ham.mono zd_le) (han.mono zd_le) (by have:=hal.1;omega) (by have:=hal.2;omega) s0.m s1.m (by have:=(sm_len hsm).1;omega) (by have:=(sm_len hsm).2;omega)) O O O O fun v99 z99 _ hv99=>?_
  replace hv99:=qv_2 (qv_1 hv99)
  obtain ⟨c99,d99,hv,hm99,hn99⟩:=hv99
  subst hv
  have hm99:=hm99.mono (zA (hz26.trans (hz32.trans (hz59.trans (hz60.trans (hz61.trans (hzz.trans hzy)))))))
  have hn99:=hn99.mono (zA (hz26.trans (hz32.trans (hz59.trans (hz60.trans (hz61.trans (hzz.trans hzy)))))))
  refine gS O O O ?_
  refine fl_st4 rfl rfl rep0 ?_
  refine lN ?_
  refine fg_nil ?_
  refine fx_drwS ?_
  refine G1 8 O ?_
  refine fg_splitD 102 rfl (fun hg102=>?_) (fun hg102=>?_)
  ·refine G1 5 O ?_
   refine gP rfl rfl rfl ?_
   refine lB rfl rfl (b_sub' (k:=.i64) (a:=(i1:Nat)) (b:=1) (r:=((i1 - 1:Nat):Int)) (by rw [wi64 ⟨by omega,by omega⟩];omega)) (lN ?_)
   obtain ⟨a0,ha0⟩:=at_lt (l:=(sortP (pairsUp yy.deals yy.deals.length))) (i:=i1 - 1) (by omega)
   refine gP rfl rfl rfl ?_
   refine fl_iadS rfl rfl (hP.mono zd_le) (i1 - 1) rfl a0 ha0 fun b106 p106 cs at106 hR=>lN ?_
   obtain ⟨s2c,s3c,hcs,s2,s3⟩:=hR
   subst hcs
   refine G1 2 O ?_
   refine fg_ldA (i:=⟨_,_,.load _ _ _⟩) (off:=0) rfl rfl rfl rfl at106 ti rfl (by simp [pairC]) rfl sR ?_
   refine G1 5 O ?_
   refine gP rfl rfl rfl ?_
   refine fl_iadS rfl rfl (hP.mono zd_le) i1 rfl a1 ha1 fun b111 p111 cs at111 hR=>lN ?_
   obtain ⟨s4c,s5c,hcs,s4,s5⟩:=hR
   subst hcs
   refine G1 2 O ?_
   refine fg_ldA (i:=⟨_,_,.load _ _ _⟩) (off:=0) rfl rfl rfl rfl at111 ti rfl (by simp [pairC]) rfl sR ?_
   refine gP rfl rfl rfl ?_
   refine lB rfl rfl (b_geqS _ _) (lN ?_)
   refine G1 6 O ?_
   refine fg_splitN 116 rfl (fun hg116=>?_) (fun hg116=>?_)
   ·refine G0 4096 O ?_
    refine R5 8 O ?_
    refine xT ?_
    refine sq_r ?_
    refine lq_r ?_
    refine sq_r ?_
    exact rI O (absurd (asc (pairs_nd (of_all hok) _) ha0 (by rw [show i1 - 1+1=i1 by omega];exact ha1)) hg116)
   refine G1 5 O ?_
   refine gP rfl rfl rfl ?_
   refine fl_iadS rfl rfl (hP.mono zd_le) i1 rfl a1 ha1 fun b119 p119 cs at119 hR=>lN ?_
   obtain ⟨s6c,s7c,hcs,s6,s7⟩:=hR
   subst hcs
   refine G1 2 O ?_
   refine fg_ldA (i:=⟨_,_,.load _ _ _⟩) (off:=2) rfl rfl rfl rfl at119 ti rfl (by simp [pairC]) rfl sR ?_
   refine G1 5 O ?_
   refine gP rfl rfl rfl ?_
   refine fl_iadS rfl rfl (hP.mono zd_le) i1 rfl a1 ha1 fun b124 p124 cs at124 hR=>lN ?_
   obtain ⟨s8c,s9c,hcs,s8,s9⟩:=hR
   subst hcs
   refine G1 2 O ?_
   refine fg_ldA (i:=⟨_,_,.load _ _ _⟩) (off:=3) rfl rfl rfl rfl at124 ti rfl (by simp [pairC]) rfl sR ?_
   refine G0 4 O ?_
   refine xD rfl (fun hc128=>?_) (fun hc128=>?_)
   ·refine R5 4 O ?_
    refine xT ?_
    refine sq_r ?_
    refine lq_r ?_
    refine sq_r ?_
    exact rI O (absurd hc128 (pl_ne (pairs_well hok hm1)))
   refine fx_skip ?_
   refine sq_n ?_
   refine xG ?_
   refine lC rfl ?_
   refine lB rfl rfl (bI_add (n:=i1+1) (by omega) (by omega)) ?_
   refine R0 2 O ?_
   exact lq_n (by omega) ⟨i1+1,qa+amtV a1.1,_,_,_,LZ.m [] O,rfl,by omega,by rw [sumA_step ha1,hqa],hm99,hn99,(hal.add hsm).up (by omega)⟩
  refine G1 90112 O ?_
  refine gP rfl rfl rfl ?_
  refine fl_iadS rfl rfl (hP.mono zd_le) i1 rfl a1 ha1 fun b119 p119 cs at119 hR=>lN ?_
  obtain ⟨s6c,s7c,hcs,s6,s7⟩:=hR
  subst hcs
  refine G1 2 O ?_
  refine fg_ldA (i:=⟨_,_,.load _ _ _⟩) (off:=2) rfl rfl rfl rfl at119 ti rfl (by simp [pairC]) rfl sR ?_
  refine G1 5 O ?_
  refine gP rfl rfl rfl ?_
  refine fl_iadS rfl rfl (hP.mono zd_le) i1 rfl a1 ha1 fun b124 p124 cs at124 hR=>lN ?_
  obtain ⟨s8c,s9c,hcs,s8,s9⟩:=hR
  subst hcs
  refine G1 2 O ?_
  refine fg_ldA (i:=⟨_,_,.load _ _ _⟩) (off:=3) rfl rfl rfl rfl at124 ti rfl (by simp [pairC]) rfl sR ?_
  refine G0 4 O ?_
  refine xD rfl (fun hc128=>?_) (fun hc128=>?_)
  ·refine R5 4 O ?_
   refine xT ?_
   refine sq_r ?_
   refine lq_r ?_
   refine sq_r ?_
   exact rI O (absurd hc128 (pl_ne (pairs_well hok hm1)))
  refine fx_skip ?_
  refine sq_n ?_
  refine xG ?_
  refine lC rfl ?_
  refine lB rfl rfl (bI_add (n:=i1+1) (by omega) (by omega)) ?_
  refine R0 2 O ?_
  exact lq_n (by omega) ⟨i1+1,qa+amtV a1.1,_,_,_,LZ.m [] O,rfl,by omega,by rw [sumA_step ha1,hqa],hm99,hn99,(hal.add hsm).up (by omega)⟩
 refine fx_eseq ?_
 refine lq_e ?_
 refine sq_n ?_
 refine R4 4 O ?_
 have hGT:qg=qt:=by rw [hqg,hqt,List.take_of_length_le (by omega),sum_GA hok,sum_TA hok]
 have hGA:qg=qa:=by rw [hqg,hqa,List.take_of_length_le (by omega),List.take_of_length_le (by omega),sum_GA hok,sumA_sort]
 refine lM rfl ?_
 refine fl_lenS rfl hP ?_
 refine lB rfl rfl (b_mul' (r:=((2 * (sortP (pairsUp yy.deals yy.deals.length)).length:Nat):Int)) (by rw [wi64 ⟨by omega,by omega⟩];omega)) ?_
 refine lC rfl ?_
 refine fl_lenS rfl q2 ?_
 refine R1 4 O ?_
 refine fl_splitN 135 rfl (fun hg135=>?_) (fun hg135=>?_)
 ·omega
 refine lD rfl ?_
 refine fl_ld4 rfl Y2 rfl ?_
 refine lD rfl ?_
 refine fl_ld4 rfl Y1 rfl ?_
 refine lD rfl ?_
 refine lZ zy (c_rat_Cmp (by omega) hgm.m hgn.m (by have:=hgl.1;omega) (by have:=hgl.2;omega) htm.m htn.m (by have:=htl.1;omega) (by have:=htl.2;omega)) rfl rfl fun v138 z138 hz138 hv138=>?_
 replace hv138:=cmp0 hv138 hGT
 subst hv138
 refine R1 12 O ?_
 refine fl_splitN 141 rfl (fun hg141=>?_) (fun hg141=>?_)
 ·exact absurd rfl hg141
 refine lD rfl ?_
 refine fl_ld4 rfl Y2 rfl ?_
 refine lD rfl ?_
 refine fl_ld4 rfl mem0 rfl ?_
 refine lD rfl ?_
 refine lZ z138 (c_rat_Cmp (by omega) hgm.m hgn.m (by have:=hgl.1;omega) (by have:=hgl.2;omega) ham.m han.m (by have:=hal.1;omega) (by have:=hal.2;omega)) rfl rfl fun v144 z144 hz144 hv144=>?_
 replace hv144:=cmp0 hv144 hGA
 subst hv144
 refine R3 8 O ?_
 refine fx_condN rfl (fun hc146=>?_) (fun hc146=>?_)
 ·exact absurd rfl hc146
 refine R4 4 O ?_
 refine fl_ldAll rfl Y3 rfl ?_
 refine fl_callLZ z144 [] (copy_own (by omega) ⟨_,rfl,mk_filing g0.m g1.m g2.m g3.m g4.m g5.m g6.m g7.m g8.m g9.m g10.m g11.m⟩ hS) rfl rfl rfl fun v148 z148 H148 hz148 ⟨m0,m1,m2,m3,m4,m5,m6,m7,m8,m9,m10,m11,csY,hv148,hH148,hY,h0_,h1_,h2_,h3_,h4_,h5_,h6_,h7_,h8_,h9_,h10_⟩=>?_
 subst hv148 hH148
 have hY:=hY.mono (zA (hz26.trans (hz32.trans (hz59.trans (hz60.trans (hz61.trans (hzz.trans (hzy.trans (hz138.trans hz144)))))))))
 have h0_:=h0_.mono (zA (hz26.trans (hz32.trans (hz59.trans (hz60.trans (hz61.trans (hzz.trans (hzy.trans (hz138.trans hz144)))))))))
 have h1_:=h1_.mono (zA (hz26.trans (hz32.trans (hz59.trans (hz60.trans (hz61.trans (hzz.trans (hzy.trans (hz138.trans hz144)))))))))
 have h2_:=h2_.mono (zA (hz26.trans (hz32.trans (hz59.trans (hz60.trans (hz61.trans (hzz.trans (hzy.trans (hz138.trans hz144)))))))))
 have h3_:=h3_.mono (zA (hz26.trans (hz32.trans (hz59.trans (hz60.trans (hz61.trans (hzz.trans (hzy.trans (hz138.trans hz144)))))))))
 have h4_:=h4_.mono (zA (hz26.trans (hz32.trans (hz59.trans (hz60.trans (hz61.trans (hzz.trans (hzy.trans (hz138.trans hz144)))))))))
 have h5_:=h5_.mono (zA (hz26.trans (hz32.trans (hz59.trans (hz60.trans (hz61.trans (hzz.trans (hzy.trans (hz138.trans hz144)))))))))
 have h6_:=h6_.mono (zA (hz26.trans (hz32.trans (hz59.trans (hz60.trans (hz61.trans (hzz.trans (hzy.trans (hz138.trans hz144)))))))))
 have h7_:=h7_.mono (zA (hz26.trans (hz32.trans (hz59.trans (hz60.trans (hz61.trans (hzz.trans (hzy.trans (hz138.trans hz144)))))))))
 have h8_:=h8_.mono (zA (hz26.trans (hz32.trans (hz59.trans (hz60.trans (hz61.trans (hzz.trans (hzy.trans (hz138.trans hz144)))))))))
 have h9_:=h9_.mono (zA (hz26.trans (hz32.trans (hz59.trans (hz60.trans (hz61.trans (hzz.trans (hzy.trans (hz138.trans hz144)))))))))
 have h10_:=h10_.mono (zA (hz26.trans (hz32.trans (hz59.trans (hz60.trans (hz61.trans (hzz.trans (hzy.trans (hz138.trans hz144)))))))))
 refine fl_alloc fun b16=>?_
 refine fl_stAll rfl rfl rfl rfl rep0 ?_
 refine lN ?_
 refine R4 8 O ?_
 refine fl_ld1 rfl mem0 rfl ?_
 refine fl_lenR rfl Y1 ?_
 refine lF rfl ?_
 refine fl_ld1 rfl (memS Y4) rfl ?_
 refine fl_lenS rfl g11 ?_
 refine R3 4 O ?_
 refine fx_condN rfl (fun hc155=>?_) (fun hc155=>?_)
 ·exact absurd rfl hc155
 refine R4 4 O ?_
 refine fl_rowC (p:=[_]) rfl (by omega) fun bY hbY=>?_
 injection hbY with hbY
 subst hbY
 refine lF rfl ?_
 refine fl_ld1 rfl mem0 rfl ?_
 refine lC rfl ?_
 refine fl_iad (n:=x.years.length) (b:=bY) (o:=0) rfl rfl yr.toNat (by omega) (by omega) ?_
 obtain ⟨hYl,t0,t1,t2,t3,t4,hcY,r0,r1,r2,r3,r4⟩:=hY.2 yr.toNat yy hyy
 refine fl_ld (v:=.agg [Ci yy.number,t0,t1,t2,t3,t4]) rfl Y1 (by rw [hY.1];omega) (by rw [Nat.zero_add,hcY];rfl) ?_
 refine fl_alloc fun b17=>?_
 refine fl_stAll rfl rfl rfl rfl rep0 ?_
 refine lN ?_
 refine R4 8 O ?_
 refine fl_lenS rfl q2 ?_
 refine lZ z148 (c_kit_Pick (by omega) (by omega)) rfl rfl fun v164 z164 hz164 ⟨m,hv164,hml⟩=>?_
 subst hv164
 refine R2 9 O ?_
 refine fl_row0 136 10 ?_
 refine lN ?_
 refine R4 8 O ?_
 refine fl_lenS rfl q2 ?_
 refine lB rfl rfl (b_sub' (r:=(yy.deals.length:Int) - 1) (wi64 ⟨by omega,by omega⟩)) ?_
 refine R0 2 O ?_
 refine fx_seq (fx_block ?_)
 refine fx_loop (fun n fs=>∃ (sn:Nat) (iv:Int) (nT:Nat) (T:List PDeal) (csT:List C) (u19:AV),LI z164 [.row u19 136 10 nT csT,.blk b17 (.cells 134 [Ci yy.number,t0,t1,t2,t3,t4]),.blk b16 (.cells 101 [Cs x.name,Cs x.parent,m0,Cb x.threshold.n,m1,Cb x.threshold.d,m2,Cb x.cap.n,m3,Cb x.cap.d,m4,Ci x.back,Ci x.forward,Cb x.interest.n,m5,Cb x.interest.d,m6,Cb x.floor.n,m7,Cb x.floor.d,m8,Ci x.keep,m9,m10,.sl bY 0 x.years.length 6]),.blk bY (.cells 134 csY),.blk b13 (.cells 35 [Cb (decide (qa.num<0)),ca,Cb (decide ((qa.den:Int)<0)),da]),.blk b12 (.cells 35 [Cb (decide (qt.num<0)),ct,Cb (decide ((qt.den:Int)<0)),dt]),.blk b11 (.cells 35 [Cb (decide (qg.num<0)),cg,Cb (decide ((qg.den:Int)<0)),dg]),.blk b3 (.cells 101 [Cs x.name,Cs x.parent,c0,Cb x.threshold.n,c1,Cb x.threshold.d,c2,Cb x.cap.n,c3,Cb x.cap.d,c4,Ci x.back,Ci x.forward,Cb x.interest.n,c5,Cb x.interest.d,c6,Cb x.floor.n,c7,Cb x.floor.d,c8,Ci x.keep,c9,c10,c11])] [(1,Ai yr),(7,u0),(10,.c y2),(16,Ap b16),(17,Ap b17),(18,Ai (m:Nat)),(19,u19),(20,Ai iv)] fs∧n=yy.deals.length - sn∧(sn≤yy.deals.length - m)∧(iv=(yy.deals.length:Int) - 1 - ((sn:Nat):Int))∧(T=(yy.deals.drop (yy.deals.length - sn)).reverse)∧(CL 10 RDeal z csT T)∧(nT=T.length)∧(nT≤sn)) ?_ _ ⟨0,(yy.deals.length:Int) - 1,0,[],[],nilv,LI.m [] O,rfl,Nat.zero_le _,by omega,by simp,CL.nil,rfl,Nat.le_refl _⟩ (kK (by omega))
 intro n fs ⟨sn,iv,nT,T,csT,u19,hL2,hmz2,hsl,hiv,hT,hcT,hnT,hnl⟩
 refine hL2.open fun e zl2 hzl2=>?_
 refine R5 64 O ?_
 refine xD rfl (fun hc170=>?_) (fun hc170=>?_)
 ·refine fx_kseq ?_
  refine fx_seq (fx_block ?_)
  refine xG ?_
  refine R1 9 O ?_
  obtain ⟨d3,hd3⟩:=at_lt (l:=yy.deals) (i:=yy.deals.length - 1 - sn) (by omega)
  refine fl_iadS rfl rfl q2 (yy.deals.length - 1 - sn) (by omega) d3 hd3 fun b176 p176 cs at176 hR=>?_
  obtain ⟨x0c,x1c,hcs,x0,x1⟩:=hR
  subst hcs
  refine fl_ldA (off:=0) rfl at176.m rfl (by simp) rfl ?_
  refine fl_bslice (cs:=[Cb d3.give,Cs d3.id,Cu d3.kind,Cs d3.payee,Cs d3.payer,Cs d3.cls,Cb d3.amount.n,x0c,Cb d3.amount.d,x1c]) rfl fun b178=>?_
  refine fl_appB (n:=nT) (m:=1) (cs:=csT) rfl rfl mem0 rfl (fun _=>repS rep0) (by omega) (by omega) fun c179 hc179=>?_
  refine R0 2 O ?_
  refine sq_n ?_
  refine xG ?_
  refine lC rfl ?_
  refine lB rfl rfl (b_sub' (r:=(yy.deals.length:Int) - 1 - ((sn+1:Nat):Int)) (by rw [wi64 ⟨by omega,by omega⟩];omega)) ?_
  refine R0 2 O ?_
  exact lq_n (by omega) ⟨sn+1,_,nT+1,T++[d3],_,_,LI.m [_] O,rfl,by omega,rfl,by rw [hT];exact turn_step (by omega) hd3,hcT.append (CL.one rfl (mk_deal x0 x1)),by rw [List.length_append,hnT];rfl,by omega⟩
 refine fx_eseq ?_
 refine lq_e ?_
 refine sq_n ?_
 refine R4 18 O ?_
 refine fl_slcS (i:=0) (j:=m) rfl q2 rfl ⟨_,rfl⟩ (by omega) (by omega) ?_
 refine fl_appS (zb:=z) (n:=nT) (s:=(yy.deals.take m).drop 0) rfl rfl (q2.sub (Nat.zero_le m) (by omega)) zI (fun _ _=>rep0) (by rw [List.length_drop,List.length_take];omega) (by rw [List.length_drop,List.length_take];omega) fun c184 n184 hcl184=>?_
 refine R2 16 O ?_
 refine fl_stE (cs':=[Ci yy.number,t0,t1,c184,t3,t4]) rfl rfl rfl P1 rfl rfl (Nat.le_of_ble_eq_true rfl) ?_
 refine lN ?_
 refine xR ?_
 have hsn:sn=yy.deals.length - m:=by omega
 have hcT2:CL 10 RDeal zl2 (csT++n184) (turn yy.deals m):=by
  have h:CL 10 RDeal zl2 _ _:=CL.mono (hcT.append hcl184) zI
  rw [hT,hsn,show yy.deals.length - (yy.deals.length - m)=m by omega,List.drop_zero] at h
  exact h
 refine fl_frzS (p:=[]) rfl hcT2 (by rw [← (turn_perm yy.deals m).length_eq,hnT,hT,List.length_reverse,List.length_drop,List.length_drop,List.length_take];omega) (by rw [hnT,hT,List.length_reverse,List.length_drop,List.length_drop,List.length_take];omega) fun zT hzT hsT=>?_
 refine lF rfl ?_
 refine fl_ld1 rfl Y1 rfl ?_
 refine lC rfl ?_
 refine fl_ldAll rfl mem0 rfl ?_
 refine fl_iad (n:=x.years.length) (b:=bY) (o:=0) rfl rfl yr.toNat (by omega) (by omega) ?_
 refine fl_st (b:=bY) (o:=0+yr.toNat * 6) (cs:=csY) rfl rfl rfl P2 rfl (by rw [hY.1];omega) ?_
 refine lN ?_
 refine xR ?_
 have hY1:CL 6 RYear zT (setL csY (0+yr.toNat * 6) [Ci yy.number,t0,t1,c184,t3,t4]) (x.years.set yr.toNat { yy with deals:=turn yy.deals m }):=by
  rw [Nat.zero_add]
  exact cl_set (hY.m) (by omega) rfl (mk_year (a:={ yy with deals:=turn yy.deals m }) r0.m r1.m hsT r3.m r4.m)
 refine fl_frzZ zT (p:=[_,_]) rfl rfl rfl (fun _ h=>h) fun zffY hzffY fY=>?_
 have hY2:CZ 6 RYear zffY (.sl bY 0 x.years.length 6) (x.years.set yr.toNat { yy with deals:=turn yy.deals m }):=(CL.mono hY1 zI).sz (by rw [List.length_set]) (by have:=hS.l3;omega) fY
 refine fl_ldAll rfl Y1 rfl ?_
 refine lC rfl ?_
 refine lZ zffY (c_pairs_Match (x:=tf x yr.toNat yy (turn yy.deals m)) (by omega) h0_.m h1_.m h2_.m h3_.m h4_.m h5_.m h6_.m h7_.m h8_.m h9_.m h10_.m hY2 (smf_turn hS hyy) hy1 hy2) rfl rfl fun v195 z195 _ hm195=>?_
 obtain ⟨c195,hv195,hP2⟩:=match_ok (nl:=namesB x.entities) (cl:=x.classes) hm195 hyr hok
 subst hv195
 have hP2:=hP2.mono (zA (hz26.trans (hz32.trans (hz59.trans (hz60.trans (hz61.trans (hzz.trans (hzy.trans (hz138.trans (hz144.trans (hz148.trans (hz164.trans (hzl2.trans (hzT.trans hzffY))))))))))))))
 refine R2 4721 O ?_
 refine fl_splitN 201 rfl (fun hg201=>?_) (fun hg201=>?_)
 ·exact absurd rfl hg201
 refine lD rfl ?_
 refine lM rfl ?_
 refine lD rfl ?_
 refine fl_lenS rfl (hP2.mono zd_le) ?_
 refine lD rfl ?_
 refine lM rfl ?_
 refine lD rfl ?_
 refine fl_lenS rfl hP ?_
 refine R3 8 O ?_
 refine fx_condN rfl (fun hc207=>?_) (fun hc207=>?_)
 ·exact absurd rfl hc207
 refine R5 16 O ?_
 refine fx_seq (fx_block ?_)
 refine fx_loop (fun n fs=>∃ (i4:Nat),LI z195 [] [(7,u0),(21,.c c195),(24,Az i4)] fs∧n=(sortP (pairsUp yy.deals yy.deals.length)).length - i4∧(i4≤(sortP (pairsUp yy.deals yy.deals.length)).length)) ?_ _ ⟨0,LI.m [_,_,_,_,_,_] O,rfl,Nat.zero_le _⟩ (kK (by omega))
 intro n fs ⟨i4,hL3,hmz3,hi4⟩
 refine hL3.open fun e zl3 _=>?_
 refine R4 24 O ?_
 refine fl_lenS rfl hP ?_
 refine R3 4 O ?_
 refine xD rfl (fun hc211=>?_) (fun hc211=>?_)
 ·refine fx_kseq ?_
  refine fx_seq (fx_block ?_)
  refine fx_drwS ?_
  obtain ⟨a4,ha4⟩:=at_lt (l:=(sortP (pairsUp yy.deals yy.deals.length))) (i:=i4) (by omega)
  have hsm:=hSy.r2 a4.1 ((mem_pairs hok a4).1 (sortP_mem.1 (List.mem_of_getElem? ha4))).1
  refine G1 5 O ?_
  refine gP rfl rfl trivial ?_
  refine fl_iadS rfl rfl (hP.mono zd_le) i4 rfl a4 ha4 fun b216 p216 cs at216 hR=>lN ?_
  obtain ⟨e0c,e1c,hcs,e0,e1⟩:=hR
  subst hcs
  refine fg_ldA (i:=⟨_,_,.load _ _ _⟩) (off:=0) rfl rfl trivial rfl at216 ti rfl (by simp [pairC]) rfl sR ?_
  refine G1 4 O ?_
  refine gP rfl rfl trivial ?_
  refine fl_iadS rfl rfl (hP2.mono zd_le) i4 rfl a4 ha4 fun b220 p220 cs at220 hR=>lN ?_
  obtain ⟨e2c,e3c,hcs,e2,e3⟩:=hR
  subst hcs
  refine fg_ldA (i:=⟨_,_,.load _ _ _⟩) (off:=0) rfl rfl trivial rfl at220 ti rfl (by simp [pairC]) rfl sR ?_
  refine gC zl3 (c_pairs_Same (s1:=tx a4.1.id) (s2:=tx a4.1.id) (by omega) e0.m e1.m (by have:=(sm_len hsm).1;omega) (by have:=(sm_len hsm).2;omega) e2.m e3.m (by have:=(sm_len hsm).1;omega) (by have:=(sm_len hsm).2;omega)) O O O O fun v222 z222 _ hv222=>?_
  replace hv222:v222=bool_ true:=hv222.trans (congrArg bool_ (by simp [sameP]))
  subst hv222
  refine G0 2 O ?_
  refine fx_condF rfl ?_
  refine fx_skip ?_
  refine sq_n ?_
  refine xG ?_
  refine lC rfl ?_
  refine lB rfl rfl (bI_add (n:=i4+1) (by omega) (by omega)) ?_
  refine R0 2 O ?_
  exact lq_n (by omega) ⟨i4+1,LI.m [] O,rfl,by omega⟩
 refine fx_eseq ?_
 refine lq_e ?_
 refine sq_n ?_
 refine xR ?_
 refine lE zl3 (works_fc (by omega)) O O fun z224 _=>?_
 refine R0 3 O ?_
 refine xT ?_
 refine rI O ?_
 rfl
end Go.Proofs.YtlceligcgelbdaaGreat
