/- All goods, walked. -/
import Derived.WalkKit
import Derived.Orders
import Derived.Test.YtlceligcgelbdaaGreatJF5
set_option linter.unusedVariables false
set_option linter.unusedSimpArgs false
set_option maxRecDepth 100000
set_option maxHeartbeats 1000000
namespace Go.Proofs.YtlceligcgelbdaaGreat
open Go.CE Go.RowKit Go.Num
open Go.Eng (setL)
theorem fl_frzSv {α:Type} {size:Nat} {R:RT α} [RMono R] {call:Call'} {B:Base} {fs:Sf} {l:List I} {Q:Sf→Prop} {u:AV} {ty n:Nat} {cs:List C} {r:List α} {p q:List HA} (e:fs.H=p++.row u ty size n cs::q) (hc:CL size R fs.z cs r) (hn:r.length=n) (hm:n≤9223372036854775807)
    (hw:∀ z',zle fs.z z'→SZ size R z' u r→FL call B l (fs.frz z' (p++q)) Q):FL call B l fs Q:=fun st rf=>by
  obtain ⟨g1,g2⟩:=rf.hold.h (.row u ty size n cs) (by rw [e];simp)
  rcases g2 with ⟨h0,rfl⟩ | ⟨b,rfl,h3⟩
  · have hr0 : r = [] := List.eq_nil_of_length_eq_zero (by omega)
    subst hr0
    refine hw fs.z zI .nil st ?_
    have hsub:(p++q).Sublist fs.H:=by rw [e];exact (List.Sublist.refl p).append (List.sublist_cons_self _ _)
    exact ⟨rf.env,rf.hold.sub hsub,rf.le,rf.old,fun b hb=>rf.own b ((fps_sub hsub).subset hb),rf.zle,rf.zin⟩
  · have h1 := rf.frz (p := p) (q := q) (b := b) (k := .cells ty cs) (a := .row (.c (.sl b 0 n size)) ty size n cs) e rfl (fun m hm => by
      obtain ⟨_,hm⟩:=hm
      rcases hm with ⟨_,hm⟩ | ⟨b',hb',hm⟩
      · cases hm
      · injection hb' with hb';injection hb' with hb';subst hb';exact hm)
    exact hw _ ⟨fun _ _ h=>.inl h⟩ ((hc.mono ⟨fun _ _ h=>.inl h⟩).sz hn hm (.inr ⟨rfl,rfl⟩)) st h1
theorem rf_frzMX {α:Type} {size:Nat} {B:Base} {z0:Mem} {ty:Nat} {p q:List HA}:∀ (D:List (Ro α)) (fs:Sf) (st:AS),Rf B fs st→fs.H=p++many (D.map (rowT ty size))::q→zle z0 fs.z→(∀ d,d∈D→0<d.2.2.length) →
    ∃ z',zle fs.z z'∧(∀ d,d∈D→∃ b,d.1=.sl b 0 d.2.2.length size∧zd z0 z' b (.cells ty d.2.1))∧Rf B ⟨fs.e,z',p++q⟩ st:=by
  intro D
  induction D with
  | nil =>
    intro fs st rf e hz0 hD
    refine ⟨fs.z,zle.refl _,fun d hd=>absurd hd List.not_mem_nil,?_⟩
    exact rf.reH (H':=p++q) (by rw [e,fps_app,fps_app,fps_cons];exact List.Perm.refl _) fun x hx=>rf.hold.h x (by rw [e];rcases List.mem_append.1 hx with hx | hx<;>simp [hx])
  | cons d D ih =>
    intro fs st rf e hz0 hD
    have r1:=rf.take (L1:=[]) (a:=rowT ty size d) (L2:=D.map (rowT ty size)) (p:=p) (q:=q) e
    have hd:=hD d (List.mem_cons_self ..)
    have hok:=r1.hold.h (rowT ty size d) (by simp [Sf.heap])
    obtain ⟨hl,g⟩:=hok
    rcases g with ⟨h0,_⟩ | ⟨b,hu,hm⟩
    · omega
    · have hu : d.1 = .sl b 0 d.2.2.length size := by injection hu
      have hfp:(rowT ty size d).fp=[b]:=by show (match AV.c d.1 with | .c (.sl b _ _ _)=>[b] | _=>[])=[b];rw [hu]
      have r2 := r1.frz (p := []) (q := p ++ many (D.map (rowT ty size)) :: q) (b := b) (k := .cells ty d.2.1) (a := rowT ty size d) rfl hfp (fun m hm => by
        obtain ⟨_,hm⟩:=hm
        rcases hm with ⟨h0,_⟩ | ⟨b',hb',hm⟩
        · omega
        · have hb' : d.1 = .sl b' 0 d.2.2.length size := by injection hb'
          rw [hu] at hb';injection hb' with hb';subst hb';exact hm)
      have hnb:∀ k',¬ z0 b k':=fun k' hb=>(r1.hold.z b k' (hz0 b k' hb)).2.2 (by show b∈fps (rowT ty size d::_);rw [fps_cons,hfp];simp)
      obtain ⟨z2,hz2,hs2,r3⟩:=ih _ st r2 rfl (ZS.trans hz0 ⟨fun _ _ h=>.inl h⟩) (fun x hx=>hD x (List.mem_cons_of_mem _ hx))
      refine ⟨z2,ZS.trans ⟨fun _ _ h=>.inl h⟩ hz2,fun x hx=>?_,r3⟩
      rcases List.mem_cons.1 hx with rfl | hx
      · exact ⟨b,hu,hz2 _ _ (.inr ⟨rfl,rfl⟩),hnb,rfl⟩
      · exact hs2 x hx
theorem fl_frzMX {α:Type} {size:Nat} {call:Call'} {B:Base} {fs:Sf} {l:List I} {Q:Sf→Prop} {z0:Mem} {ty:Nat} {p q:List HA} {D:List (Ro α)} (e:fs.H=p++many (D.map (rowT ty size))::q) (hz0:zle z0 fs.z) (hD:∀ d,d∈D→0<d.2.2.length)
  (hw:∀ z',zle fs.z z'→(∀ d,d∈D→∃ b,d.1=.sl b 0 d.2.2.length size∧zd z0 z' b (.cells ty d.2.1))→FL call B l ⟨fs.e,z',p++q⟩ Q):FL call B l fs Q:=fun st rf=>by
 obtain ⟨z',h1,h2,h3⟩:=rf_frzMX D fs st rf e hz0 hD
 exact hw z' h1 h2 st h3
theorem fl_frzBX {call:Call'} {B:Base} {fs:Sf} {l:List I} {Q:Sf→Prop} {z0:Mem} {b:Nat} {k:Blk} {p q:List HA} (e:fs.H=p++.blk b k::q) (hz0:zle z0 fs.z) (hr:k.isRo=false)
  (hw:∀ z',zle fs.z z'→zd z0 z' b k→FL call B l (fs.frz z' (p++q)) Q):FL call B l fs Q:=fun st rf=>by
 have h1:=rf.frz (p:=p) (q:=q) (b:=b) (k:=k) (a:=.blk b k) e rfl (fun m hm=>hm)
 exact hw _ ⟨fun _ _ h=>.inl h⟩ ⟨.inr ⟨rfl,rfl⟩,fun k' hb=>(rf.hold.z b k' (hz0 b k' hb)).2.2 (by rw [e,fps_app,fps_cons];simp [HA.fp]),hr⟩ st h1
def numR {α:Type} (d:Ro α):Nat:=match d.1 with
 | .sl b _ _ _=>b
 | _=>0
theorem fl_ndX {call:Call'} {B:Base} {fs:Sf} {l:List I} {Q:Sf→Prop} {α β:Type} {ty ty' size size' bo:Nat} {k:Blk} {p q:List HA} {T:List (Ro α)} {R:List (Ro β)} (e:fs.H=p++.blk bo k::many (T.map (rowT ty size))::many (R.map (rowT ty' size'))::q) (hT:∀ d,d∈T→0<d.2.2.length) (hR:∀ d,d∈R→0<d.2.2.length)
    (hw:(bo::(T.map numR++R.map numR)).Nodup→FL call B l fs Q):FL call B l fs Q:=fun st rf=>by
  refine hw ?_ st rf
  have hnum:∀ {γ:Type} {ty size:Nat} {T:List (Ro γ)},(∀ d,d∈T→0<d.2.2.length)→HA.ok st.mem (many (T.map (rowT ty size)))→fps (T.map (rowT ty size))=T.map numR:=by
    intro γ ty size T hT hok
    have h1:=many_ok.1 hok
    induction T with
    | nil=>rfl
    | cons d T ih =>
      have h2:=h1 (rowT ty size d) (by simp)
      obtain ⟨_,g⟩:=h2
      have hd:=hT d (List.mem_cons_self ..)
      rcases g with ⟨h0,_⟩ | ⟨b,hu,_⟩
      · omega
      · have hu : d.1 = .sl b 0 d.2.2.length size := by injection hu
        have e1:(rowT ty size d).fp=[numR d]:=by
          show (match AV.c d.1 with | .c (.sl b _ _ _)=>[b] | _=>[])=[numR d]
          rw [numR,hu]
        rw [List.map_cons,fps_cons,e1,List.map_cons,ih (fun x hx=>hT x (List.mem_cons_of_mem _ hx)) (many_ok.2 fun x hx=>h1 x (by rw [List.map_cons];exact List.mem_cons_of_mem _ hx)) (fun x hx=>h1 x (by rw [List.map_cons];exact List.mem_cons_of_mem _ hx))]
        rfl
  have hnd:=rf.hold.nd
  have o1:=rf.hold.h (many (T.map (rowT ty size))) (by rw [e];simp)
  have o2:=rf.hold.h (many (R.map (rowT ty' size'))) (by rw [e];simp)
  rw [e,fps_app,fps_cons,fps_cons,fps_cons,many_fp,many_fp,hnum hT o1,hnum hR o2] at hnd
  have h2:=(List.nodup_append.1 hnd).2.1
  rw [← List.append_assoc,← List.append_assoc] at h2
  have h3:=(List.nodup_append.1 h2).1
  simpa [HA.fp] using h3
abbrev PRow:=(List Rat×List Rat)×Option Rat
def RB (z:Mem) (e:List C):Option Rat→Prop
 | none=>e=[Cb false,Cz,Cb false,Cz]
 | some q=>RV z e q
theorem RB.mono {z z':Mem} {e:List C}:∀ {o:Option Rat},RB z e o→zle z z'→RB z' e o
 | none,h,_=>h
 | some _,h,hz=>RMono.mono (R:=RV) hz h
def RLRow:RT PRow:=fun z cs a=>∃ c d e,cs=c::d::e∧CZ 4 RV z c a.1.1∧CZ 4 RV z d a.1.2∧RB z e a.2
instance:RMono RLRow:=⟨fun hz ⟨c,d,e,h,g0,g1,g2⟩=>⟨c,d,e,h,g0.mono hz,g1.mono hz,g2.mono hz⟩⟩
def TZ (z:Mem) (D:List (Ro Rat)):Prop:=∀ d,d∈D→CZ 4 RV z d.1 d.2.2
theorem TZ.mono {z z':Mem} {D:List (Ro Rat)} (h:TZ z D) (hz:zle z z'):TZ z' D:=fun d hd=>(h d hd).mono hz
def rowsK (tk rl:List Ent) (Y m k:Nat):List PRow:=(List.range Y).map fun y=>((rowE tk y m,rowE rl y m),if y<k then some (bals tk rl m (y+1)) else none)
def XB (U:Mem) (T:List (Ro Rat)):Prop:=∀ d,d∈T→∃ b,d.1=.sl b 0 d.2.2.length 4∧U b (.cells 35 d.2.1)
theorem XB.mono {U V:Mem} {T:List (Ro Rat)} (h:XB U T) (hz:zle U V):XB V T:=fun d hd=>by
 obtain ⟨b,h1,h2⟩:=h d hd
 exact ⟨b,h1,hz _ _ h2⟩
structure XLed (U:Mem) (bo:Nat) (hs:List C) (T R:List (Ro Rat)) (P:List PRow) (Y m:Nat):Prop where
 o:U bo (.cells 87 hs)
 r:CL 6 RLRow U hs P
 t:XB U T
 q:XB U R
 tk:TOk U T
 qk:TOk U R
 tl:T.length=Y
 ql:R.length=Y
 tm:∀ d,d∈T→d.2.2.length=m
 qm:∀ d,d∈R→d.2.2.length=m
 th:∀ (y:Nat) d,T[y]? = some d→hs[y * 6]? = some d.1
 qh:∀ (y:Nat) d,R[y]? = some d→hs[y * 6+1]? = some d.1
 nd:(bo::(T.map numR++R.map numR)).Nodup
def HQ (cs hs:List C):Prop:=cs.length=hs.length∧∀ y:Nat,cs[y * 6]? = hs[y * 6]?∧cs[y * 6+1]? = hs[y * 6+1]?
theorem HQ.refl {cs:List C}:HQ cs cs:=⟨rfl,fun _=>⟨rfl,rfl⟩⟩
theorem HQ.set {cs hs:List C} {y:Nat} {c d u v w x:C} (h:HQ cs hs) (h0:cs[y * 6]? = some c) (h1:cs[y * 6+1]? = some d) (hl:y * 6+6≤cs.length):HQ (setL cs (y * 6) [c,d,u,v,w,x]) hs:=by
  have e:∀ i,(setL cs (y * 6) [c,d,u,v,w,x])[i]? = if y * 6≤i∧i<y * 6+6 then [c,d,u,v,w,x][i - y * 6]? else cs[i]?:=fun i=>by rw [setL_at _ _ _ (by simpa using hl)];rfl
  refine ⟨by rw [Go.Eng.setL_length _ _ _ (by simpa using hl),h.1],fun y'=>?_⟩
  obtain ⟨g0,g1⟩:=h.2 y'
  rw [e,e]
  by_cases hy:y'=y
  · subst hy
    rw [if_pos ⟨by omega,by omega⟩,if_pos ⟨by omega,by omega⟩,show y' * 6 - y' * 6=0 by omega,show y' * 6+1 - y' * 6=1 by omega,← g0,← g1,h0,h1]
    exact ⟨rfl,rfl⟩
  · rw [if_neg (by omega), if_neg (by omega)]
    exact ⟨g0,g1⟩
section
variable {z z':Mem} {A B cs:List C} {a b:C} {y Y m w v k:Nat} {T R:List (Ro Rat)} {tk rl:List Ent} {l:List Rat} {q:Rat}
theorem hdC_snoc:∀ {A B:List C},A.length=B.length→hdC (A++[a]) (B++[b])=hdC A B++[a,b,Cb false,Cz,Cb false,Cz]
 | [],[],_=>rfl
 | [],b::B,h=>by simp at h
 | a::A,[],h=>by simp at h
 | x::A,y::B,h=>by
  simp only [List.cons_append,hdC]
  rw [hdC_snoc (A:=A) (B:=B) (by simpa using h)]
theorem hdC_row:∀ {A B:List C} {y:Nat},A[y]? = some a→B[y]? = some b→((hdC A B).drop (y * 6)).take 6=[a,b,Cb false,Cz,Cb false,Cz]
 | [],_,y,h,_=>by simp at h
 | _::_,[],y,_,h=>by simp at h
 | x::A,w::B,0,h,g=>by
  simp at h g
  subst h g
  rfl
 | x::A,w::B,y+1,h,g=>by
  rw [show (y+1) * 6=y * 6+6 by omega,hdC]
  simp only [List.getElem?_cons_succ] at h g
  simp only [List.drop_succ_cons]
  exact hdC_row h g
theorem TB.nil:TB z [] [] 0 m 1:=⟨fun d hd=>(by cases hd),rfl,fun _ _=>lq_zero⟩
theorem TB.snoc {c:C} (h:TB z T [] Y m w) (g:CL 4 RV z cs (List.replicate m 0)):TB z (T++[(c,cs,List.replicate m 0)]) [] (Y+1) m w:=
 ⟨tok_add h.1 g,by rw [List.map_append,h.2.1,List.range_succ,List.map_append,List.map_singleton,List.map_singleton,rowE_nil],h.2.2⟩
theorem TB.frz (h:TB z T tk Y m w) (hm:m≤1000):∀ d,d∈T→CL 4 RV z d.2.1 d.2.2∧d.2.2.length≤9223372036854775807:=fun d hd=>by
 refine ⟨h.1 d hd,?_⟩
 have h1:d.2.2∈T.map (·.2.2):=List.mem_map.2 ⟨d,hd,rfl⟩
 rw [h.2.1] at h1
 obtain ⟨y,_,h2⟩:=List.mem_map.1 h1
 rw [← h2,rowE_len];omega
theorem tz_of (h:XB z' T) (g:∀ d,d∈T→CL 4 RV z' d.2.1 d.2.2∧d.2.2.length≤9223372036854775807):TZ z' T:=fun d hd=>by
 obtain ⟨b,h1,h2⟩:=h d hd
 obtain ⟨g1,g2⟩:=g d hd
 rw [h1]
 exact g1.sz rfl g2 h2
theorem TB.pos (h:TB z T tk Y m w) (hm:0<m):∀ d,d∈T→0<d.2.2.length:=fun d hd=>by
 have h1:d.2.2∈T.map (·.2.2):=List.mem_map.2 ⟨d,hd,rfl⟩
 rw [h.2.1] at h1
 obtain ⟨y,_,h2⟩:=List.mem_map.1 h1
 rw [← h2,rowE_len];exact hm
theorem TB.lm (h:TB z T tk Y m w):∀ d,d∈T→d.2.2.length=m:=fun d hd=>by
 have h1:d.2.2∈T.map (·.2.2):=List.mem_map.2 ⟨d,hd,rfl⟩
 rw [h.2.1] at h1
 obtain ⟨y,_,h2⟩:=List.mem_map.1 h1
 rw [← h2,rowE_len]
theorem rowsK_len:(rowsK tk rl Y m k).length=Y:=by simp [rowsK]
theorem rowsK_get (hy:y<Y):(rowsK tk rl Y m k)[y]? = some ((rowE tk y m,rowE rl y m),if y<k then some (bals tk rl m (y+1)) else none):=by
 rw [rowsK,List.getElem?_map,List.getElem?_range hy];rfl
theorem rowsK_set (hy:y<Y):(rowsK tk rl Y m y).set y ((rowE tk y m,rowE rl y m),some (bals tk rl m (y+1)))=rowsK tk rl Y m (y+1):=by
 refine List.ext_getElem? fun i=>?_
 rw [List.getElem?_set,rowsK_len]
 rcases Nat.lt_or_ge i Y with hi | hi
 ·rw [rowsK_get hi,rowsK_get hi]
  by_cases h:y=i
  ·subst h
   rw [if_pos rfl,if_pos hy,if_pos (Nat.lt_succ_self _)]
  rw [if_neg h]
  by_cases h2:i<y
  ·rw [if_pos h2,if_pos (by omega)]
  rw [if_neg h2,if_neg (by omega)]
 rw [if_neg (by omega),List.getElem?_eq_none (by rw [rowsK_len];exact hi),List.getElem?_eq_none (by rw [rowsK_len];exact hi)]
theorem cl_hd (hT:TB z T tk Y m w) (hR:TB z R rl Y m v) (gT:TZ z' T) (gR:TZ z' R):CL 6 RLRow z' (hdC (T.map (·.1)) (R.map (·.1))) (rowsK tk rl Y m 0):=by
 have hl:T.length=R.length:=by rw [hT.len,hR.len]
 refine ⟨by rw [hdL_len hl,rowsK_len,hT.len],fun i a hi=>?_⟩
 have hlt:i<Y:=by
  have:=(List.getElem?_eq_some_iff.1 hi).1
  rwa [rowsK_len] at this
 rw [rowsK_get hlt] at hi
 injection hi with hi
 subst hi
 obtain ⟨d,hd,hdr,_⟩:=hT.at hlt
 obtain ⟨e,he,her,_⟩:=hR.at hlt
 rw [hdC_row (a:=d.1) (b:=e.1) (by rw [List.getElem?_map,hd];rfl) (by rw [List.getElem?_map,he];rfl)]
 exact ⟨rfl,d.1,e.1,_,rfl,by rw [← hdr];exact gT d (List.mem_of_getElem? hd),by rw [← her];exact gR e (List.mem_of_getElem? he),rfl⟩
theorem drop_at {j:Nat} {c:C} {r:List C} (h:(cs.drop j).take 6=c::r):cs[j]? = some c:=by
 have:=congrArg (fun l=>l[0]?) h
 simp only [List.getElem?_take,List.getElem?_drop] at this
 simpa using this
theorem cl_row (h:CL 6 RLRow z cs (rowsK tk rl Y m k)) (hy:y<Y):∃ c d,cs[y * 6]? = some c∧cs[y * 6+1]? = some d∧CZ 4 RV z c (rowE tk y m)∧CZ 4 RV z d (rowE rl y m)∧∀ ws:List C,ws.length=4→setL cs (y * 6+2) ws=setL cs (y * 6) (c::d::ws):=by
 obtain ⟨h1,c,d,e,h2,h3,h4,_⟩:=h.2 y _ (rowsK_get hy)
 have e1:cs[y * 6+1]? = some d:=by
  have:=congrArg (fun l=>l[1]?) h2
  simp only [List.getElem?_take,List.getElem?_drop] at this
  simpa using this
 refine ⟨c,d,drop_at h2,e1,h3,h4,fun ws hw=>?_⟩
 have h5:(cs.drop (y * 6)).take 2=[c,d]:=by
  have:=congrArg (fun l=>l.take 2) h2
  simp only [List.take_take] at this
  simpa using this
 simp only [Go.Eng.setL_def,List.length_cons,hw]
 rw [List.take_add,h5]
 simp [Nat.add_assoc]
theorem cl_bal {c d:C} {u0 u1:C} (h:CL 6 RLRow z cs (rowsK tk rl Y m y)) (hy:y<Y) (hc:CZ 4 RV z c (rowE tk y m)) (hd:CZ 4 RV z d (rowE rl y m)) (hq:q=bals tk rl m (y+1)) (h0:CZ 1 RW z u0 (toL q.num.natAbs)) (h1:CZ 1 RW z u1 (toL (q.den:Int).natAbs)) :
  CL 6 RLRow z (setL cs (y * 6) [c,d,Cb (decide (q.num<0)),u0,Cb (decide ((q.den:Int)<0)),u1]) (rowsK tk rl Y m (y+1)):=by
 rw [← rowsK_set hy,← hq]
 exact cl_set h (by rw [rowsK_len];exact hy) rfl ⟨c,d,_,rfl,hc,hd,_,_,rfl,h0,h1⟩
theorem sumQ_lq:∀ {l:List Rat},(∀ q,q∈l→LQ w q)→LQ (l.length * (w+1)+1) (sumQ l)
 | [],_=>lq_zero.mono (by simp)
 | a::l,h=>((h a (List.mem_cons_self ..)).add (sumQ_lq (l:=l) fun q hq=>h q (List.mem_cons_of_mem _ hq))).mono (by rw [List.length_cons,Nat.succ_mul];omega)
theorem row_lq (h:∀ y e,LQ w (atE tk y e)):∀ q,q∈rowE tk y m→LQ w q:=fun q hq=>by
 obtain ⟨e,_,rfl⟩:=List.mem_map.1 hq
 exact h y e
theorem row_sum (h:∀ y e,LQ w (atE tk y e)) (hm:m≤8) (hv:8 * (w+1)+1≤v):LQ v (sumQ (rowE tk y m)):=
 (sumQ_lq (row_lq (y:=y) (m:=m) h)).mono (by rw [rowE_len];exact Nat.le_trans (Nat.succ_le_succ (Nat.mul_le_mul_right _ hm)) hv)
end
theorem fl_intoR {call : Call'} {Bs : Base} {fs : Sf} {L : List I} {Q : Sf → Prop} {α : Type} {ty size : Nat} {R : List (Ro α)} {d : Ro α} {p q : List HA} (e : fs.H = rowT ty size d :: (p ++ many (R.map (rowT ty size)) :: q)) (hw : FL call Bs L (fs.heap (p ++ many ((R ++ [d]).map (rowT ty size)) :: q)) Q) : FL call Bs L fs Q := fl_into e (by
  rw [List.map_append] at hw
  exact hw)
theorem entsN_hd {ms:List (List Bool)} {r:List Bool} (h:ms[0]? = some r):r.length=entsN ms:=by
 cases ms with
 | nil=>cases h
 | cons a l=>injection h with h;subst h;rfl
theorem entsN_nl {ms:List (List Bool)} (h:¬ (ms.length:Int) > 0):0=entsN ms:=by
 cases ms with
 | nil=>rfl
 | cons a l=>exact absurd (by simp) h
theorem ents8 {ms:List (List Bool)} (h:∀ r,r∈ms→r.length≤8):entsN ms≤8:=by
 cases ms with
 | nil=>exact Nat.zero_le _
 | cons a l=>exact h a (List.mem_cons_self ..)
theorem ms_pos {ms:List (List Bool)} {e:Int} (h:isE (entsN ms) e=true):0<ms.length∧0≤e∧e.toNat<entsN ms:=by
 obtain ⟨h1,h2⟩:=isE_i h
 refine ⟨?_,h1,by omega⟩
 cases ms with
 | nil=>exact absurd h2 (by show ¬ e<0;omega)
 | cons a l=>simp
theorem nf_t {b:Bool} (h:(!b)=false):b=true:=by cases b<;>simp_all
theorem taken_s {ms:List (List Bool)} {goods:List PGood} {j:Nat} {g:PGood} (h:goods[j]? = some g):takenL ms (goods.take (j+1))=takenL ms (goods.take j)++[((g.yr.toNat,g.py.toNat),dfr ms g)]:=by rw [takenL,takenL,tk_some h,List.map_append];rfl
theorem rel_s {ms:List (List Bool)} {pa:Nat} {sales:List PSale} {goods:List PGood} {j:Nat} {g:PGood} (h:goods[j]? = some g):relL ms pa (goods.take (j+1)) sales=relL ms pa (goods.take j) sales++(goodR ms pa sales g).rel:=by rw [relL,relL,tk_some h,List.flatMap_append];simp
theorem right_lent {k:Nat} (hk:15≤k) {z:Mem} {br n0:Nat} {pa:Int} {cR cI cM cS:C} {gv sv:AV} {ms:List (List Bool)} {goods:List PGood} {sales:List PSale} (hm:CZ 1 (RC 1 (RE Value.bool)) z cM ms) (hn0:n0=entsN ms) (hG:SZ 12 RGood z gv goods) (hGs:∀ g,g∈goods→(g.mg.nm.length≤1000∧g.mg.dm.length≤1000)∧g.us.nm.length≤1000∧g.us.dm.length≤1000) (hS:SZ 6 RSale z sv sales) (hSs:∀ a,a∈sales→a.sh.nm.length≤1000∧a.sh.dm.length≤1000) :
  FCt (E k) 78 [Ap br,gv,sv] z [.blk br (.cells 192 [cR,cI,cM,Ci (n0:Nat),Ci pa,cS])] fun v z' H'=>(∃ b:Bool,v=bool_ b∧(b=true↔RightG ms pa goods sales))∧H'=[.blk br (.cells 192 [cR,cI,cM,Ci (n0:Nat),Ci pa,cS])]:=fun mem nx hh=>by
 have hz:zle z (tz z [.blk br (.cells 192 [cR,cI,cM,Ci (n0:Nat),Ci pa,cS])]):=⟨fun _ _ h=>.inl h⟩
 have hb:At (tz z [.blk br (.cells 192 [cR,cI,cM,Ci (n0:Nat),Ci pa,cS])]) br 0 [cR,cI,cM,Ci (n0:Nat),Ci pa,cS]:=at0p (ty:=192) (.inr (by simp))
 obtain ⟨v,mem',nx',z',H',q1,q2,q3,q4,q5,q6,q7,q8,z1,q9,_⟩:=(c_profit_runner_right hk hb (hm.mono hz) hn0 (hG.mono hz) hGs (hS.mono hz) hSs).lent (fun a ha=>⟨_,_,by simpa using ha⟩) mem nx hh
 exact ⟨v,mem',nx',z',H',q1,q2,q3,q4,q5,q6,q7,q9,q8⟩
open Go.CE Go.RowKit Go.Num
open Go.Eng (setL)
theorem c_profit_RunW {k:Nat} (hk:16≤k) {z:Mem} {cM:C} {pi:Int} {gv sv:AV} {ms:List (List Bool)} {goods:List PGood} {sales:List PSale} (hm:CZ 1 (RC 1 (RE Value.bool)) z cM ms) (hG:SZ 12 RGood z gv goods) (hS:SZ 6 RSale z sv sales) (hml:ms.length≤8) (hm8:∀ r,r∈ms→r.length≤8) (hgl:goods.length≤8) (hgs:∀ g,g∈goods→SG g) (hsl:sales.length≤12) (hss:∀ x,x∈sales→x.sh.nm.length≤3∧x.sh.dm.length≤3):FC (E k) 29 [.c cM,Ai pi,gv,sv] z fun u z'=>(¬ RightG ms pi goods sales→u=.tup [.agg [Cz,Cz],Ai 2])∧(RightG ms pi goods sales→¬ SoldG ms goods sales→u=.tup [.agg [Cz,Cz],Ai 220])∧(RightG ms pi goods sales→SoldG ms goods sales→∃ bo hs T R cI,u=.tup [.agg [.sl bo 0 ms.length 6,cI],Ai 0]∧XLed (zd z z') bo hs T R (rowsK (takenL ms goods) (relL ms pi.toNat goods sales) ms.length (entsN ms) ms.length) ms.length (entsN ms)∧CZ 17 RItem z' cI (goods.map (itemOf ms pi.toNat sales))∧(∀ y e,LQ 73 (atE (takenL ms goods) y e))∧(∀ y e,LQ 96001 (atE (relL ms pi.toNat goods sales) y e))):=by
 have hgs2:∀ g,g∈goods→(g.mg.nm.length≤1000∧g.mg.dm.length≤1000)∧g.us.nm.length≤1000∧g.us.dm.length≤1000:=fun g hg=>by obtain ⟨h1,h2,h3,h4⟩:=hgs g hg;omega
 have hss2:∀ a,a∈sales→a.sh.nm.length≤1000∧a.sh.dm.length≤1000:=fun a ha=>by have:=hss a ha;omega
 refine fc_of (tS_get29) (by omega) (len1 rfl) fun B j hj=>?_
 refine xR ?_
 refine fl_al2 fun b8=>?_
 refine R2 16 O ?_
 refine fl_bd (cs:=[Cz,Cz,cM,Ci 0,Ci pi,.v (.map none)]) rfl ?_
 refine fl_bx rfl fun b19=>?_
 refine R2 16 O ?_
 refine fl_lenS rfl hm ?_
 refine R0 2 O ?_
 refine fx_join (fun fs=>∃ (n0:Nat),LI z [.blk b19 (.cells 192 [Cz,Cz,cM,Ci (n0:Nat),Ci pi,.v (.map none)]),.blk b8 (.cells 74 [Cz,Cz])] [(0,.c cM),(1,Ai pi),(2,gv),(3,sv),(8,Ap b8),(9,Ai 0),(10,Ap b19)] fs∧(n0=entsN ms)) ?_ fun fs hJ=>?_
 ·refine xD rfl (fun hc22=>?_) (fun hc22=>?_)
  ·refine xG ?_
   refine R1 4 O ?_
   obtain ⟨r0,hr0⟩:=at_lt (l:=ms) (i:=0) (by omega)
   refine fl_iadS rfl rfl hm 0 rfl r0 hr0 fun b25 p25 cs at25 hR=>?_
   obtain ⟨c25,hcs,q25⟩:=hR
   subst hcs
   refine fl_ldA (off:=0) rfl at25 rfl (by simp) rfl ?_
   refine fl_lenS rfl q25 ?_
   refine fl_nilck rfl ?_
   refine lF rfl ?_
   refine fl_stE (cs':=[Cz,Cz,cM,Ci (r0.length:Nat),Ci pi,.v (.map none)]) rfl rfl rfl rep0 rfl rfl (Nat.le_of_ble_eq_true rfl) ?_
   refine lN ?_
   exact sq_n ⟨r0.length,LI.m [] O,entsN_hd hr0⟩
  refine fx_skip ?_
  exact sq_n ⟨0,LI.m [] O,entsN_nl hc22⟩
 obtain ⟨n0,hJ22,hn0⟩:=hJ
 refine hJ22.open fun e zj22 hzj22=>?_
 refine fx_seq (fx_block ?_)
 refine R4 28 O ?_
 refine fl_callLZ zj22 [.blk b19 (.cells 192 [Cz,Cz,cM,Ci (n0:Nat),Ci pi,.v (.map none)])] (right_lent (by omega) hm.m hn0 hG.m hgs2 hS.m hss2) rfl rfl rfl fun v34 z34 H34 hz34 ⟨⟨w34,hv34,hb34⟩,hH34⟩=>?_
 subst hv34 hH34
 refine R0 4 O ?_
 refine fx_condB rfl (fun hc30=>?_) (fun hc30=>?_)
 ·refine xR ?_
  refine fl_bd (cs:=[_,_]) rfl ?_
  refine fl_st2 rfl rfl P1 ?_
  refine R0 2 O ?_
  refine xT ?_
  refine sq_r ?_
  refine rQ (.inl rfl) (rc2 rfl Y1 (rt rfl rn)) ?_
  have hnr:¬ RightG ms pi goods sales:=fun h=>by have:=hb34.2 h;rw [this] at hc30;cases hc30
  exact ⟨fun _=>rfl,fun h=>absurd h hnr,fun h=>absurd h hnr⟩
 refine R4 28 O ?_
 have hRG:=hb34.1 (nf_t hc30)
 refine fl_callLZ z34 [.blk b19 (.cells 192 [Cz,Cz,cM,Ci (n0:Nat),Ci pi,.v (.map none)])] (c_profit_runner_sold (by omega) hm.m hRG.nd hG.m hS.m hss2 (by omega)) rfl rfl rfl fun v41 z41 H41 hz41 ⟨w41,hv41,hb41,hs41⟩=>?_
 subst hv41
 refine R0 4 O ?_
 refine fx_condB rfl (fun hc37=>?_) (fun hc37=>?_)
 ·refine xR ?_
  have hns:¬ SoldG ms goods sales:=fun h=>by have:=hb41.2 h;rw [this] at hc37;cases hc37
  refine fl_sub (List.sublist_append_right _ _) ?_
  refine fl_bd (cs:=[_,_]) rfl ?_
  refine fl_st2 rfl rfl rep0 ?_
  refine R0 2 O ?_
  refine xT ?_
  refine sq_r ?_
  refine rQ (.inl rfl) (rc2 rfl mem0 (rt rfl rn)) ?_
  exact ⟨fun h=>absurd hRG h,fun _ _=>rfl,fun _ h=>absurd h hns⟩
 refine fx_skip ?_
 refine sq_n ?_
 refine R4 4 O ?_
 have hSG:=hb41.1 (nf_t hc37)
 obtain ⟨bm,F,ck,rfl,hmp,hF⟩:=hs41 (nf_t hc37)
 have hF:GF z41 F sales:=hF
 obtain ⟨hpos,hp0,hpe⟩:=ms_pos hRG.p
 obtain ⟨pa,rfl⟩:=Int.eq_ofNat_of_zero_le hp0
 have hpe:pa<entsN ms:=hpe
 have he8:=ents8 hm8
 refine lC rfl ?_
 refine fl_lenS rfl hm ?_
 refine lC rfl ?_
 refine fl_row0 87 6 ?_
 refine fl_many0 ?_
 refine fl_many0 ?_
 refine fl_fr1 rfl ?_
 refine fl_fr2 rfl ?_
 refine fl_fr3 rfl ?_
 refine lN ?_
 refine fx_seq (fx_block ?_)
 refine fx_loop (fun n fs=>∃ (i:Nat) (cu:C) (hs:List C) (Ta:List (Ro Rat)) (Ra:List (Ro Rat)) (zz:Mem),LZ z41 zz [.blk b19 (.cells 192 [cu,Cz,cM,Ci (n0:Nat),Ci (pa:Nat),.mp bm]),.row (.c cu) 87 6 i hs,many (Ta.map (rowT 35 4)),many (Ra.map (rowT 35 4)),.blk b8 (.cells 74 [Cz,Cz])] [(2,gv),(8,Ap b8),(9,Ai 0),(10,Ap b19),(45,Az ms.length),(46,Az i)] fs∧n=ms.length - i∧(i≤ms.length)∧(TB (zd z zz) Ta [] i (entsN ms) 1)∧(TB (zd z zz) Ra [] i (entsN ms) 1)∧(hs=hdC (Ta.map (·.1)) (Ra.map (·.1)))∧(Ta.length=Ra.length)) ?_ _ ⟨0,Cz,[],[],[],_,LZ.m [] O,rfl,Nat.zero_le _,TB.nil,TB.nil,rfl,rfl⟩ (kK (by omega))
 intro n fs ⟨i,cu,hs,Ta,Ra,zz,hL0,hmz0,hi,hTa,hRa,hhs,hTR⟩
 refine hL0.open fun e hzz=>?_
 refine R5 8 O ?_
 refine xD rfl (fun hc47=>?_) (fun hc47=>?_)
 ·refine fx_kseq ?_
  refine fx_seq (fx_block ?_)
  refine fx_drw ?_
  refine G1 4 O ?_
  refine gP rfl rfl trivial ?_
  refine fl_nilck rfl (lN ?_)
  refine G1 4 O ?_
  refine gl1 O O Ht O ?_
  refine G1 2 O ?_
  refine gP rfl rfl trivial ?_
  refine fl_nilck rfl (lN ?_)
  refine G1 2 O ?_
  refine gl1 O O Ht O ?_
  refine fg_callOZ zz (i:=⟨_,_,.call _ _⟩) (c_profit_noughts (by omega) (m:=n0) (by omega)) rfl rfl trivial rfl rfl rfl rfl fun v58 z58 H58 hz58 ⟨c58,cs58,hv58,hH58,hcl58⟩=>?_
  subst hv58 hH58
  have hcl58:=hcl58.mono (zAq (hzj22.trans (hz34.trans (hz41.trans hzz))))
  refine G1 2 O ?_
  refine gP rfl rfl trivial ?_
  refine fl_nilck rfl (lN ?_)
  refine G1 2 O ?_
  refine gl1 O O Ht O ?_
  refine fg_callOZ z58 (i:=⟨_,_,.call _ _⟩) (c_profit_noughts (by omega) (m:=n0) (by omega)) rfl rfl trivial rfl rfl rfl rfl fun v63 z63 H63 _ ⟨c63,cs63,hv63,hH63,hcl63⟩=>?_
  subst hv63 hH63
  have hcl63:=hcl63.mono (zAq (hzj22.trans (hz34.trans (hz41.trans (hzz.trans hz58)))))
  refine gP rfl rfl trivial ?_
  refine fl_bd (cs:=[c58,c63,Cb false,Cz,Cb false,Cz]) rfl (lN ?_)
  refine fg_own (k:=.cells 87 [c58,c63,Cb false,Cz,Cb false,Cz]) (w:=fun b=>.c (.sl b 0 1 6)) rfl trivial rfl (fun _=>rfl) (fun st hst=>?_) (fun b65 hT65=>?_)
  ·simp only [stepE,fillS,AS.ev,hst 64 (by simp [Ins.sl,Od.sls,Od.sl])];rfl
  refine fg_app (i:=⟨_,_,.app _ _ _ _ _ _⟩) rfl trivial rfl rfl rfl rfl ?_
  refine fl_appB (n:=i) (m:=1) (cs:=hs) rfl rfl mem0 rfl (fun _=>(repS P3)) (by omega) (by omega) fun c66 hc66=>?_
  refine lN ?_
  refine gP rfl rfl trivial ?_
  refine fl_nilck rfl (lN ?_)
  refine G1 4 O ?_
  refine gS O O O ?_
  refine fl_stE (cs':=[c66,Cz,cM,Ci (n0:Nat),Ci (pa:Nat),.mp bm]) rfl rfl rfl P3 rfl rfl (Nat.le_of_ble_eq_true rfl) ?_
  refine lN ?_
  refine fg_nil ?_
  refine sq_n ?_
  refine xG ?_
  refine fl_fr2 rfl ?_
  refine fl_intoR (p:=[_,_,_,_]) rfl ?_
  refine fl_fr1 rfl ?_
  refine fl_intoR (p:=[_,_,_,_]) rfl ?_
  refine lB rfl rfl (bI_add (n:=i+1) (by omega) (by omega)) ?_
  refine R0 2 O ?_
  exact lq_n (by omega) ⟨i+1,c66,(hs++[c58,c63,Cb false,Cz,Cb false,Cz]),(Ta++[(c58,cs58,List.replicate n0 0)]),(Ra++[(c63,cs63,List.replicate n0 0)]),_,LZ.m [_] O,rfl,by omega,by rw [hn0];exact TB.snoc ((hTa.mono (zd_mono zI))) (by rw [← hn0];exact (hcl58.mono (zd_mono zI))),by rw [hn0];exact TB.snoc ((hRa.mono (zd_mono zI))) (by rw [← hn0];exact hcl63),by rw [List.map_append,List.map_append,hhs];exact (hdC_snoc (by rw [List.length_map,List.length_map,hTR])).symm,by rw [List.length_append,List.length_append,hTR];rfl⟩
 refine fx_eseq ?_
 refine lq_e ?_
 refine sq_n ?_
 refine R4 4 O ?_
 obtain rfl:i=ms.length:=by omega
 refine fl_rowC (p:=[_]) rfl hpos fun bo hbo=>?_
 have hbo:cu=.sl bo 0 ms.length 6:=by injection hbo
 subst hbo
 refine fl_row0 93 17 ?_
 refine fl_close (p:=[]) (L:=[_]) rfl ?_
 refine fl_fr4 rfl ?_
 refine fl_fr4 rfl ?_
 refine fl_fr4 rfl ?_
 refine fl_fr4 rfl ?_
 refine lM rfl ?_
 refine fl_lenS rfl hG ?_
 refine R0 2 O ?_
 refine fx_seq (fx_block ?_)
 refine fx_loop (fun n fs=>∃ (jj:Nat) (cI:C) (Tb:List (Ro Rat)) (Rb:List (Ro Rat)) (its:List C) (zy:Mem),LZ zz zy [.blk b19 (.cells 192 [.sl bo 0 ms.length 6,cI,cM,Ci (n0:Nat),Ci (pa:Nat),.mp bm]),.blk bo (.cells 87 hs),many (Tb.map (rowT 35 4)),many (Rb.map (rowT 35 4)),many [.row (.c cI) 93 17 jj its],.blk b8 (.cells 74 [Cz,Cz])] [(8,Ap b8),(9,Ai 0),(10,Ap b19),(71,gv),(72,Az goods.length),(73,Az jj)] fs∧n=goods.length - jj∧(jj≤goods.length)∧(TB (zd z zy) Tb (takenL ms (goods.take jj)) ms.length (entsN ms) (1+9 * jj))∧(TB (zd z zy) Rb (relL ms pa (goods.take jj) sales) ms.length (entsN ms) (1+12000 * jj))∧(Tb.map (·.1)=Ta.map (·.1))∧(Rb.map (·.1)=Ra.map (·.1))∧(CL 17 RItem zy its ((goods.take jj).map (itemOf ms pa sales)))) ?_ _ ⟨0,Cz,Ta,Ra,[],_,LZ.m [] O,rfl,Nat.zero_le _,hTa,hRa,rfl,rfl,CL.nil⟩ (kK (by omega))
 intro n fs ⟨jj,cI,Tb,Rb,its,zy,hL1,hmz1,hjj,hTb,hRb,eTb,eRb,hIb⟩
 refine hL1.open fun e hzy=>?_
 refine R5 8 O ?_
 refine xD rfl (fun hc74=>?_) (fun hc74=>?_)
 ·refine fx_kseq ?_
  refine fx_seq (fx_block ?_)
  refine xR ?_
  obtain ⟨g,hg⟩:=at_lt (l:=goods) (i:=jj) (by omega)
  have hgg:=List.mem_of_getElem? hg
  have hgsg:=hgs g hgg
  refine fl_iadS (zz:=zy) rfl rfl hG.m jj rfl g hg fun b75 p75 cs at75 hR=>?_
  obtain ⟨e0,e1,e2,e3,hcs,g0,g1,g2,g3⟩:=hR
  subst hcs
  refine fl_ldA (off:=0) rfl at75 rfl (by simp) rfl ?_
  refine fl_alloc fun b12=>?_
  refine fl_stAll rfl rfl rfl rfl rep0 ?_
  refine lN ?_
  refine xG ?_
  refine lC rfl ?_
  refine fl_ldAll rfl mem0 rfl ?_
  refine fl_fr5 rfl ?_
  refine fl_fr5 rfl ?_
  refine fl_fr5 rfl ?_
  refine fl_fr5 rfl ?_
  refine fl_fr5 rfl ?_
  refine fl_callLZ zy [.blk b19 (.cells 192 [.sl bo 0 ms.length 6,cI,cM,Ci (n0:Nat),Ci (pa:Nat),.mp bm]),.blk bo (.cells 87 hs),many (Tb.map (rowT 35 4)),many (Rb.map (rowT 35 4)),many [.row (.c cI) 93 17 jj its]] (c_profit_runner_good (by omega) g0 g1 g2 g3 hgsg hm.m hRG.m hml (hRG.g g hgg) hpe (zI _ _ hmp) hF.m hss hsl (z0:=z) zI hTb hRb (by omega) (by omega) hhs (by rw [List.length_map,List.length_map,hTR]) eTb eRb hIb (by omega)) rfl rfl rfl fun v79 z79 H79 _ ⟨hv79,Tc,Rc,cJ,itk,hH79,hTc,hRc,eTc,eRc,hIc⟩=>?_
  subst hv79 hH79
  refine lN ?_
  refine sq_n ?_
  refine xG ?_
  refine fl_fr5 rfl ?_
  refine lB rfl rfl (bI_add (n:=jj+1) (by omega) (by omega)) ?_
  refine R0 2 O ?_
  exact lq_n (by omega) ⟨jj+1,cJ,Tc,Rc,itk,_,LZ.m [_] O,rfl,by omega,by rw [taken_s hg];exact TB.wd (by exact hTc) (by omega),by rw [rel_s hg];exact TB.wd (by exact hRc) (by omega),eTc,eRc,by rw [tk_some hg,List.map_append];exact hIc⟩
 refine fx_eseq ?_
 refine lq_e ?_
 refine sq_n ?_
 refine xR ?_
 obtain rfl:jj=goods.length:=by omega
 rw [List.take_of_length_le (Nat.le_refl _)] at hTb hRb hIb
 replace hTb:=hTb.wd (v:=73) (by omega)
 replace hRb:=hRb.wd (v:=96001) (by omega)
 refine lZ zy (c_rat_Whole (by omega) (by decide) (by decide)) rfl rfl fun v81 z81 hz81 hv81=>?_
 have hv81:=qv_op hv81
 obtain ⟨c81,d81,hv,hm81,hn81⟩:=hv81
 subst hv
 have hm81:=hm81.mono (zAq (hzj22.trans (hz34.trans (hz41.trans (hzz.trans hzy)))))
 have hn81:=hn81.mono (zAq (hzj22.trans (hz34.trans (hz41.trans (hzz.trans hzy)))))
 refine fl_al4 fun b13=>?_
 refine fl_st4 rfl rfl rep0 ?_
 refine lN ?_
 refine R4 8 O ?_
 refine fl_nilck rfl ?_
 refine R1 4 O ?_
 refine fl_ld1 rfl Y1 rfl ?_
 refine fl_len rfl rfl ?_
 refine lC rfl ?_
 have hpe0:0<entsN ms:=by omega
 have hTp:=TB.pos hTb hpe0
 have hRp:=TB.pos hRb hpe0
 refine fl_ndX (p:=[_,_]) rfl hTp hRp fun hnd=>?_
 refine fl_frzMX (z0:=z) (p:=[_,_,_]) (D:=Tb) rfl zI hTp fun zfT hzfT hXT=>?_
 have hXT:XB (zd z zfT) Tb:=hXT
 have hZT:TZ (zd z zfT) Tb:=tz_of hXT (TB.frz ((hTb.mono (zd_mono (hz81.trans hzfT)))) (by omega))
 refine fl_frzMX (z0:=z) (p:=[_,_,_]) (D:=Rb) rfl (hzj22.trans (hz34.trans (hz41.trans (hzz.trans (hzy.trans (hz81.trans hzfT)))))) hRp fun zfR hzfR hXR=>?_
 have hXR:XB (zd z zfR) Rb:=hXR
 have hZR:TZ (zd z zfR) Rb:=tz_of hXR (TB.frz ((hRb.mono (zd_mono (hz81.trans (hzfT.trans hzfR))))) (by omega))
 have hrows:=cl_hd hTb hRb (hZT.mono (zd_mono (hzfR))) hZR
 rw [eTb,eRb,← hhs] at hrows
 refine lN ?_
 refine fx_seq (fx_block ?_)
 refine fx_loop (fun n fs=>∃ (y:Nat) (q:Rat) (c3:C) (d3:C) (cs:List C) (zw:Mem),LZ zfR zw [.blk b13 (.cells 35 [Cb (decide (q.num<0)),c3,Cb (decide ((q.den:Int)<0)),d3]),.blk b19 (.cells 192 [.sl bo 0 ms.length 6,cI,cM,Ci (n0:Nat),Ci (pa:Nat),.mp bm]),.blk bo (.cells 87 cs),many [.row (.c cI) 93 17 goods.length its],.blk b8 (.cells 74 [Cz,Cz])] [(8,Ap b8),(9,Ai 0),(10,Ap b19),(13,Ap b13),(87,Az ms.length),(88,Az y)] fs∧n=ms.length - y∧(y≤ms.length)∧(q=bals (takenL ms goods) (relL ms pa goods sales) (entsN ms) y)∧(LQ (768612 * y+1) q)∧(CZ 1 RW (zd z zw) c3 (toL q.num.natAbs))∧(CZ 1 RW (zd z zw) d3 (toL (q.den:Int).natAbs))∧(CL 6 RLRow (zd z zw) cs (rowsK (takenL ms goods) (relL ms pa goods sales) ms.length (entsN ms) y))∧(HQ cs hs)) ?_ _ ⟨0,0,c81,d81,hs,_,LZ.m [] O,rfl,Nat.zero_le _,rfl,lq_zero,(hm81.mono (zd_mono (hzfT.trans hzfR))),(hn81.mono (zd_mono (hzfT.trans hzfR))),hrows,HQ.refl⟩ (kK (by omega))
 intro n fs ⟨y,q,c3,d3,cs,zw,hL2,hmz2,hy,hq,hql,hqm,hqn,hrw,hQ⟩
 refine hL2.open fun e hzw=>?_
 refine R5 8 O ?_
 refine xD rfl (fun hc89=>?_) (fun hc89=>?_)
 ·refine fx_kseq ?_
  refine fx_seq (fx_block ?_)
  refine R4 32 O ?_
  refine fl_nilck rfl ?_
  refine R1 4 O ?_
  refine fl_ld1 rfl Y1 rfl ?_
  refine lC rfl ?_
  refine fl_iad rfl rfl y rfl (by omega) ?_
  refine R0 2 O ?_
  refine fx_drwS ?_
  have hlt:y<ms.length:=by omega
  have hcl:cs.length=ms.length * 6:=by rw [hrw.1,rowsK_len]
  obtain ⟨ct,cr,h60,h61,hct,hcr,hset⟩:=cl_row hrw hlt
  have hsT:LQ 593 (sumQ (rowE (takenL ms goods) y (entsN ms))):=row_sum hTb.2.2 he8 (by omega)
  have hsR:LQ 768017 (sumQ (rowE (relL ms pa goods sales) y (entsN ms))):=row_sum hRb.2.2 he8 (by omega)
  have hqs:=(hql.add hsT).mono (n:=9000000) (by omega)
  refine gl4 O O Ht O ?_
  refine G1 2 O ?_
  refine gP rfl rfl trivial ?_
  refine fl_nilck rfl (lN ?_)
  refine G1 2 O ?_
  refine fg_ld1 (i:=⟨_,_,.load _ _ _⟩) rfl rfl trivial rfl (.inr Y2) (by rw [Nat.zero_add];exact h60) sR ?_
  refine gC zw (c_rat_SumL (by omega) (m:=73) (hct.mono zd_le) (row_lq hTb.2.2) (by rw [rowE_len];omega)) O O O O fun v103 z103 hz103 hv103=>?_
  have hv103:=qv_op hv103
  obtain ⟨c103,d103,hv,hm103,hn103⟩:=hv103
  subst hv
  have hm103:=hm103.mono (zAq (hzj22.trans (hz34.trans (hz41.trans (hzz.trans (hzy.trans (hz81.trans (hzfT.trans (hzfR.trans hzw)))))))))
  have hn103:=hn103.mono (zAq (hzj22.trans (hz34.trans (hz41.trans (hzz.trans (hzy.trans (hz81.trans (hzfT.trans (hzfR.trans hzw)))))))))
  refine gC z103 (c_rat_Add (by omega) hqm.m hqn.m (Nat.le_trans hql.1 (by omega)) (Nat.le_trans hql.2 (by omega)) (hm103.mono zd_le) (hn103.mono zd_le) (Nat.le_trans hsT.1 (by omega)) (Nat.le_trans hsT.2 (by omega))) O O O O fun v104 z104 hz104 hv104=>?_
  simp only [valR_c] at hv104
  have hv104:=qv_op hv104
  obtain ⟨c104,d104,hv,hm104,hn104⟩:=hv104
  subst hv
  have hm104:=hm104.mono (zAq (hzj22.trans (hz34.trans (hz41.trans (hzz.trans (hzy.trans (hz81.trans (hzfT.trans (hzfR.trans (hzw.trans hz103))))))))))
  have hn104:=hn104.mono (zAq (hzj22.trans (hz34.trans (hz41.trans (hzz.trans (hzy.trans (hz81.trans (hzfT.trans (hzfR.trans (hzw.trans hz103))))))))))
  refine G1 2 O ?_
  refine gP rfl rfl trivial ?_
  refine fl_nilck rfl (lN ?_)
  refine G1 2 O ?_
  refine fg_ld1 (i:=⟨_,_,.load _ _ _⟩) rfl rfl trivial rfl (.inr Y2) (by rw [Nat.zero_add];exact h61) sR ?_
  refine gC z104 (c_rat_SumL (by omega) (m:=96001) hcr.m (row_lq hRb.2.2) (by rw [rowE_len];omega)) O O O O fun v109 z109 hz109 hv109=>?_
  have hv109:=qv_op hv109
  obtain ⟨c109,d109,hv,hm109,hn109⟩:=hv109
  subst hv
  have hm109:=hm109.mono (zAq (hzj22.trans (hz34.trans (hz41.trans (hzz.trans (hzy.trans (hz81.trans (hzfT.trans (hzfR.trans (hzw.trans (hz103.trans hz104)))))))))))
  have hn109:=hn109.mono (zAq (hzj22.trans (hz34.trans (hz41.trans (hzz.trans (hzy.trans (hz81.trans (hzfT.trans (hzfR.trans (hzw.trans (hz103.trans hz104)))))))))))
  refine gC z109 (c_rat_Sub (by omega) hm104.m hn104.m hqs.1 hqs.2 (hm109.mono zd_le) (hn109.mono zd_le) (Nat.le_trans hsR.1 (by omega)) (Nat.le_trans hsR.2 (by omega))) O O O O fun v110 z110 _ hv110=>?_
  simp only [valR_c] at hv110
  have hv110:=qv_op hv110
  obtain ⟨c110,d110,hv,hm110,hn110⟩:=hv110
  subst hv
  have hm110:=hm110.mono (zAq (hzj22.trans (hz34.trans (hz41.trans (hzz.trans (hzy.trans (hz81.trans (hzfT.trans (hzfR.trans (hzw.trans (hz103.trans (hz104.trans hz109))))))))))))
  have hn110:=hn110.mono (zAq (hzj22.trans (hz34.trans (hz41.trans (hzz.trans (hzy.trans (hz81.trans (hzfT.trans (hzfR.trans (hzw.trans (hz103.trans (hz104.trans hz109))))))))))))
  refine gS O O O ?_
  refine fl_st4 rfl rfl rep0 ?_
  refine lN ?_
  refine fg_nil ?_
  refine xG ?_
  refine lC rfl ?_
  refine fl_ld4 rfl mem0 rfl ?_
  refine fl_nilck rfl ?_
  refine lF rfl ?_
  refine fl_stE (cs':=setL cs (y * 6) [ct,cr,Cb (decide ((q+sumQ (rowE (takenL ms goods) y (entsN ms)) - sumQ (rowE (relL ms pa goods sales) y (entsN ms))).num<0)),c110,Cb (decide (((q+sumQ (rowE (takenL ms goods) y (entsN ms)) - sumQ (rowE (relL ms pa goods sales) y (entsN ms))).den:Int)<0)),d110]) rfl rfl rfl P2 (by rw [Nat.zero_add];exact hset _ rfl) rfl (by omega) ?_
  refine lN ?_
  refine sq_n ?_
  refine xG ?_
  refine lB rfl rfl (bI_add (n:=y+1) (by omega) (by omega)) ?_
  refine R0 2 O ?_
  exact lq_n (by omega) ⟨y+1,(q+sumQ (rowE (takenL ms goods) y (entsN ms)) - sumQ (rowE (relL ms pa goods sales) y (entsN ms))),c110,d110,_,_,LZ.m [] O,rfl,by omega,by rw [bals,← hq],((hql.add hsT).sub hsR).mono (by omega),hm110,hn110,cl_bal ((hrw.mono (zd_mono zI))) hlt ((hct.mono (zd_mono zI))) ((hcr.mono (zd_mono zI))) (by rw [bals,← hq]) (hm110) (hn110),HQ.set hQ h60 h61 (by omega)⟩
 refine fx_eseq ?_
 refine lq_e ?_
 refine sq_n ?_
 refine R4 4 O ?_
 refine fl_nilck rfl ?_
 refine lF rfl ?_
 refine fl_ld2 rfl Y1 rfl ?_
 refine fl_st2 rfl rfl (repS P3) ?_
 refine lC rfl ?_
 obtain rfl:y=ms.length:=by omega
 refine fl_open (p:=[_,_,_]) (L:=[_]) rfl ?_
 refine fl_frzSv (p:=[_,_,_]) rfl ((hIb.mono (hz81.trans (hzfT.trans (hzfR.trans zI))))) (by rw [List.length_map]) (by omega) fun zp hzp hzit=>?_
 refine fl_frzBX (z0:=z) (p:=[_,_]) rfl (hzj22.trans (hz34.trans (hz41.trans (hzz.trans (hzy.trans (hz81.trans (hzfT.trans (hzfR.trans (hzw.trans hzp))))))))) rfl fun zo hzo hzo1=>?_
 refine lN ?_
 refine xT ?_
 refine rQ (.inl rfl) (rc2 rfl Y2 (rt rfl rn)) ?_
 exact ⟨fun h=>absurd hRG h,fun _ h=>absurd hSG h,fun _ _=>⟨bo,cs,Tb,Rb,_,rfl,⟨hzo1,(hrw.mono (zd_mono (hzp.trans hzo))),(hXT.mono (zd_mono (hzfR.trans (hzw.trans (hzp.trans hzo))))),(hXR.mono (zd_mono (hzw.trans (hzp.trans hzo)))),((hTb.mono (zd_mono (hz81.trans (hzfT.trans (hzfR.trans (hzw.trans (hzp.trans hzo)))))))).1,((hRb.mono (zd_mono (hz81.trans (hzfT.trans (hzfR.trans (hzw.trans (hzp.trans hzo)))))))).1,hTb.len,hRb.len,hTb.lm,hRb.lm,fun y d hd=>(hQ.2 y).1.trans (hd_T hhs (by rw [List.length_map,List.length_map,hTR]) eTb hd),fun y d hd=>(hQ.2 y).2.trans (hd_R hhs (by rw [List.length_map,List.length_map,hTR]) eRb hd),hnd⟩,(hzit.mono (hzo)),hTb.2.2,hRb.2.2⟩⟩
theorem c_profit_Run {k : Nat} (hk : 16 ≤ k) {z : Mem} {cM : C} {pi : Int} {gv sv : AV} {ms : List (List Bool)} {goods : List PGood} {sales : List PSale} (hm : CZ 1 (RC 1 (RE Value.bool)) z cM ms) (hG : SZ 12 RGood z gv goods) (hS : SZ 6 RSale z sv sales) (hml : ms.length ≤ 8) (hm8 : ∀ r, r ∈ ms → r.length ≤ 8) (hgl : goods.length ≤ 8) (hgs : ∀ g, g ∈ goods → SG g) (hsl : sales.length ≤ 12) (hss : ∀ x, x ∈ sales → x.sh.nm.length ≤ 3 ∧ x.sh.dm.length ≤ 3) : FC (E k) 29 [.c cM, Ai pi, gv, sv] z fun u z' => (¬ RightG ms pi goods sales → u = .tup [.agg [Cz, Cz], Ai 2]) ∧ (RightG ms pi goods sales → ¬ SoldG ms goods sales → u = .tup [.agg [Cz, Cz], Ai 220]) ∧ (RightG ms pi goods sales → SoldG ms goods sales → ∃ cR cI, u = .tup [.agg [cR, cI], Ai 0] ∧ CZ 6 RLRow z' cR (rowsK (takenL ms goods) (relL ms pi.toNat goods sales) ms.length (entsN ms) ms.length) ∧ CZ 17 RItem z' cI (goods.map (itemOf ms pi.toNat sales)) ∧ (∀ y e, LQ 73 (atE (takenL ms goods) y e)) ∧ (∀ y e, LQ 96001 (atE (relL ms pi.toNat goods sales) y e))) := FC.mono (c_profit_RunW hk hm hG hS hml hm8 hgl hgs hsl hss) fun u z' _ ⟨h1, h2, h3⟩ => ⟨h1, h2, fun a b => by
  obtain ⟨bo,hs,T,R,cI,g0,g1,g2⟩:=h3 a b
  exact ⟨_,cI,g0,(g1.r.sz rowsK_len (by omega) g1.o).mono zd_le,g2⟩⟩
end Go.Proofs.YtlceligcgelbdaaGreat
