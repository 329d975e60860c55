/- Maps; many rows of one's own; ranges over functions, states as functions. -/
import Derived.WalkKit
import Derived.Orders
import Derived.Test.YtlceligcgelbdaaGreatNA5
set_option linter.unusedVariables false
set_option linter.unusedSimpArgs false
set_option linter.unusedSectionVars false
namespace Go.CE
open Go.RowKit
open Go.Eng (Od need need_pos need_some setL binV binBV)
def many (L:List HA):HA:=.gen (fps L) (fun m=>∀ a,a∈L→a.ok m) fun m m' hm h a ha=>HA.ok_of (h a ha) fun b hb=>hm b (mem_fps.2 ⟨a,ha,hb⟩)
theorem fps_many {L H:List HA}:fps (many L::H)=fps (L++H):=by rw [fps_cons,fps_app];rfl
section
variable {call:Call'} {B:Base} {fs:Sf} {l:List I} {Q:Sf→Prop} {d:Nat}
theorem Rf.sameH {st:AS} (r:Rf B fs st) {H':List HA} (hf:fps H'=fps fs.H) (ho:∀ a,a∈H'→a.ok st.mem):Rf B (fs.heap H') st:=
 ⟨r.env,⟨fun b k hb=>by rw [show fps (fs.heap H').H=fps fs.H from hf];exact r.hold.z b k hb,ho,fun b hb=>r.hold.lt b (hf ▸ hb),by rw [show fps (fs.heap H').H=fps fs.H from hf];exact r.hold.nd⟩,r.le,r.old,fun b hb=>r.own b (hf ▸ hb),r.zle,r.zin⟩
theorem fl_many0 (hw : FL call B l (fs.heap (many [] :: fs.H)) Q) : FL call B l fs Q := fun st r => hw st (r.sameH (by rw [fps_many]; rfl) fun a ha => by
  rcases List.mem_cons.1 ha with rfl | ha
  · exact fun a h=>by cases h
  · exact r.hold.h a ha)
theorem fl_mkm (hw:∀ b,FL call B l (fs.own d (.c (.mp b)) (.blk b (.mp [] 0))) Q):FL call B (⟨some d,none,.mkm⟩::l) fs Q:=fl_new (w:=fun b=>.c (.mp b)) (fun _=>rfl) (fun _=>rfl) (fun st r=>rfl) hw
theorem fl_mupd {str:Bool} {x k v:Od} {b n n':Nat} {key:Value} {u:AV} {es es':List (Value×AV×Nat)} {H':List HA} (hx:fs.ev x=.c (.mp b)) (hk:fs.ev k=.c (.v key)) (hv:fs.ev v=u) (hs:setM str key u n es=some (es',n')) (hr:Rep1 fs.H (.blk b (.mp es n)) (.blk b (.mp es' n')) H')
  (hw:FL call B l (fs.heap H') Q):FL call B (⟨none,none,.mupd str x k v⟩::l) fs Q:=fun st r=>by
 have hm:st.mem.get b=some (.mp es n):=r.hold.h _ hr.mem
 refine w_of (i_e0 (st':=st.setB b (.mp es' n')) (v:=.any) rfl rfl (by simp only [stepE,r.ev,hx,hk,hv,AV.val?,hm,hs])) ?_
 exact hw _ (r.rep hr (Nat.le_refl _) (by show (st.setB b _).mem.get b=_;rw [setB_mem,if_pos rfl]) (fun c hc=>.inl hc) (by simp [HA.fp]) (fun c _ hc=>by show (st.setB b _).mem.get c=_;rw [setB_mem,if_neg fun e=>hc (by simp [HA.fp,e])]))
end
open Go.RowKit
open Go.Eng (Od need need_pos need_some setL binV binBV setL_length)
theorem CL.m {α:Type} {size:Nat} {R:RT α} [RMono R] {z z':Mem} {cs:List C} {l:List α} (h:CL size R z cs l) [q:Zl z z']:CL size R z' cs l:=CL.mono h q.h
open Go.RowKit
open Go.Eng (Od need need_pos need_some setL binV binBV)
def Agr (call call':Call'):Prop:=∀ f args mem nx,Nat.blt f 1000000=true→call' f args mem nx=call f args mem nx
theorem Agr.trans {a b c:Call'} (h:Agr a b) (g:Agr b c):Agr a c:=fun f args mem nx h0=>(g f args mem nx h0).trans (h f args mem nx h0)
theorem agr_noY (call:Call'):Agr call (noY call):=fun f args mem nx h=>by simp only [noY,h]
theorem ble_yl {f b:Nat} (h:Nat.blt f 1000000=true):Nat.beq f (1000000+b)=false:=by
 cases h1:Nat.beq f (1000000+b) with
 | false=>rfl
 | true =>
  have:f<1000000:=Nat.le_of_ble_eq_true h
  have:=Nat.eq_of_beq_eq_true h1
  omega
theorem agr_callY (call:Call') (b:Nat) (ps:List Nat) (env:Tr AV) (r:AS→Option (Exit×AS)):Agr call (callY call b ps env r):=fun f args mem nx h=>by
 simp only [callY,ble_yl h]
theorem FCt.agr {call call':Call'} {f:Nat} {args:List AV} {z:Mem} {H:List HA} {P:AV→Mem→List HA→Prop} (hA:Agr call call') (h:FCt call f args z H P) (h0:Nat.blt f 1000000=true:=by rfl):FCt call' f args z H P:=fun mem nx hh=>by
 obtain ⟨v,mem',nx',z',H',h1,h2⟩:=h mem nx hh
 exact ⟨v,mem',nx',z',H',(hA f args mem nx h0).trans h1,h2⟩
theorem FC.agr {call call':Call'} {f:Nat} {args:List AV} {z:Mem} {P:AV→Mem→Prop} (hA:Agr call call') (h:FC call f args z P) (h0:Nat.blt f 1000000=true:=by rfl):FC call' f args z P:=FCt.agr hA h h0
noncomputable def bodyC (call:Call') (k:Nat) (c:XC):Call':=fun _ args mem nx=>match evX call k c ⟨envOf 0 .nil args,mem,nx⟩ with
 | some (.ret,s)=>some (.tup [],s.mem,s.nx)
 | some (.normal,s)=>some (.tup [],s.mem,s.nx)
 | _=>none
theorem body_fct {call:Call'} {k:Nat} {c:XC} {args:List AV} {z:Mem} {H:List HA} {Post:AV→Mem→List HA→Prop} (h:∀ B,FX call k B c ⟨argE args,z,H⟩ (RetQ [] Post)):FCt (bodyC call k c) 0 args z H Post:=fun mem nx hh=>by
 have r0:Rf ⟨mem,nx,z,fps H⟩ ⟨argE args,z,H⟩ ⟨envOf 0 .nil args,mem,nx⟩:=
  ⟨fun i=>argE_get args mem nx i,hh,Nat.le_refl _,fun b _ _=>rfl,fun b hb=>.inr hb,⟨fun _ _ h=>h⟩,fun b k hb=>.inl hb⟩
 have:=h _ _ r0
 simp only [bodyC]
 cases he:evX call k c ⟨envOf 0 .nil args,mem,nx⟩ with
 | none=>rw [he] at this;exact this.elim
 | some p =>
  obtain ⟨x,st⟩:=p
  rw [he] at this
  obtain ⟨fs,r,hx,vs,H',h1,h2,h3⟩:=this
  cases h1
  refine ⟨.tup [],st.mem,st.nx,fs.z,H',?_,r.le,r.old,r.hold.sub h2,r.zle,r.zin,fun b hb=>r.own b ((fps_sub h2).subset hb),h3⟩
  rcases hx with rfl | rfl<;>rfl
def ePs:Env→List Nat→List AV→Env
 | e,p::ps,v::vs=>ePs (eput e p v) ps vs
 | e,_,_=>e
theorem envPs_get:∀ (ps:List Nat) (vs:List AV) (env:Tr AV) (e:Env) (_:∀ mem nx i,(⟨env,mem,nx⟩:AS).get i=e i) (mem:Tr Blk) (nx i:Nat),(⟨envPs env ps vs,mem,nx⟩:AS).get i=ePs e ps vs i:=by
 intro ps
 induction ps with
 | nil=>intro vs env e he mem nx i;exact he mem nx i
 | cons p ps ih =>
  intro vs env e he mem nx i
  cases vs with
  | nil=>exact he mem nx i
  | cons v vs =>
   refine ih vs _ _ (fun mem nx i=>?_) mem nx i
   have hg:(⟨Tr.put (p+1) env p (some v),mem,nx⟩:AS).get i=if p=i then v else (⟨env,mem,nx⟩:AS).get i:=get_put ⟨env,mem,nx⟩ p i v
   rw [hg,eput_get,he]
def YPost (Post:Mem→List HA→Prop):AV→Mem→List HA→Prop:=fun v z H=>v=.c (.v (.bool true))∧Post z H
def RdQ (Post:Mem→List HA→Prop):Exit→Sf→Prop:=fun x fs=>x=.normal∧∃ H',H'.Sublist fs.H∧Post fs.z H'
theorem y_fct {call:Call'} {b k:Nat} {ps:List Nat} {env:Tr AV} {e:Env} {as_ bd:XC} {args:List AV} {z:Mem} {H:List HA} {Post:Mem→List HA→Prop} (he:∀ mem nx i,(⟨env,mem,nx⟩:AS).get i=e i) (hl:Nat.beq args.length ps.length=true)
  (h:∀ B,FX (noY call) k B (.seq as_ bd) ⟨ePs e ps args,z,H⟩ (RdQ Post)):FCt (callY (noY call) b ps env fun s=>seqE (evX (noY call) k as_ s) (evX (noY call) k bd)) (1000000+b) args z H (YPost Post):=fun mem nx hh=>by
 have r0:Rf ⟨mem,nx,z,fps H⟩ ⟨ePs e ps args,z,H⟩ ⟨envPs env ps args,mem,nx⟩:=
  ⟨fun i=>envPs_get ps args env e he mem nx i,hh,Nat.le_refl _,fun b _ _=>rfl,fun b hb=>.inr hb,⟨fun _ _ h=>h⟩,fun b k hb=>.inl hb⟩
 have:=h _ _ r0
 simp only [callY,Nat.beq_refl,hl]
 simp only [evX] at this
 cases he:evX (noY call) k as_ ⟨envPs env ps args,mem,nx⟩ with
 | none=>rw [he] at this;exact this.elim
 | some p =>
  obtain ⟨x,st⟩:=p
  rw [he] at this
  have hx:x=.normal:=by
   cases x with
   | normal=>rfl
   | _=>obtain ⟨_,_,h,_⟩:=this;exact h
  subst hx
  simp only at this
  simp only [seqE]
  cases he2:evX (noY call) k bd st with
  | none=>rw [he2] at this;exact this.elim
  | some p =>
   obtain ⟨x,s⟩:=p
   rw [he2] at this
   obtain ⟨fs,r,rfl,H',h2,h3⟩:=this
   exact ⟨_,s.mem,s.nx,fs.z,H',rfl,r.le,r.old,r.hold.sub h2,r.zle,r.zin,fun b hb=>r.own b ((fps_sub h2).subset hb),rfl,h3⟩
def Yld (call:Call') (k:Nat) (as_ bd:XC) (e:Env) (ps:List Nat) (call':Call') (b:Nat):Prop:=∀ (args:List AV) (z:Mem) (H:List HA) (Post:Mem→List HA→Prop),Nat.beq args.length ps.length=true →
 (∀ B,FX (noY call) k B (.seq as_ bd) ⟨ePs e ps args,z,H⟩ (RdQ Post))→FCt call' (1000000+b) args z H (YPost Post)
section
variable {call:Call'} {k:Nat} {B:Base} {fs:Sf} {Q:Exit→Sf→Prop} {l:List I} {QL:Sf→Prop} {d:Nat}
theorem Rf.nx1 {st:AS} (r:Rf B fs st):Rf B fs ⟨st.env,st.mem,st.nx+1⟩:=
 ⟨r.env,⟨fun b k hb=>⟨(r.hold.z b k hb).1,Nat.lt_succ_of_lt (r.hold.z b k hb).2.1,(r.hold.z b k hb).2.2⟩,r.hold.h,fun b hb=>Nat.lt_succ_of_lt (r.hold.lt b hb),r.hold.nd⟩,Nat.le_succ_of_le r.le,r.old,r.own,r.zle,r.zin⟩
theorem fx_range {g:Od} {ps:List Nat} {as_ bd c:XC} {h n:Nat} {us cs:List (Bool×List C)} {Hs Hr:List HA} {Post:Mem→List HA→Prop} (hg:fs.ev g=.c (.fn h us cs)) (hn:Nat.ble (us.length+(1+cs.length)) n=true) (e:fs.H=Hs++Hr)
    (hc:∀ call' b,Agr call call'→Yld call k as_ bd fs.e ps call' b→FCt (bodyC call' k c) 0 (AV.cs us++([.c (.yl b)]++AV.cs cs)) fs.z Hs fun _=>Post)
    (hw:∀ z' H',zle fs.z z'→Post z' H'→Q .normal ⟨fs.e,z',H'++Hr⟩):FX call k B (.range g ps as_ bd h n c) fs Q:=fun st r=>by
  have hA:Agr call (callY (noY call) st.nx ps st.env fun s=>seqE (evX (noY call) k as_ s) (evX (noY call) k bd)):=(agr_noY call).trans (agr_callY _ _ _ _ _)
  have hY : Yld call k as_ bd fs.e ps (callY (noY call) st.nx ps st.env fun s => seqE (evX (noY call) k as_ s) (evX (noY call) k bd)) st.nx := fun args z H Post hl hx => y_fct (fun mem nx i => by
    have:=r.env i
    simpa [AS.get] using this) hl hx
  have r1:=r.nx1
  have hh:=r1.hold
  rw [e] at hh
  obtain ⟨v,mem',nx',z',H',h1,h2,h3,h4,h5,h6,h7,h8⟩:=hc _ st.nx hA hY st.mem (st.nx+1) hh.left
  have r2:=r1.callR e h2 h3 h4 h5 h6 h7
  show Wx (evX call k (.range g ps as_ bd h n c) st) _
  simp only [bodyC] at h1
  simp only [evX,r.ev,hg,Nat.beq_refl,hn,Bool.and_true]
  cases he:evX (callY (noY call) st.nx ps st.env fun s=>seqE (evX (noY call) k as_ s) (evX (noY call) k bd)) k c ⟨envOf 0 .nil (AV.cs us++([.c (.yl st.nx)]++AV.cs cs)),st.mem,st.nx+1⟩ with
  | none=>rw [he] at h1;cases h1
  | some p =>
    obtain ⟨x,s⟩:=p
    rw [he] at h1
    cases x with
    | normal=>cases h1;exact ⟨_,r2,hw _ _ h5 h8⟩
    | ret=>cases h1;exact ⟨_,r2,hw _ _ h5 h8⟩
    | _=>cases h1
end
section
variable {call:Call'} {B:Base} {an:List Nat} {j:Nat} {l:List CE.D} {D:DS} {Q:Sf→Prop}
theorem fx_drawZ {k:Nat} {fs:Sf} {ds:List CE.D} {Q:Exit→Sf→Prop} (h:FG call B an 0 ds fs fs.z 0 0 [] [] (Q .normal)):FX call k B (.draw ds an) fs Q:=fun st r=>by
  refine wx_draw ?_
  refine h _ ⟨r,⟨_,_,rfl⟩,fun p hp b kk hb=>?_,fun b kk hb=>?_,fun p hp=>by simp at hp,fun p hp=>by simp at hp,rfl,rfl,fun p hp=>by simp at hp⟩
  · have : p = (0, st.mem) := by simpa using hp
    subst this
    exact (r.hold.z b kk hb).1
  · exact (r.hold.z b kk hb).2.1
theorem fx_drawZS {k:Nat} {fs:Sf} {ds:List CE.D} {c:XC} {Q:Exit→Sf→Prop} (h:FG call B an 0 ds fs fs.z 0 0 [] [] (fun fs'=>FX call k B c fs' Q)):FX call k B (.seq (.draw ds an) c) fs Q:=fx_seq (fx_drawZ h)
theorem fd_yld {i:I} {d b:Nat} {t:Od} {args:List Od} {vs:List AV} {af:List Nat} {Hs Hr:List HA} {Post:Mem→List HA→Prop} (hi:i.o=.callv t args) (hd:i.d=some d) (hg:GK D.fs i) (hbits:Nat.beq (an.getD j 0 ||| D.last) (an.getD j 0)=true) (hpj:(D.pj.all fun q=>(an.getD j 0).testBit q)=true)
    (ht:D.fs.ev t=.c (.yl b)) (ha:args.map D.fs.ev=vs) (hzT:∀ b k,D.T b k→D.fs.z b k) (e:D.fs.H=Hs++Hr) (hc:FCt call (1000000+b) vs D.fs.z Hs (YPost Post)) (hw:∀ z' H',zle D.fs.z z'→Post z' H'→FD call B an (j+1) l ⟨⟨eput D.fs.e d (.c (.v (.bool true))),z',H'++Hr⟩,D.T,j+1,an.getD j 0 ||| (1 <<< j),[],D.lj⟩ Q):FD call B an j (⟨i,af⟩::l) D Q:=fun a r=>by
  have hgo:=gk_ok (d:=⟨i,af⟩) r.rf hg
  obtain ⟨m,ml,hm⟩:=r.hd
  have hhd:=r.seqget hm
  have hold:=r.rf.hold
  simp only [Acc.seq,hhd] at hold
  have hold':=hold
  rw [e] at hold'
  obtain ⟨v,mem',nx',z',H',h1,h2,h3,h4,h5,h6,h7,rfl,h9⟩:=hc (ovl m a.pend) a.nx hold'.left
  have hev:∀ m n,args.map (⟨restr a.env (CE.D.sl ⟨i,af⟩),m,n⟩:AS).ev=vs:=fun m n=>by
    rw [← ha]
    refine List.map_congr_left fun x hx=>?_
    rw [ev_sub (m':=a.seq.mem) (n':=a.seq.nx) fun q hq=>sl_sub (d:=⟨i,af⟩) (by rw [hi];simp only [Ins.sl,Od.sls,List.mem_append,List.mem_flatMap];exact .inr ⟨x,hx,hq⟩)]
    exact r.rf.ev x
  have htv:∀ m n,(⟨restr a.env (CE.D.sl ⟨i,af⟩),m,n⟩:AS).ev t=.c (.yl b):=fun m n=>by
    rw [← ht,ev_sub (m':=a.seq.mem) (n':=a.seq.nx) fun q hq=>sl_sub (d:=⟨i,af⟩) (by rw [hi];simp only [Ins.sl,Od.sls,List.mem_append];exact .inl hq)]
    exact r.rf.ev t
  have hp:=pend_all (bits:=an.getD j 0) (l:=a.pend) (by rw [r.pj];exact hpj)
  have hT:∀ b k,D.T b k→mem'.get b=some k:=fun b k hb=>by
    rw [h3 b (r.tlt b k hb) (fun hb2=>(hold.z b k (hzT b k hb)).2.2 (by rw [e,fps_app];exact List.mem_append_left _ hb2))]
    exact ovl_keep (fun p hp' e=>r.np p hp' k (e ▸ hb)) (r.t0 (D.tag,m) (by rw [hm];exact List.mem_cons_self ..) b k hb)
  obtain ⟨fl',hf1,hf2⟩:=flOk_some (bits:=an.getD j 0) (m:=mem') (l:=a.fl) fun p hp=>(r.fl p hp).2 mem' hT
  refine wd_go (a':=⟨putE a.env i.d (.c (.v (.bool true))),nx',(j+1,mem')::a.mems,a.pend.filter (fun p=>!(an.getD j 0).testBit p.1),fl',(an.getD j 0) ||| (1 <<< j)⟩) ?_ ?_
  · simp only [dStep]
    rw [show gOk i ⟨restr a.env (CE.D.sl ⟨i,af⟩),.nil,a.nx⟩=some true from hgo]
    simp only [hi,stepQ,isLoad,stepE,hm,hp.1,evV,callee,htv,hev,h1,r.last,hbits,hf1]
  · rw [hd,hp.2]
    refine hw z' H' h5 h9 _ ⟨?_,⟨mem',a.mems,rfl⟩,fun p hp' b k hb=>?_,fun b k hb=>Nat.lt_of_lt_of_le (r.tlt b k hb) h2,fun p hp=>by simp at hp,fun p hp=>r.fl p (hf2 p hp),rfl,rfl,fun p hp=>by simp at hp⟩
    · have := r.rf.callR (Hs := Hs) (Hr := Hr) e (mem' := mem') (nx' := nx') (z' := z') (H' := H') h2 (fun b hb hb2 => by
        rw [h3 b hb hb2];simp only [Acc.seq,hhd]) h4 h5 h6 h7
      exact this.put d _
    · rcases List.mem_cons.1 hp' with rfl | hp'
      · exact hT b k hb
      · exact r.t0 p hp' b k hb
end
theorem evF_cs {P:Program} (hm:P.follows .mixedOrders=true) {T:Tr FE} (hT:TblOk P T) (hR:RgOk P T) (hz:P.funcs.size≤1000000) {hand:Call'} (hh:CallSnd P hand) (k0 k:Nat):CallSnd P (evF T hand k0 k):=fun f args mem nx res mem' nx' h=>by
 cases h0:Nat.blt f 1000000 with
 | true=>exact evF_sound hm hT hR hz hh k0 k h0 h
 | false =>
  have h1:¬ f<1000000:=fun h1=>by
   rw [show Nat.blt f 1000000=true from Nat.ble_eq_true_of_le h1] at h0;cases h0
  obtain ⟨b,rfl⟩:∃ b,f=1000000+b:=⟨f - 1000000,by omega⟩
  obtain ⟨y,hy,_⟩:=(evF_sndA hm hT hR hz hh k0 k).y _ _ _ _ _ _ _ h
  cases hy
open Go.RowKit
open Go.Eng (Od need need_pos need_some setL binV binBV)
def RC {α:Type} (size:Nat) (R:RT α):RT (List α):=fun z cs l=>∃ c,cs=[c]∧CZ size R z c l
instance {α:Type} {size:Nat} {R:RT α} [RMono R]:RMono (RC size R):=⟨fun hz ⟨c,h,g⟩=>⟨c,h,g.mono hz⟩⟩
section
variable {call:Call'} {k:Nat} {c:XC} {B:Base} {fs:Sf} {l:List I} {Q:Sf→Prop} {QX:Exit→Sf→Prop} {a:HA} {L L1 L2 p q:List HA}
theorem Rf.reH {st:AS} (r:Rf B fs st) {H':List HA} (hf:(fps H').Perm (fps fs.H)) (ho:∀ a,a∈H'→a.ok st.mem):Rf B (fs.heap H') st:=
 ⟨r.env,⟨fun b k hb=>⟨(r.hold.z b k hb).1,(r.hold.z b k hb).2.1,fun h=>(r.hold.z b k hb).2.2 (hf.mem_iff.1 h)⟩,ho,fun b hb=>r.hold.lt b (hf.mem_iff.1 hb),hf.symm.nodup r.hold.nd⟩,r.le,r.old,fun b hb=>r.own b (hf.mem_iff.1 hb),r.zle,r.zin⟩
theorem many_fp (L:List HA):(many L).fp=fps L:=rfl
theorem many_ok {m:Tr Blk}:(many L).ok m↔∀ a,a∈L→a.ok m:=Iff.rfl
theorem Rf.into {st:AS} (r:Rf B fs st) (e:fs.H=a::(p++many L::q)):Rf B (fs.heap (p++many (L++[a])::q)) st:=by
 refine r.reH ?_ fun x hx=>?_
 ·rw [e]
  refine List.perm_iff_count.2 fun b=>?_
  simp only [fps_app,fps_cons,many_fp,List.count_append,show fps []=[] from rfl,List.count_nil]
  omega
 have h:=r.hold.h
 rw [e] at h
 rcases List.mem_append.1 hx with hx | hx
 ·exact h x (by simp [hx])
 rcases List.mem_cons.1 hx with rfl | hx
 ·refine many_ok.2 fun y hy=>?_
  rcases List.mem_append.1 hy with hy | hy
  ·exact many_ok.1 (h (many L) (by simp)) y hy
  simp at hy;subst hy;exact h y (by simp)
 exact h x (by simp [hx])
theorem Rf.take {st:AS} (r:Rf B fs st) (e:fs.H=p++many (L1++a::L2)::q):Rf B (fs.heap (a::(p++many (L1++L2)::q))) st:=by
 refine r.reH ?_ fun x hx=>?_
 ·rw [e]
  refine List.perm_iff_count.2 fun b=>?_
  simp only [fps_app,fps_cons,many_fp,List.count_append,show fps []=[] from rfl,List.count_nil]
  omega
 have h:=r.hold.h
 rw [e] at h
 have h1:=many_ok.1 (h (many (L1++a::L2)) (by simp))
 rcases List.mem_cons.1 hx with rfl | hx
 ·exact h1 x (by simp)
 rcases List.mem_append.1 hx with hx | hx
 ·exact h x (by simp [hx])
 rcases List.mem_cons.1 hx with rfl | hx
 ·exact many_ok.2 fun y hy=>h1 y (by rcases List.mem_append.1 hy with hy | hy<;>simp [hy])
 exact h x (by simp [hx])
theorem Rf.lay {st:AS} (r:Rf B fs st) (e:fs.H=a::(p++many (L1++L2)::q)):Rf B (fs.heap (p++many (L1++a::L2)::q)) st:=by
 refine r.reH ?_ fun x hx=>?_
 ·rw [e]
  refine List.perm_iff_count.2 fun b=>?_
  simp only [fps_app,fps_cons,many_fp,List.count_append,show fps []=[] from rfl,List.count_nil]
  omega
 have h:=r.hold.h
 rw [e] at h
 have h1:=many_ok.1 (h (many (L1++L2)) (by simp))
 rcases List.mem_append.1 hx with hx | hx
 ·exact h x (by simp [hx])
 rcases List.mem_cons.1 hx with rfl | hx
 ·refine many_ok.2 fun y hy=>?_
  rcases List.mem_append.1 hy with hy | hy
  ·exact h1 y (by simp [hy])
  rcases List.mem_cons.1 hy with rfl | hy
  ·exact h y (by simp)
  exact h1 y (by simp [hy])
 exact h x (by simp [hx])
theorem fl_into (e:fs.H=a::(p++many L::q)) (hw:FL call B l (fs.heap (p++many (L++[a])::q)) Q):FL call B l fs Q:=fun st r=>hw st (r.into e)
theorem fl_take (e:fs.H=p++many (L1++a::L2)::q) (hw:FL call B l (fs.heap (a::(p++many (L1++L2)::q))) Q):FL call B l fs Q:=fun st r=>hw st (r.take e)
theorem fl_lay (e:fs.H=a::(p++many (L1++L2)::q)) (hw:FL call B l (fs.heap (p++many (L1++a::L2)::q)) Q):FL call B l fs Q:=fun st r=>hw st (r.lay e)
theorem fx_take (e:fs.H=p++many (L1++a::L2)::q) (hw:FX call k B c (fs.heap (a::(p++many (L1++L2)::q))) QX):FX call k B c fs QX:=fun st r=>hw st (r.take e)
theorem fx_no (e:fs.H=p++many []::q) (hw:FX call k B c (fs.heap (p++q)) QX):FX call k B c fs QX:=fun st r=>hw st (r.reH (by rw [e,fps_app,fps_app,fps_cons];exact List.Perm.refl _) fun x hx=>r.hold.h x (by rw [e];rcases List.mem_append.1 hx with hx | hx<;>simp [hx]))
end
theorem Hold.reH {z:Mem} {H H':List HA} {m:Tr Blk} {nx:Nat} (h:Hold z H m nx) (hf:(fps H').Perm (fps H)) (ho:∀ a,a∈H'→a.ok m):Hold z H' m nx:=
 ⟨fun b k hb=>⟨(h.z b k hb).1,(h.z b k hb).2.1,fun hh=>(h.z b k hb).2.2 (hf.mem_iff.1 hh)⟩,ho,fun b hb=>h.lt b (hf.mem_iff.1 hb),hf.symm.nodup h.nd⟩
theorem FCt.keep {call:Call'} {f:Nat} {args:List AV} {z:Mem} {Hs:List HA} {Post:AV→Mem→List HA→Prop} (h:FCt call f args z Hs Post) (Hr:List HA):FCt call f args z (Hs++Hr) fun v z' H'=>∃ H1,H'=H1++Hr∧Post v z' H1:=fun mem nx hh=>by
 obtain ⟨v,mem',nx',z',H',h1,h2,h3,h4,h5,h6,h7,hp⟩:=h mem nx hh.left
 have r0:Rf ⟨mem,nx,z,fps (Hs++Hr)⟩ ⟨fun _=>.any,z,Hs++Hr⟩ ⟨.nil,mem,nx⟩:=⟨fun i=>by simp [AS.get,Tr.get_nil],hh,Nat.le_refl _,fun b _ _=>rfl,fun b hb=>.inr hb,⟨fun _ _ h=>h⟩,fun b k hb=>.inl hb⟩
 have r1:=r0.callR (Hs:=Hs) (Hr:=Hr) rfl h2 h3 h4 h5 h6 h7
 exact ⟨v,mem',nx',z',H'++Hr,h1,h2,fun b hb hn=>r1.old b hb hn,r1.hold,h5,r1.zin,r1.own,H',rfl,hp⟩
abbrev Ro (α:Type):=C×List C×List α
def rowT {α:Type} (ty size:Nat) (d:Ro α):HA:=.row (.c d.1) ty size d.2.2.length d.2.1
section
variable {α:Type} {size:Nat} {R:RT α} [RMono R] {call:Call'} {k:Nat} {c:XC} {B:Base} {QX:Exit→Sf→Prop}
theorem fx_frzM {ty:Nat} {z0:Mem} {p q:List HA}:∀ (D:List (Ro α)) (fs:Sf),fs.H=p++many (D.map (rowT ty size))::q→zle z0 fs.z→(∀ d,d∈D→CL size R (zd z0 fs.z) d.2.1 d.2.2∧d.2.2.length≤9223372036854775807) →
  (∀ z',zle fs.z z'→(∀ d,d∈D→CZ size R (zd z0 z') d.1 d.2.2)→FX call k B c ⟨fs.e,z',p++q⟩ QX)→FX call k B c fs QX:=by
 intro D
 induction D with
 | nil=>intro fs e hz hD hw;exact fx_no e (hw fs.z (zle.refl _) fun d hd=>absurd hd List.not_mem_nil)
 | cons d D ih =>
  intro fs e hz hD hw
  refine fx_take (L1:=[]) (a:=rowT ty size d) (L2:=D.map (rowT ty size)) e ?_
  have hd:=hD d (List.mem_cons_self ..)
  refine fx_frzN (z0:=z0) (p:=[]) (q:=p++many (D.map (rowT ty size))::q) rfl hz hd.1 rfl hd.2 fun z' hz' hs=>?_
  refine ih ⟨fs.e,z',p++many (D.map (rowT ty size))::q⟩ rfl (hz.trans hz') (fun x hx=>⟨(hD x (List.mem_cons_of_mem _ hx)).1.mono (zd_mono hz'),(hD x (List.mem_cons_of_mem _ hx)).2⟩) fun z2 hz2 hs2=>?_
  refine hw z2 (hz'.trans hz2) fun x hx=>?_
  rcases List.mem_cons.1 hx with rfl | hx
  ·exact SZ.mono hs (zd_mono hz2)
  exact hs2 x hx
theorem cl_rows {z:Mem} {D:List (Ro α)} (h:∀ d,d∈D→CZ size R z d.1 d.2.2):CL 1 (RC size R) z (D.map (·.1)) (D.map (·.2.2)):=by
 induction D with
 | nil=>exact CL.nil
 | cons d D ih=>exact CL.append (cs:=[d.1]) (l:=[d.2.2]) (CL.one rfl ⟨_,rfl,h d (List.mem_cons_self ..)⟩) (ih fun x hx=>h x (List.mem_cons_of_mem _ hx))
theorem fx_frzT {ty ty2:Nat} {z0:Mem} {u:AV} {p q:List HA} {fs:Sf} {D:List (Ro α)} (e:fs.H=p++.row u ty 1 D.length (D.map (·.1))::many (D.map (rowT ty2 size))::q) (hz:zle z0 fs.z) (hD:∀ d,d∈D→CL size R (zd z0 fs.z) d.2.1 d.2.2∧d.2.2.length≤9223372036854775807) (hn:D.length≤9223372036854775807)
  (hw:∀ z',zle fs.z z'→SZ 1 (RC size R) (zd z0 z') u (D.map (·.2.2))→FX call k B c ⟨fs.e,z',p++q⟩ QX):FX call k B c fs QX:=by
 refine fx_frzM (ty:=ty2) (size:=size) (p:=p++[.row u ty 1 D.length (D.map (·.1))]) (q:=q) D fs (by rw [e,List.append_assoc];rfl) hz hD fun z' hz' hs=>?_
 refine fx_frzN (z0:=z0) (p:=p) (q:=q) (ty:=ty) (n:=D.length) (cs:=D.map (·.1)) (u:=u) (r:=D.map (·.2.2)) (fs:=⟨fs.e,z',(p++[.row u ty 1 D.length (D.map (·.1))])++q⟩) (by show _=_;rw [List.append_assoc];rfl) (hz.trans hz') (cl_rows hs) (by simp) hn fun z2 hz2 hs2=>?_
 exact hw z2 (hz'.trans hz2) hs2
end
open Go.RowKit
open Go.Eng (Od need need_pos need_some setL binV binBV)
section
variable {call:Call'} {B:Base} {an:List Nat} {j:Nat} {l:List CE.D} {D:DS} {Q:Sf→Prop}
theorem fd_callL {i:I} {d f:Nat} {args:List Od} {vs:List AV} {af:List Nat} {Hs Hr:List HA} {Post:AV→Mem→List HA→Prop} (hi:i.o=.call f args) (hd:i.d=some d) (hg:GK D.fs i) (hbits:Nat.beq (an.getD j 0 ||| D.last) (an.getD j 0)=true) (hpj:(D.pj.all fun q=>(an.getD j 0).testBit q)=true)
    (ha:args.map D.fs.ev=vs) (hTn:∀ b,b∈fps Hs→∀ k,¬ D.T b k) (e:D.fs.H=Hs++Hr) (hc:FCt call f vs D.fs.z Hs Post) (hw:∀ v z' H',zle D.fs.z z'→Post v z' H'→FD call B an (j+1) l ⟨⟨eput D.fs.e d v,z',H'++Hr⟩,D.T,j+1,an.getD j 0 ||| (1 <<< j),[],D.lj⟩ Q):FD call B an j (⟨i,af⟩::l) D Q:=fun a r=>by
  have hgo:=gk_ok (d:=⟨i,af⟩) r.rf hg
  obtain ⟨m,ml,hm⟩:=r.hd
  have hhd:=r.seqget hm
  have hold:=r.rf.hold
  simp only [Acc.seq,hhd] at hold
  have hold':=hold
  rw [e] at hold'
  obtain ⟨v,mem',nx',z',H',h1,h2,h3,h4,h5,h6,h7,h9⟩:=hc (ovl m a.pend) a.nx hold'.left
  have hev:∀ m n,args.map (⟨restr a.env (CE.D.sl ⟨i,af⟩),m,n⟩:AS).ev=vs:=fun m n=>by
    rw [← ha]
    refine List.map_congr_left fun x hx=>?_
    rw [ev_sub (m':=a.seq.mem) (n':=a.seq.nx) fun q hq=>sl_sub (d:=⟨i,af⟩) (by rw [hi];simp only [Ins.sl,Od.sls,List.mem_flatMap];exact ⟨x,hx,hq⟩)]
    exact r.rf.ev x
  have hp:=pend_all (bits:=an.getD j 0) (l:=a.pend) (by rw [r.pj];exact hpj)
  have hT:∀ b k,D.T b k→mem'.get b=some k:=fun b k hb=>by
    rw [h3 b (r.tlt b k hb) (fun hb2=>hTn b hb2 k hb)]
    exact ovl_keep (fun p hp' e=>r.np p hp' k (e ▸ hb)) (r.t0 (D.tag,m) (by rw [hm];exact List.mem_cons_self ..) b k hb)
  obtain ⟨fl',hf1,hf2⟩:=flOk_some (bits:=an.getD j 0) (m:=mem') (l:=a.fl) fun p hp=>(r.fl p hp).2 mem' hT
  refine wd_go (a':=⟨putE a.env i.d v,nx',(j+1,mem')::a.mems,a.pend.filter (fun p=>!(an.getD j 0).testBit p.1),fl',(an.getD j 0) ||| (1 <<< j)⟩) ?_ ?_
  · simp only [dStep]
    rw [show gOk i ⟨restr a.env (CE.D.sl ⟨i,af⟩),.nil,a.nx⟩=some true from hgo]
    simp only [hi,stepQ,isLoad,stepE,hm,hp.1,evV,callee,hev,h1,r.last,hbits,hf1]
  · rw [hd,hp.2]
    refine hw v z' H' h5 h9 _ ⟨?_,⟨mem',a.mems,rfl⟩,fun p hp' b k hb=>?_,fun b k hb=>Nat.lt_of_lt_of_le (r.tlt b k hb) h2,fun p hp=>by simp at hp,fun p hp=>r.fl p (hf2 p hp),rfl,rfl,fun p hp=>by simp at hp⟩
    · have := r.rf.callR (Hs := Hs) (Hr := Hr) e (mem' := mem') (nx' := nx') (z' := z') (H' := H') h2 (fun b hb hb2 => by
        rw [h3 b hb hb2];simp only [Acc.seq,hhd]) h4 h5 h6 h7
      exact this.put d v
    · rcases List.mem_cons.1 hp' with rfl | hp'
      · exact hT b k hb
      · exact r.t0 p hp' b k hb
end
theorem fg_callLZ {call:Call'} {B:Base} {an:List Nat} {j:Nat} {l:List CE.D} {fs:Sf} {T:Mem} {tag last:Nat} {pj lj:List Nat} {Q:Sf→Prop} (z0:Mem) {i:I} {d f:Nat} {args:List Od} {vs:List AV} {af:List Nat} {Hs Hr:List HA} {Post:AV→Mem→List HA→Prop} (hc:FCt call f vs z0 Hs Post) (hi:i.o=.call f args) (hd:i.d=some d) (hg:GK fs i) (hbits:Nat.beq (an.getD j 0 ||| last) (an.getD j 0)=true) (hpj:(pj.all fun q=>(an.getD j 0).testBit q)=true)
  (ha:args.map fs.ev=vs) (hz0:fs.z=z0) (hTn:∀ b,b∈fps Hs→∀ k,¬ T b k) (e:fs.H=Hs++Hr) (hw:∀ v z' H',zle z0 z'→Post v z' H'→FG call B an (j+1) l (fs.res d v z' (H'++Hr)) T (j+1) (an.getD j 0 ||| (1 <<< j)) [] lj Q):FG call B an j (⟨i,af⟩::l) fs T tag last pj lj Q:=by
 subst hz0
 exact fd_callL (D:=⟨fs,T,tag,last,pj,lj⟩) hi hd hg hbits hpj ha hTn e hc hw
theorem fl_lookOk {call:Call'} {B:Base} {fs:Sf} {l:List I} {Q:Sf→Prop} {d:Nat} {str agg:Bool} {zero:List Value} {x k:Od} {b n:Nat} {key:Value} {es:List (Value×AV×Nat)} {r:Option AV} {v:AV} (hx:fs.ev x=.c (.mp b)) (hk:fs.ev k=.c (.v key)) (hm:fs.z b (.mp es n)) (hf:findV str key es=some r) (hv:r.getD (mkAV agg (zero.map fun v=>.v v))=v)
    (hw:FL call B l (fs.put d (.tup [v,.c (.v (.bool r.isSome))])) Q):FL call B (⟨some d,none,.look str zero agg x k true⟩::l) fs Q:=fun st rf =>
  w_of (i_e (st' := st) (v := .tup [v, .c (.v (.bool r.isSome))]) rfl rfl (by
    simp only [stepE,lookS,rf.ev,hk,hx,AV.val?,AS.ment,(rf.hold.z _ _ hm).1,hf]
    subst hv
    cases r<;>rfl)) (hw _ (rf.put _ _))
end Go.CE
