/- Maps; many rows of one's own; ranges over functions and over maps, states as functions. -/
import Derived.WalkKit
import Derived.Orders
import Derived.Test.YtlceligcgelbdaaGreatJA5
set_option linter.unusedVariables false
set_option linter.unusedSimpArgs false
set_option linter.unusedSectionVars false
namespace Go.CE
open Go.RowKit
open Go.Eng (Od need need_pos need_some setL binV binBV)
def many (L:List HA):HA:=.gen (fps L) (fun m=>∀ a,a∈L→a.ok m) fun m m' hm h a ha=>HA.ok_of (h a ha) fun b hb=>hm b (mem_fps.2 ⟨a,ha,hb⟩)
theorem fps_many {L H:List HA}:fps (many L::H)=fps (L++H):=by rw [fps_cons,fps_app];rfl
section
variable {call:Call'} {B:Base} {fs:Sf} {l:List I} {Q:Sf→Prop} {d:Nat}
theorem Rf.sameH {st:AS} (r:Rf B fs st) {H':List HA} (hf:fps H'=fps fs.H) (ho:∀ a,a∈H'→a.ok st.mem):Rf B (fs.heap H') st:=
 ⟨r.env,⟨fun b k hb=>by rw [show fps (fs.heap H').H=fps fs.H from hf];exact r.hold.z b k hb,ho,fun b hb=>r.hold.lt b (hf ▸ hb),by rw [show fps (fs.heap H').H=fps fs.H from hf];exact r.hold.nd⟩,r.le,r.old,fun b hb=>r.own b (hf ▸ hb),r.zle,r.zin⟩
theorem Rf.open {st:AS} {L p q:List HA} (r:Rf B fs st) (e:fs.H=p++many L::q):Rf B (fs.heap (p++(L++q))) st:=
 r.sameH (by rw [e];simp only [fps_app,fps_cons,many,HA.fp]) fun a ha=>by
  have hk:∀ a,a∈fs.H→a.ok st.mem:=r.hold.h
  rw [e] at hk
  rcases List.mem_append.1 ha with h | h
  ·exact hk a (by simp [h])
  rcases List.mem_append.1 h with h | h
  ·exact hk (many L) (by simp) a h
  exact hk a (by simp [h])
theorem Rf.close {st:AS} {L p q:List HA} (r:Rf B fs st) (e:fs.H=p++(L++q)):Rf B (fs.heap (p++many L::q)) st:=
 r.sameH (by rw [e];simp only [fps_app,fps_cons,many,HA.fp]) fun a ha=>by
  have hk:∀ a,a∈fs.H→a.ok st.mem:=r.hold.h
  rw [e] at hk
  rcases List.mem_append.1 ha with h | h
  ·exact hk a (by simp [h])
  rcases List.mem_cons.1 h with rfl | h
  ·exact fun a h=>hk a (by simp [h])
  exact hk a (by simp [h])
theorem fl_open {L p q:List HA} (e:fs.H=p++many L::q) (hw:FL call B l (fs.heap (p++(L++q))) Q):FL call B l fs Q:=fun st r=>hw st (r.open e)
theorem fl_close {L p q:List HA} (e:fs.H=p++(L++q)) (hw:FL call B l (fs.heap (p++many L::q)) Q):FL call B l fs Q:=fun st r=>hw st (r.close e)
theorem fl_many0 (hw : FL call B l (fs.heap (many [] :: fs.H)) Q) : FL call B l fs Q := fun st r => hw st (r.sameH (by rw [fps_many]; rfl) fun a ha => by
  rcases List.mem_cons.1 ha with rfl | ha
  · exact fun a h=>by cases h
  · exact r.hold.h a ha)
theorem fl_addM {L p q : List HA} (ty size : Nat) (e : fs.H = p ++ many L :: q) (hw : FL call B l (fs.heap (p ++ many (L ++ [.row nilv ty size 0 []]) :: q)) Q) : FL call B l fs Q := fun st r => hw st (r.sameH (by
    rw [e]
    simp only [fps_app,fps_cons,many,HA.fp]
    show fps p++((fps L++[])++fps q)=_
    rw [List.append_nil]) fun a ha=>by
  have hk:∀ a,a∈fs.H→a.ok st.mem:=r.hold.h
  rw [e] at hk
  rcases List.mem_append.1 ha with h | h
  · exact hk a (by simp [h])
  · rcases List.mem_cons.1 h with rfl | h
    · intro a h
      rcases List.mem_append.1 h with h | h
      · exact hk (many L) (by simp) a h
      · rcases List.mem_singleton.1 h with rfl
        exact ⟨by simp,.inl ⟨rfl,rfl⟩⟩
    · exact hk a (by simp [h]))
theorem fl_mkm (hw:∀ b,FL call B l (fs.own d (.c (.mp b)) (.blk b (.mp [] 0))) Q):FL call B (⟨some d,none,.mkm⟩::l) fs Q:=fl_new (w:=fun b=>.c (.mp b)) (fun _=>rfl) (fun _=>rfl) (fun st r=>rfl) hw
theorem fl_mupd {str:Bool} {x k v:Od} {b n n':Nat} {key:Value} {u:AV} {es es':List (Value×AV×Nat)} {H':List HA} (hx:fs.ev x=.c (.mp b)) (hk:fs.ev k=.c (.v key)) (hv:fs.ev v=u) (hs:setM str key u n es=some (es',n')) (hr:Rep1 fs.H (.blk b (.mp es n)) (.blk b (.mp es' n')) H')
  (hw:FL call B l (fs.heap H') Q):FL call B (⟨none,none,.mupd str x k v⟩::l) fs Q:=fun st r=>by
 have hm:st.mem.get b=some (.mp es n):=r.hold.h _ hr.mem
 refine w_of (i_e0 (st':=st.setB b (.mp es' n')) (v:=.any) rfl rfl (by simp only [stepE,r.ev,hx,hk,hv,AV.val?,hm,hs])) ?_
 exact hw _ (r.rep hr (Nat.le_refl _) (by show (st.setB b _).mem.get b=_;rw [setB_mem,if_pos rfl]) (fun c hc=>.inl hc) (by simp [HA.fp]) (fun c _ hc=>by show (st.setB b _).mem.get c=_;rw [setB_mem,if_neg fun e=>hc (by simp [HA.fp,e])]))
theorem look_ev {str agg:Bool} {zero:List Value} {x k:Od} {b n:Nat} {key:Value} {es:List (Value×AV×Nat)} {r:Option AV} {v:AV} {st:AS} (hx:st.ev x=.c (.mp b)) (hk:st.ev k=.c (.v key)) (hm:st.mem.get b=some (.mp es n)) (hf:findV str key es=some r) (hv:r.getD (mkAV agg (zero.map fun v=>.v v))=v):stepE (.look str zero agg x k false) st=some (st,v):=by
 simp only [stepE,lookS,hk,hx,AV.val?,AS.ment,hm,hf]
 subst hv
 cases r<;>rfl
theorem fl_look {str agg:Bool} {zero:List Value} {x k:Od} {b n:Nat} {key:Value} {es:List (Value×AV×Nat)} {r:Option AV} {v:AV} (hx:fs.ev x=.c (.mp b)) (hk:fs.ev k=.c (.v key)) (hm:HA.blk b (.mp es n)∈fs.H) (hf:findV str key es=some r) (hv:r.getD (mkAV agg (zero.map fun v=>.v v))=v)
  (hw:FL call B l (fs.put d v) Q):FL call B (⟨some d,none,.look str zero agg x k false⟩::l) fs Q:=fun st rf =>
 w_of (i_e (st':=st) (v:=v) rfl rfl (look_ev ((rf.ev x).trans hx) ((rf.ev k).trans hk) (rf.hold.h _ hm) hf hv)) (hw _ (rf.put _ _))
theorem fl_lookZ {str agg:Bool} {zero:List Value} {x k:Od} {b n:Nat} {key:Value} {es:List (Value×AV×Nat)} {r:Option AV} {v:AV} (hx:fs.ev x=.c (.mp b)) (hk:fs.ev k=.c (.v key)) (hm:fs.z b (.mp es n)) (hf:findV str key es=some r) (hv:r.getD (mkAV agg (zero.map fun v=>.v v))=v)
  (hw:FL call B l (fs.put d v) Q):FL call B (⟨some d,none,.look str zero agg x k false⟩::l) fs Q:=fun st rf =>
 w_of (i_e (st':=st) (v:=v) rfl rfl (look_ev ((rf.ev x).trans hx) ((rf.ev k).trans hk) (rf.hold.z _ _ hm).1 hf hv)) (hw _ (rf.put _ _))
theorem Rf.repM {st:AS} (h:Rf B fs st) {a a':HA} {p q H':List HA} {m':Tr Blk} {nx':Nat} (hr:Rep1 fs.H (many (p++a::q)) (many (p++a'::q)) H') (hn:st.nx≤nx') (ha:a'.ok m') (hf:∀ b,b∈a'.fp→b∈a.fp∨(st.nx≤b∧b<nx')) (hnd:a'.fp.Nodup)
  (hm:∀ b,b<st.nx→b ∉ a.fp→m'.get b=st.mem.get b):Rf B ⟨fs.e,fs.z,H'⟩ ⟨st.env,m',nx'⟩:=by
 have hok:=h.hold.h _ hr.mem
 have hlt:∀ b,b∈fps (p++a::q)→b<st.nx:=fun b hb=>h.hold.lt b (mem_fps.2 ⟨_,hr.mem,hb⟩)
 have hnd0:(fps (p++a::q)).Nodup:=by
  obtain ⟨p1,q1,e1,_⟩:=hr.split
  have:=h.hold.nd
  rw [e1,fps_app,fps_many,fps_app] at this
  exact (List.nodup_append.1 (List.nodup_append.1 this).2.1).1
 rw [fps_app,fps_cons] at hnd0
 obtain ⟨n1,n2,n3⟩:=List.nodup_append.1 hnd0
 obtain ⟨n4,n5,n6⟩:=List.nodup_append.1 n2
 have hin:∀ b,b∈fps p∨b∈fps q→b ∉ a.fp∧b<st.nx:=by
  intro b hb
  refine ⟨fun hba=>?_,hlt b (by rw [fps_app,fps_cons];simp;rcases hb with hb | hb<;>simp [hb])⟩
  rcases hb with hb | hb
  ·exact n3 b hb b (by simp [hba]) rfl
  exact n6 b hba b hb rfl
 refine h.rep hr hn (fun x hx=>?_) (fun b hb=>?_) ?_ (fun b hb hba=>hm b hb fun h2=>hba ?_)
 ·have hk:∀ x,x∈p∨x∈q→x.ok m':=fun x hx=>by
   refine HA.ok_of (hok x (by simp;rcases hx with hx | hx<;>simp [hx])) fun b hb=>?_
   have:=hin b (by rcases hx with hx | hx;exact .inl (mem_fps.2 ⟨x,hx,hb⟩);exact .inr (mem_fps.2 ⟨x,hx,hb⟩))
   exact hm b this.2 this.1
  rcases List.mem_append.1 hx with hx | hx
  ·exact hk x (.inl hx)
  rcases List.mem_cons.1 hx with rfl | hx
  ·exact ha
  exact hk x (.inr hx)
 ·have hb:b∈fps (p++a'::q):=hb
  show b∈fps (p++a::q)∨_
  rw [fps_app,fps_cons] at hb ⊢
  simp only [List.mem_append] at hb ⊢
  rcases hb with hb | hb | hb
  ·exact .inl (.inl hb)
  ·rcases hf b hb with h4 | h4
   ·exact .inl (.inr (.inl h4))
   exact .inr h4
  exact .inl (.inr (.inr hb))
 ·show (fps (p++a'::q)).Nodup
  rw [fps_app,fps_cons]
  have hd:∀ b,b∈fps p∨b∈fps q→b ∉ a'.fp:=fun b hb hb2=>by
   have:=hin b hb
   rcases hf b hb2 with h4 | h4
   ·exact this.1 h4
   omega
  refine List.nodup_append.2 ⟨n1,List.nodup_append.2 ⟨hnd,n5,fun x hx y hy e=>?_⟩,fun x hx y hy e=>?_⟩
  ·subst e;exact hd x (.inr hy) hx
  subst e
  rcases List.mem_append.1 hy with hy | hy
  ·exact hd x (.inl hx) hy
  exact n3 x hx x (by simp [hy]) rfl
 show b∈fps (p++a::q)
 rw [fps_app,fps_cons];simp [h2]
end
section
variable {call:Call'} {B:Base} {fs:Sf} {l:List I} {Q:Sf→Prop} {d:Nat}
theorem fl_appM {ty ty' size bytes n b:Nat} {zero:List Value} {x y:Od} {u:AV} {cs news:List C} {p q:List HA} {m:Nat} {H':AV→List HA} (hx:fs.ev x=u) (hy:fs.ev y=.c (.sl b 0 (m+1) size)) (hb0:HA.blk b (.cells ty' news)∈fs.H)
    (hr:∀ u',Rep1 fs.H (many (p++.row u ty size n cs::q)) (many (p++.row u' ty size (n+(m+1)) (cs++news)::q)) (H' u')) (hl:news.length=(m+1) * size) (hb:(n+(m+1)) * bytes≤140737488355328) (hn:n+(m+1)≤9223372036854775807)
    (hw:∀ c':C,sameC c' c'=true→FL call B l (fs.res d (.c c') fs.z (H' (.c c'))) Q):FL call B (⟨some d,none,.app ty size bytes zero x y⟩::l) fs Q:=fun st r=>by
  have hrow:st.row size (.c (.sl b 0 (m+1) size))=some (m+1,news):=by
    rw [row_sl (r.hold.h _ hb0) (by omega),List.drop_zero,← hl,List.take_length]
  obtain ⟨g1,g2⟩:=r.hold.h _ (hr nilv).mem (.row u ty size n cs) (by simp)
  have hx':=(r.ev x).trans hx
  have hy':=(r.ev y).trans hy
  rcases g2 with ⟨rfl,rfl⟩ | ⟨c,rfl,h3⟩
  · have e : cs = [] := List.eq_nil_of_length_eq_zero (by omega)
    subst e
    refine w_app0 hx' hy' hrow (by simpa using hb) (by omega) ?_
    have h1:=hr (.c (.sl st.nx 0 (m+1) size))
    rw [List.nil_append,Nat.zero_add] at h1
    exact hw _ (by simp [sameC]) _ ((r.repM (m':=(st.new (.cells ty news)).mem) (nx':=st.nx+1) h1 (by omega) ⟨hl,.inr ⟨st.nx,rfl,by rw [new_mem,if_pos rfl]⟩⟩ (fun c hc=>.inr (by simp [HA.fp] at hc;omega)) (by simp [HA.fp]) (fun c hc _=>by rw [new_mem,if_neg (by omega)])).put d _)
  · refine w_app hx' hy' hrow h3 (by omega) (by simpa using hb) (by omega) ?_
    have h1:=hr (.c (.sl st.nx 0 (n+(m+1)) size))
    have hb2:c<st.nx:=r.hold.lt c (mem_fps.2 ⟨_,h1.mem,mem_fps.2 ⟨.row (.c (.sl c 0 n size)) ty size n cs,by simp,by simp [HA.fp]⟩⟩)
    refine hw _ (by simp [sameC]) _ ((r.repM (m':=(st.moveB c (.cells ty (cs.drop 0++news))).mem) (nx':=st.nx+1) h1 (by omega) ⟨by rw [List.length_append,g1,hl,← Nat.add_mul],.inr ⟨st.nx,rfl,by rw [moveB_mem,if_pos rfl];rfl⟩⟩ (fun c hc=>.inr (by simp [HA.fp] at hc;omega)) (by simp [HA.fp]) (fun c' hc hc2=>?_)).put d _)
    rw [moveB_mem,if_neg (by omega),if_neg fun e=>hc2 (by simp [HA.fp,e])]
end
theorem evV_look {call:Call'} {o:Ins} (hs:(∃ s z g x k b,o=.look s z g x k b)∨∃ s x k v,o=.mupd s x k v) (env:Tr AV) (ls:List Nat) (m:Tr Blk) (n:Nat) (h:∀ q,q∈o.sl→q∈ls):evV call o ⟨restr env ls,m,n⟩=evV call o ⟨env,m,n⟩:=by
  have hev:∀ x,(∀ q,q∈Od.sl x→q∈o.sl)→(⟨restr env ls,m,n⟩:AS).ev x=(⟨env,m,n⟩:AS).ev x:=fun x hx=>ev_sub fun q hq=>h q (hx q hq)
  rcases hs with ⟨s,z,g,x,k,b,rfl⟩ | ⟨s,x,k,v,rfl⟩
  · have hment : ∀ v, (⟨restr env ls, m, n⟩ : AS).ment v = (⟨env, m, n⟩ : AS).ment v := fun v => by unfold AS.ment; rfl
    have e:lookS ⟨restr env ls,m,n⟩ s z g x k b=lookS ⟨env,m,n⟩ s z g x k b:=by
      simp only [lookS,hev x (fun q hq=>by simp [Ins.sl,hq]),hev k (fun q hq=>by simp [Ins.sl,hq]),hment]
    simp only [evV,callee,stepQ,stepE,e]
    cases lookS ⟨env,m,n⟩ s z g x k b<;>rfl
  · simp only [evV, callee, stepQ, stepE, hev x (fun q hq => by simp [Ins.sl, hq]), hev k (fun q hq => by simp [Ins.sl, hq]), hev v (fun q hq => by simp [Ins.sl, hq])]
    cases (⟨env,m,n⟩:AS).ev x with
    | c c =>
      cases c with
      | mp b =>
        cases ((⟨env,m,n⟩:AS).ev k).val? with
        | none=>rfl
        | some key =>
          simp only
          cases m.get b with
          | none=>rfl
          | some kk =>
            cases kk with
            | mp es ck =>
              simp only
              cases setM s key ((⟨env,m,n⟩:AS).ev v) ck es with
              | none=>rfl
              | some p=>obtain ⟨es',c'⟩:=p;rfl
            | _=>rfl
      | _=>rfl
    | _=>rfl
section
variable {call:Call'} {B:Base} {an:List Nat} {j:Nat} {l:List CE.D} {fs:Sf} {T:Mem} {tag last:Nat} {pj lj:List Nat} {Q:Sf→Prop}
theorem hst_ev {st:AS} {x:Od} {v:AV} (hst:∀ q,q∈Od.sl x→st.get q=fs.e q) (hx:fs.ev x=v):st.ev x=v:=by
 rw [← hx]
 cases x with
 | t q=>exact hst q (by simp [Od.sl])
 | _=>rfl
theorem fg_look {i:I} {d:Nat} {af:List Nat} {str agg:Bool} {zero:List Value} {x k:Od} {b n:Nat} {key:Value} {es:List (Value×AV×Nat)} {r:Option AV} {v:AV} (hi:i.o=.look str zero agg x k false) (hd:i.d=some d) (hg:GK fs i) (hbits:Nat.beq (an.getD j 0 ||| last) (an.getD j 0)=true) (hpj:(pj.all fun q=>(an.getD j 0).testBit q)=true)
  (hx:fs.ev x=.c (.mp b)) (hk:fs.ev k=.c (.v key)) (hm:HA.blk b (.mp es n)∈fs.H) (hf:findV str key es=some r) (hv:r.getD (mkAV agg (zero.map fun v=>.v v))=v)
  (hw:FG call B an (j+1) l (fs.put d v) T (j+1) (an.getD j 0 ||| (1 <<< j)) [] lj Q):FG call B an j (⟨i,af⟩::l) fs T tag last pj lj Q:=by
 refine fd_chgT (D:=⟨fs,T,tag,last,pj,lj⟩) hg (by rw [hi];rfl) hbits hpj (fun st=>by rw [hi];rfl) (fun st hst hm=>?_) (by rw [hi];exact evV_look (.inl ⟨_,_,_,_,_,_,rfl⟩)) (fun st v' m' n' rf hv'=>?_) (by rw [hi,hd];exact fl_look hx hk hm hf hv (lN hw))
 ·rw [hi] at hst ⊢
  have h1:st.ev x=.c (.mp b):=hst_ev (fs:=fs) (fun q hq=>hst q (by simp [Ins.sl,hq])) hx
  have h2:st.ev k=.c (.v key):=hst_ev (fs:=fs) (fun q hq=>hst q (by simp [Ins.sl,hq])) hk
  simp only [stepE,lookS,h1,h2,AV.val?,AS.ment,hm,Tr.get_nil]
 rw [hi] at hv'
 have h3:=look_ev (st:=st) ((rf.ev x).trans hx) ((rf.ev k).trans hk) (rf.hold.h _ hm) hf hv
 simp only [evV,callee,stepQ,h3,Option.some.injEq,Prod.mk.injEq] at hv'
 obtain ⟨_,rfl,rfl⟩:=hv'
 exact ⟨Nat.le_refl _,fun _ _ _ h=>h⟩
theorem fg_mupd {i:I} {af:List Nat} {str:Bool} {x k v:Od} {b n n':Nat} {key:Value} {u:AV} {es es':List (Value×AV×Nat)} {H':List HA} (hi:i.o=.mupd str x k v) (hd:i.d=none) (hg:GK fs i) (hbits:Nat.beq (an.getD j 0 ||| last) (an.getD j 0)=true) (hpj:(pj.all fun q=>(an.getD j 0).testBit q)=true) (hlj:(lj.all fun q=>(an.getD j 0).testBit q)=true)
  (hx:fs.ev x=.c (.mp b)) (hk:fs.ev k=.c (.v key)) (hv:fs.ev v=u) (hs:setM str key u n es=some (es',n')) (hr:Rep1 fs.H (.blk b (.mp es n)) (.blk b (.mp es' n')) H')
  (hw:FG call B an (j+1) l (fs.heap H') (fun _ _=>False) (j+1) (an.getD j 0 ||| (1 <<< j)) [] [] Q):FG call B an j (⟨i,af⟩::l) fs T tag last pj lj Q:=by
 refine fd_chg (D:=⟨fs,T,tag,last,pj,lj⟩) hg (by rw [hi];rfl) hbits hpj hlj (fun st=>by rw [hi];rfl) (fun st hst hm=>?_) (by rw [hi];exact evV_look (.inr ⟨_,_,_,_,rfl⟩)) (by rw [hi,hd];exact fl_mupd hx hk hv hs hr (lN hw))
 rw [hi] at hst ⊢
 have h1:st.ev x=.c (.mp b):=hst_ev (fs:=fs) (fun q hq=>hst q (by simp [Ins.sl,hq])) hx
 have h2:st.ev k=.c (.v key):=hst_ev (fs:=fs) (fun q hq=>hst q (by simp [Ins.sl,hq])) hk
 simp only [stepE,h1,h2,AV.val?,hm,Tr.get_nil]
theorem fg_appM {i:I} {d:Nat} {af:List Nat} {ty ty' size bytes n b:Nat} {zero:List Value} {x y:Od} {u:AV} {cs news:List C} {p q:List HA} {m:Nat} {H':AV→List HA} (hi:i.o=.app ty size bytes zero x y) (hd:i.d=some d) (hg:GK fs i) (hbits:Nat.beq (an.getD j 0 ||| last) (an.getD j 0)=true) (hpj:(pj.all fun q=>(an.getD j 0).testBit q)=true)
    (hT:∀ b k,T b k→tz fs.z fs.H b k) (hx:fs.ev x=u) (hy:fs.ev y=.c (.sl b 0 (m+1) size)) (hb0:HA.blk b (.cells ty' news)∈fs.H)
    (hr:∀ u',Rep1 fs.H (many (p++.row u ty size n cs::q)) (many (p++.row u' ty size (n+(m+1)) (cs++news)::q)) (H' u')) (hl:news.length=(m+1) * size) (hb:(n+(m+1)) * bytes≤140737488355328) (hn:n+(m+1)≤9223372036854775807)
    (hw:∀ c':C,sameC c' c'=true→FG call B an (j+1) l (fs.res d (.c c') fs.z (H' (.c c'))) T (j+1) (an.getD j 0 ||| (1 <<< j)) [] lj Q):FG call B an j (⟨i,af⟩::l) fs T tag last pj lj Q:=by
  refine fd_chgT (D:=⟨fs,T,tag,last,pj,lj⟩) hg (by rw [hi];rfl) hbits hpj (fun st=>by rw [hi];rfl) (fun st hst hm=>?_) (by rw [hi];exact evV_restr (.inr ⟨_,_,_,_,_,_,rfl⟩)) (fun st v' m' n' rf hv'=>?_) (by rw [hi,hd];exact fl_appM hx hy hb0 hr hl hb hn fun c' hc=>lN (hw c' hc))
  · rw [hi] at hst ⊢
    have:st.ev y=.c (.sl b 0 (m+1) size):=hst_ev (fs:=fs) (fun q hq=>hst q (by simp [Ins.sl,hq])) hy
    simp only [stepE,this,AS.row,AS.read,AS.blk,hm,Tr.get_nil]
  · rw [hi] at hv'
    have hlt:∀ b k,T b k→b<st.nx∧b ∉ fps (p++.row u ty size n cs::q):=fun b k hb=>by
      rcases hT b k hb with h | h
      · exact ⟨(rf.hold.z b k h).2.1,fun h2=>(rf.hold.z b k h).2.2 (mem_fps.2 ⟨_,(hr nilv).mem,h2⟩)⟩
      · refine ⟨rf.hold.lt b (mem_fps.2 ⟨_, h, by simp [HA.fp]⟩), fun h2 => ?_⟩
        obtain ⟨p1,q1,e1,_⟩:=(hr nilv).split
        have hnd:=rf.hold.nd
        rw [e1,fps_app,fps_cons] at hnd
        have hb':b∈fps p1∨b∈fps q1:=by
          have hh:HA.blk b k∈fs.H:=h
          rw [e1] at hh
          rcases List.mem_append.1 hh with hh | hh
          · exact .inl (mem_fps.2 ⟨_,hh,by simp [HA.fp]⟩)
          · rcases List.mem_cons.1 hh with hh | hh
            · cases hh
            · exact .inr (mem_fps.2 ⟨_,hh,by simp [HA.fp]⟩)
        obtain ⟨n1,n2,n3⟩:=List.nodup_append.1 hnd
        obtain ⟨n4,n5,n6⟩:=List.nodup_append.1 n2
        rcases hb' with hb' | hb'
        · exact n3 b hb' b (List.mem_append.2 (.inl h2)) rfl
        · exact n6 b h2 b hb' rfl
    have hrow:st.row size (.c (.sl b 0 (m+1) size))=some (m+1,news):=by
      rw [row_sl (rf.hold.h _ hb0) (by omega),List.drop_zero,← hl,List.take_length]
    obtain ⟨g1,g2⟩:=rf.hold.h _ (hr nilv).mem (.row u ty size n cs) (by simp)
    have hx':=(rf.ev x).trans hx
    have hy':=(rf.ev y).trans hy
    rcases g2 with ⟨rfl,rfl⟩ | ⟨c,rfl,h3⟩
    · have e0 : cs = [] := List.eq_nil_of_length_eq_zero (by omega)
      subst e0
      have h4:stepE (.app ty size bytes zero x y) st=some (st.new (.cells ty news),.c (.sl st.nx 0 (m+1) size)):=by
        simp only [stepE,hy',hrow,hx']
        rw [need_pos ⟨by simpa using hb,by omega,by omega⟩]
      simp only [evV,callee,stepQ,h4,Option.some.injEq,Prod.mk.injEq] at hv'
      obtain ⟨_,rfl,rfl⟩:=hv'
      refine ⟨Nat.le_succ _,fun b' k' hb' hg'=>?_⟩
      have:=(hlt b' k' hb').1
      rw [new_mem,if_neg (by omega)];exact hg'
    · have h4:stepE (.app ty size bytes zero x y) st=some (st.moveB c (.cells ty (cs.drop 0++news)),.c (.sl st.nx 0 (n+(m+1)) size)):=by
        simp only [stepE,hy',hrow,hx',h3]
        rw [need_pos ⟨by omega,trivial,trivial,hb,hn⟩]
      simp only [evV,callee,stepQ,h4,Option.some.injEq,Prod.mk.injEq] at hv'
      obtain ⟨_,rfl,rfl⟩:=hv'
      refine ⟨Nat.le_succ _,fun b' k' hb' hg'=>?_⟩
      have h5:=hlt b' k' hb'
      rw [moveB_mem,if_neg (by omega),if_neg fun e=>h5.2 (mem_fps.2 ⟨.row (.c (.sl c 0 n size)) ty size n cs,by simp,by simp [HA.fp,e]⟩)]
      exact hg'
end
abbrev tx (s:ByteArray):List UInt8:=s.data.toList
theorem bs_tx (s:ByteArray):bs (tx s)=s:=by simp [bs,tx]
theorem tx_inj {a b:ByteArray}:tx a=tx b↔a=b:=⟨fun h=>by rw [← bs_tx a,h,bs_tx],fun h=>by rw [h]⟩
theorem sameK_bs (a b:List UInt8):sameK true (.string (bs a)) (.string (bs b))=some (decide (b=a)):=by
 simp only [sameK,bsame_eq]
 congr 1
 by_cases h:b=a
 ·simp [h]
 have h2:¬ a=b:=fun e=>h e.symm
 simp [h,h2]
open Go.RowKit
open Go.Eng (Od need need_pos need_some setL binV binBV setL_length)
theorem CL.m {α:Type} {size:Nat} {R:RT α} [RMono R] {z z':Mem} {cs:List C} {l:List α} (h:CL size R z cs l) [q:Zl z z']:CL size R z' cs l:=CL.mono h q.h
open Go.RowKit
open Go.Eng (Od need need_pos need_some setL binV binBV)
def Agr (call call':Call'):Prop:=∀ f args mem nx,Nat.blt f 1000000=true→call' f args mem nx=call f args mem nx
theorem Agr.trans {a b c:Call'} (h:Agr a b) (g:Agr b c):Agr a c:=fun f args mem nx h0=>(g f args mem nx h0).trans (h f args mem nx h0)
theorem agr_noY (call:Call'):Agr call (noY call):=fun f args mem nx h=>by simp only [noY,h]
theorem ble_yl {f b:Nat} (h:Nat.blt f 1000000=true):Nat.beq f (1000000+b)=false:=by
 cases h1:Nat.beq f (1000000+b) with
 | false=>rfl
 | true =>
  have:f<1000000:=Nat.le_of_ble_eq_true h
  have:=Nat.eq_of_beq_eq_true h1
  omega
theorem agr_callY (call:Call') (b:Nat) (ps:List Nat) (env:Tr AV) (r:AS→Option (Exit×AS)):Agr call (callY call b ps env r):=fun f args mem nx h=>by
 simp only [callY,ble_yl h]
theorem FCt.agr {call call':Call'} {f:Nat} {args:List AV} {z:Mem} {H:List HA} {P:AV→Mem→List HA→Prop} (hA:Agr call call') (h:FCt call f args z H P) (h0:Nat.blt f 1000000=true:=by rfl):FCt call' f args z H P:=fun mem nx hh=>by
 obtain ⟨v,mem',nx',z',H',h1,h2⟩:=h mem nx hh
 exact ⟨v,mem',nx',z',H',(hA f args mem nx h0).trans h1,h2⟩
theorem FC.agr {call call':Call'} {f:Nat} {args:List AV} {z:Mem} {P:AV→Mem→Prop} (hA:Agr call call') (h:FC call f args z P) (h0:Nat.blt f 1000000=true:=by rfl):FC call' f args z P:=FCt.agr hA h h0
noncomputable def bodyC (call:Call') (k:Nat) (c:XC):Call':=fun _ args mem nx=>match evX call k c ⟨envOf 0 .nil args,mem,nx⟩ with
 | some (.ret,s)=>some (.tup [],s.mem,s.nx)
 | some (.normal,s)=>some (.tup [],s.mem,s.nx)
 | _=>none
theorem body_fct {call:Call'} {k:Nat} {c:XC} {args:List AV} {z:Mem} {H:List HA} {Post:AV→Mem→List HA→Prop} (h:∀ B,FX call k B c ⟨argE args,z,H⟩ (RetQ [] Post)):FCt (bodyC call k c) 0 args z H Post:=fun mem nx hh=>by
 have r0:Rf ⟨mem,nx,z,fps H⟩ ⟨argE args,z,H⟩ ⟨envOf 0 .nil args,mem,nx⟩:=
  ⟨fun i=>argE_get args mem nx i,hh,Nat.le_refl _,fun b _ _=>rfl,fun b hb=>.inr hb,⟨fun _ _ h=>h⟩,fun b k hb=>.inl hb⟩
 have:=h _ _ r0
 simp only [bodyC]
 cases he:evX call k c ⟨envOf 0 .nil args,mem,nx⟩ with
 | none=>rw [he] at this;exact this.elim
 | some p =>
  obtain ⟨x,st⟩:=p
  rw [he] at this
  obtain ⟨fs,r,hx,vs,H',h1,h2,h3⟩:=this
  cases h1
  refine ⟨.tup [],st.mem,st.nx,fs.z,H',?_,r.le,r.old,r.hold.sub h2,r.zle,r.zin,fun b hb=>r.own b ((fps_sub h2).subset hb),h3⟩
  rcases hx with rfl | rfl<;>rfl
def ePs:Env→List Nat→List AV→Env
 | e,p::ps,v::vs=>ePs (eput e p v) ps vs
 | e,_,_=>e
theorem envPs_get:∀ (ps:List Nat) (vs:List AV) (env:Tr AV) (e:Env) (_:∀ mem nx i,(⟨env,mem,nx⟩:AS).get i=e i) (mem:Tr Blk) (nx i:Nat),(⟨envPs env ps vs,mem,nx⟩:AS).get i=ePs e ps vs i:=by
 intro ps
 induction ps with
 | nil=>intro vs env e he mem nx i;exact he mem nx i
 | cons p ps ih =>
  intro vs env e he mem nx i
  cases vs with
  | nil=>exact he mem nx i
  | cons v vs =>
   refine ih vs _ _ (fun mem nx i=>?_) mem nx i
   have hg:(⟨Tr.put (p+1) env p (some v),mem,nx⟩:AS).get i=if p=i then v else (⟨env,mem,nx⟩:AS).get i:=get_put ⟨env,mem,nx⟩ p i v
   rw [hg,eput_get,he]
def YPost (Post:Mem→List HA→Prop):AV→Mem→List HA→Prop:=fun v z H=>v=.c (.v (.bool true))∧Post z H
def RdQ (Post:Mem→List HA→Prop):Exit→Sf→Prop:=fun x fs=>x=.normal∧∃ H',H'.Sublist fs.H∧Post fs.z H'
theorem y_fct {call:Call'} {b k:Nat} {ps:List Nat} {env:Tr AV} {e:Env} {as_ bd:XC} {args:List AV} {z:Mem} {H:List HA} {Post:Mem→List HA→Prop} (he:∀ mem nx i,(⟨env,mem,nx⟩:AS).get i=e i) (hl:Nat.beq args.length ps.length=true)
  (h:∀ B,FX (noY call) k B (.seq as_ bd) ⟨ePs e ps args,z,H⟩ (RdQ Post)):FCt (callY (noY call) b ps env fun s=>seqE (evX (noY call) k as_ s) (evX (noY call) k bd)) (1000000+b) args z H (YPost Post):=fun mem nx hh=>by
 have r0:Rf ⟨mem,nx,z,fps H⟩ ⟨ePs e ps args,z,H⟩ ⟨envPs env ps args,mem,nx⟩:=
  ⟨fun i=>envPs_get ps args env e he mem nx i,hh,Nat.le_refl _,fun b _ _=>rfl,fun b hb=>.inr hb,⟨fun _ _ h=>h⟩,fun b k hb=>.inl hb⟩
 have:=h _ _ r0
 simp only [callY,Nat.beq_refl,hl]
 simp only [evX] at this
 cases he:evX (noY call) k as_ ⟨envPs env ps args,mem,nx⟩ with
 | none=>rw [he] at this;exact this.elim
 | some p =>
  obtain ⟨x,st⟩:=p
  rw [he] at this
  have hx:x=.normal:=by
   cases x with
   | normal=>rfl
   | _=>obtain ⟨_,_,h,_⟩:=this;exact h
  subst hx
  simp only at this
  simp only [seqE]
  cases he2:evX (noY call) k bd st with
  | none=>rw [he2] at this;exact this.elim
  | some p =>
   obtain ⟨x,s⟩:=p
   rw [he2] at this
   obtain ⟨fs,r,rfl,H',h2,h3⟩:=this
   exact ⟨_,s.mem,s.nx,fs.z,H',rfl,r.le,r.old,r.hold.sub h2,r.zle,r.zin,fun b hb=>r.own b ((fps_sub h2).subset hb),rfl,h3⟩
def Yld (call:Call') (k:Nat) (as_ bd:XC) (e:Env) (ps:List Nat) (call':Call') (b:Nat):Prop:=∀ (args:List AV) (z:Mem) (H:List HA) (Post:Mem→List HA→Prop),Nat.beq args.length ps.length=true →
 (∀ B,FX (noY call) k B (.seq as_ bd) ⟨ePs e ps args,z,H⟩ (RdQ Post))→FCt call' (1000000+b) args z H (YPost Post)
section
variable {call:Call'} {k:Nat} {B:Base} {fs:Sf} {Q:Exit→Sf→Prop} {l:List I} {QL:Sf→Prop} {d:Nat}
theorem Rf.nx1 {st:AS} (r:Rf B fs st):Rf B fs ⟨st.env,st.mem,st.nx+1⟩:=
 ⟨r.env,⟨fun b k hb=>⟨(r.hold.z b k hb).1,Nat.lt_succ_of_lt (r.hold.z b k hb).2.1,(r.hold.z b k hb).2.2⟩,r.hold.h,fun b hb=>Nat.lt_succ_of_lt (r.hold.lt b hb),r.hold.nd⟩,Nat.le_succ_of_le r.le,r.old,r.own,r.zle,r.zin⟩
theorem fx_range {g:Od} {ps:List Nat} {as_ bd c:XC} {h n:Nat} {us cs:List (Bool×List C)} {Hs Hr:List HA} {Post:Mem→List HA→Prop} (hg:fs.ev g=.c (.fn h us cs)) (hn:Nat.ble (us.length+(1+cs.length)) n=true) (e:fs.H=Hs++Hr)
    (hc:∀ call' b,Agr call call'→Yld call k as_ bd fs.e ps call' b→FCt (bodyC call' k c) 0 (AV.cs us++([.c (.yl b)]++AV.cs cs)) fs.z Hs fun _=>Post)
    (hw:∀ z' H',zle fs.z z'→Post z' H'→Q .normal ⟨fs.e,z',H'++Hr⟩):FX call k B (.range g ps as_ bd h n c) fs Q:=fun st r=>by
  have hA:Agr call (callY (noY call) st.nx ps st.env fun s=>seqE (evX (noY call) k as_ s) (evX (noY call) k bd)):=(agr_noY call).trans (agr_callY _ _ _ _ _)
  have hY : Yld call k as_ bd fs.e ps (callY (noY call) st.nx ps st.env fun s => seqE (evX (noY call) k as_ s) (evX (noY call) k bd)) st.nx := fun args z H Post hl hx => y_fct (fun mem nx i => by
    have:=r.env i
    simpa [AS.get] using this) hl hx
  have r1:=r.nx1
  have hh:=r1.hold
  rw [e] at hh
  obtain ⟨v,mem',nx',z',H',h1,h2,h3,h4,h5,h6,h7,h8⟩:=hc _ st.nx hA hY st.mem (st.nx+1) hh.left
  have r2:=r1.callR e h2 h3 h4 h5 h6 h7
  show Wx (evX call k (.range g ps as_ bd h n c) st) _
  simp only [bodyC] at h1
  simp only [evX,r.ev,hg,Nat.beq_refl,hn,Bool.and_true]
  cases he:evX (callY (noY call) st.nx ps st.env fun s=>seqE (evX (noY call) k as_ s) (evX (noY call) k bd)) k c ⟨envOf 0 .nil (AV.cs us++([.c (.yl st.nx)]++AV.cs cs)),st.mem,st.nx+1⟩ with
  | none=>rw [he] at h1;cases h1
  | some p =>
    obtain ⟨x,s⟩:=p
    rw [he] at h1
    cases x with
    | normal=>cases h1;exact ⟨_,r2,hw _ _ h5 h8⟩
    | ret=>cases h1;exact ⟨_,r2,hw _ _ h5 h8⟩
    | _=>cases h1
theorem fl_yld {t:Od} {b:Nat} {args:List Od} {vs:List AV} {Hs Hr:List HA} {Post:Mem→List HA→Prop} (ht:fs.ev t=.c (.yl b)) (ha:args.map fs.ev=vs) (e:fs.H=Hs++Hr) (hc:FCt call (1000000+b) vs fs.z Hs (YPost Post))
  (hw:∀ z' H',zle fs.z z'→Post z' H'→FL call B l (fs.res d (.c (.v (.bool true))) z' (H'++Hr)) QL):FL call B (⟨some d,none,.callv t args⟩::l) fs QL:=fun st r=>by
 have hh:=r.hold
 rw [e] at hh
 obtain ⟨v,mem',nx',z',H',h1,h2,h3,h4,h5,h6,h7,rfl,h8⟩:=hc st.mem st.nx hh.left
 refine w_of (i_of (v:=.c (.v (.bool true))) (mem:=mem') (nx:=nx') ?_) ?_
 ·simp only [evV,callee,r.ev,ht,r.evf,ha,h1]
 exact hw z' H' h5 h8 _ ((r.callR e h2 h3 h4 h5 h6 h7).put d _)
end
theorem evF_cs {P:Program} (hm:P.follows .mixedOrders=true) {T:Tr FE} (hT:TblOk P T) (hR:RgOk P T) (hz:P.funcs.size≤1000000) {hand:Call'} (hh:CallSnd P hand) (k0 k:Nat):CallSnd P (evF T hand k0 k):=fun f args mem nx res mem' nx' h=>by
 cases h0:Nat.blt f 1000000 with
 | true=>exact evF_sound hm hT hR hz hh k0 k h0 h
 | false =>
  have h1:¬ f<1000000:=fun h1=>by
   rw [show Nat.blt f 1000000=true from Nat.ble_eq_true_of_le h1] at h0;cases h0
  obtain ⟨b,rfl⟩:∃ b,f=1000000+b:=⟨f - 1000000,by omega⟩
  obtain ⟨y,hy,_⟩:=(evF_sndA hm hT hR hz hh k0 k).y _ _ _ _ _ _ _ h
  cases hy
open Go.RowKit
open Go.Eng (Od need need_pos need_some setL binV binBV)
def RC {α:Type} (size:Nat) (R:RT α):RT (List α):=fun z cs l=>∃ c,cs=[c]∧CZ size R z c l
instance {α:Type} {size:Nat} {R:RT α} [RMono R]:RMono (RC size R):=⟨fun hz ⟨c,h,g⟩=>⟨c,h,g.mono hz⟩⟩
section
variable {call:Call'} {k:Nat} {c:XC} {B:Base} {fs:Sf} {l:List I} {Q:Sf→Prop} {QX:Exit→Sf→Prop} {a:HA} {L L1 L2 p q:List HA}
theorem Rf.reH {st:AS} (r:Rf B fs st) {H':List HA} (hf:(fps H').Perm (fps fs.H)) (ho:∀ a,a∈H'→a.ok st.mem):Rf B (fs.heap H') st:=
 ⟨r.env,⟨fun b k hb=>⟨(r.hold.z b k hb).1,(r.hold.z b k hb).2.1,fun h=>(r.hold.z b k hb).2.2 (hf.mem_iff.1 h)⟩,ho,fun b hb=>r.hold.lt b (hf.mem_iff.1 hb),hf.symm.nodup r.hold.nd⟩,r.le,r.old,fun b hb=>r.own b (hf.mem_iff.1 hb),r.zle,r.zin⟩
theorem many_fp (L:List HA):(many L).fp=fps L:=rfl
theorem many_ok {m:Tr Blk}:(many L).ok m↔∀ a,a∈L→a.ok m:=Iff.rfl
theorem Rf.into {st:AS} (r:Rf B fs st) (e:fs.H=a::(p++many L::q)):Rf B (fs.heap (p++many (L++[a])::q)) st:=by
 refine r.reH ?_ fun x hx=>?_
 ·rw [e]
  refine List.perm_iff_count.2 fun b=>?_
  simp only [fps_app,fps_cons,many_fp,List.count_append,show fps []=[] from rfl,List.count_nil]
  omega
 have h:=r.hold.h
 rw [e] at h
 rcases List.mem_append.1 hx with hx | hx
 ·exact h x (by simp [hx])
 rcases List.mem_cons.1 hx with rfl | hx
 ·refine many_ok.2 fun y hy=>?_
  rcases List.mem_append.1 hy with hy | hy
  ·exact many_ok.1 (h (many L) (by simp)) y hy
  simp at hy;subst hy;exact h y (by simp)
 exact h x (by simp [hx])
theorem Rf.take {st:AS} (r:Rf B fs st) (e:fs.H=p++many (L1++a::L2)::q):Rf B (fs.heap (a::(p++many (L1++L2)::q))) st:=by
 refine r.reH ?_ fun x hx=>?_
 ·rw [e]
  refine List.perm_iff_count.2 fun b=>?_
  simp only [fps_app,fps_cons,many_fp,List.count_append,show fps []=[] from rfl,List.count_nil]
  omega
 have h:=r.hold.h
 rw [e] at h
 have h1:=many_ok.1 (h (many (L1++a::L2)) (by simp))
 rcases List.mem_cons.1 hx with rfl | hx
 ·exact h1 x (by simp)
 rcases List.mem_append.1 hx with hx | hx
 ·exact h x (by simp [hx])
 rcases List.mem_cons.1 hx with rfl | hx
 ·exact many_ok.2 fun y hy=>h1 y (by rcases List.mem_append.1 hy with hy | hy<;>simp [hy])
 exact h x (by simp [hx])
theorem fl_into (e:fs.H=a::(p++many L::q)) (hw:FL call B l (fs.heap (p++many (L++[a])::q)) Q):FL call B l fs Q:=fun st r=>hw st (r.into e)
end
abbrev Ro (α:Type):=C×List C×List α
def rowT {α:Type} (ty size:Nat) (d:Ro α):HA:=.row (.c d.1) ty size d.2.2.length d.2.1
open Go.RowKit
open Go.Eng (Od need need_pos need_some setL binV binBV)
section
variable {call:Call'} {B:Base} {an:List Nat} {j:Nat} {l:List CE.D} {D:DS} {Q:Sf→Prop}
theorem fd_callL {i:I} {d f:Nat} {args:List Od} {vs:List AV} {af:List Nat} {Hs Hr:List HA} {Post:AV→Mem→List HA→Prop} (hi:i.o=.call f args) (hd:i.d=some d) (hg:GK D.fs i) (hbits:Nat.beq (an.getD j 0 ||| D.last) (an.getD j 0)=true) (hpj:(D.pj.all fun q=>(an.getD j 0).testBit q)=true)
    (ha:args.map D.fs.ev=vs) (hTn:∀ b,b∈fps Hs→∀ k,¬ D.T b k) (e:D.fs.H=Hs++Hr) (hc:FCt call f vs D.fs.z Hs Post) (hw:∀ v z' H',zle D.fs.z z'→Post v z' H'→FD call B an (j+1) l ⟨⟨eput D.fs.e d v,z',H'++Hr⟩,D.T,j+1,an.getD j 0 ||| (1 <<< j),[],D.lj⟩ Q):FD call B an j (⟨i,af⟩::l) D Q:=fun a r=>by
  have hgo:=gk_ok (d:=⟨i,af⟩) r.rf hg
  obtain ⟨m,ml,hm⟩:=r.hd
  have hhd:=r.seqget hm
  have hold:=r.rf.hold
  simp only [Acc.seq,hhd] at hold
  have hold':=hold
  rw [e] at hold'
  obtain ⟨v,mem',nx',z',H',h1,h2,h3,h4,h5,h6,h7,h9⟩:=hc (ovl m a.pend) a.nx hold'.left
  have hev:∀ m n,args.map (⟨restr a.env (CE.D.sl ⟨i,af⟩),m,n⟩:AS).ev=vs:=fun m n=>by
    rw [← ha]
    refine List.map_congr_left fun x hx=>?_
    rw [ev_sub (m':=a.seq.mem) (n':=a.seq.nx) fun q hq=>sl_sub (d:=⟨i,af⟩) (by rw [hi];simp only [Ins.sl,Od.sls,List.mem_flatMap];exact ⟨x,hx,hq⟩)]
    exact r.rf.ev x
  have hp:=pend_all (bits:=an.getD j 0) (l:=a.pend) (by rw [r.pj];exact hpj)
  have hT:∀ b k,D.T b k→mem'.get b=some k:=fun b k hb=>by
    rw [h3 b (r.tlt b k hb) (fun hb2=>hTn b hb2 k hb)]
    exact ovl_keep (fun p hp' e=>r.np p hp' k (e ▸ hb)) (r.t0 (D.tag,m) (by rw [hm];exact List.mem_cons_self ..) b k hb)
  obtain ⟨fl',hf1,hf2⟩:=flOk_some (bits:=an.getD j 0) (m:=mem') (l:=a.fl) fun p hp=>(r.fl p hp).2 mem' hT
  refine wd_go (a':=⟨putE a.env i.d v,nx',(j+1,mem')::a.mems,a.pend.filter (fun p=>!(an.getD j 0).testBit p.1),fl',(an.getD j 0) ||| (1 <<< j)⟩) ?_ ?_
  · simp only [dStep]
    rw [show gOk i ⟨restr a.env (CE.D.sl ⟨i,af⟩),.nil,a.nx⟩=some true from hgo]
    simp only [hi,stepQ,isLoad,stepE,hm,hp.1,evV,callee,hev,h1,r.last,hbits,hf1]
  · rw [hd,hp.2]
    refine hw v z' H' h5 h9 _ ⟨?_,⟨mem',a.mems,rfl⟩,fun p hp' b k hb=>?_,fun b k hb=>Nat.lt_of_lt_of_le (r.tlt b k hb) h2,fun p hp=>by simp at hp,fun p hp=>r.fl p (hf2 p hp),rfl,rfl,fun p hp=>by simp at hp⟩
    · have := r.rf.callR (Hs := Hs) (Hr := Hr) e (mem' := mem') (nx' := nx') (z' := z') (H' := H') h2 (fun b hb hb2 => by
        rw [h3 b hb hb2];simp only [Acc.seq,hhd]) h4 h5 h6 h7
      exact this.put d v
    · rcases List.mem_cons.1 hp' with rfl | hp'
      · exact hT b k hb
      · exact r.t0 p hp' b k hb
end
theorem fg_callLZ {call:Call'} {B:Base} {an:List Nat} {j:Nat} {l:List CE.D} {fs:Sf} {T:Mem} {tag last:Nat} {pj lj:List Nat} {Q:Sf→Prop} (z0:Mem) {i:I} {d f:Nat} {args:List Od} {vs:List AV} {af:List Nat} {Hs Hr:List HA} {Post:AV→Mem→List HA→Prop} (hc:FCt call f vs z0 Hs Post) (hi:i.o=.call f args) (hd:i.d=some d) (hg:GK fs i) (hbits:Nat.beq (an.getD j 0 ||| last) (an.getD j 0)=true) (hpj:(pj.all fun q=>(an.getD j 0).testBit q)=true)
  (ha:args.map fs.ev=vs) (hz0:fs.z=z0) (hTn:∀ b,b∈fps Hs→∀ k,¬ T b k) (e:fs.H=Hs++Hr) (hw:∀ v z' H',zle z0 z'→Post v z' H'→FG call B an (j+1) l (fs.res d v z' (H'++Hr)) T (j+1) (an.getD j 0 ||| (1 <<< j)) [] lj Q):FG call B an j (⟨i,af⟩::l) fs T tag last pj lj Q:=by
 subst hz0
 exact fd_callL (D:=⟨fs,T,tag,last,pj,lj⟩) hi hd hg hbits hpj ha hTn e hc hw
open Go.RowKit
open Go.Eng (Od need need_pos need_some setL binV binBV)
section
variable {call:Call'} {k:Nat} {B:Base} {fs:Sf} {l:List I} {Q:Sf→Prop} {QX:Exit→Sf→Prop} {d:Nat}
theorem fl_entM {x:Od} {r m n ck:Nat} {es:Ents} {e:Value×AV×Nat} (hx:fs.ev x=.c (.ptr r 0)) (hr:fs.z r (.mcur m n ck)) (hm:fs.z m (.mp es ck)) (hf:es.find? (fun e=>e.2.2 == n)=some e) (ho:e.1.oneCell'=true) (hw:FL call B l (fs.put d (.tup [.c (.v e.1),e.2.1])) Q):FL call B (⟨some d,none,.entM x⟩::l) fs Q:=fun st rf =>
  w_of (i_e (st' := st) (v := .tup [.c (.v e.1), e.2.1]) rfl rfl (by
    have h1:=(rf.hold.z _ _ hr).1
    have h2:=(rf.hold.z _ _ hm).1
    simp only [stepE,rf.ev,hx,h1,h2,hf]
    rw [need_pos ⟨ho,trivial⟩])) (hw _ (rf.put _ _))
theorem find_born {es:Ents} {e:Value×AV×Nat} (hn:(es.map fun e=>e.2.2).Nodup) (he:e∈es):es.find? (fun d=>d.2.2 == e.2.2)=some e:=by
 induction es with
 | nil=>cases he
 | cons x es ih =>
  rw [List.find?_cons]
  simp only [List.map_cons,List.nodup_cons] at hn
  rcases List.mem_cons.1 he with h | h
  ·subst h;simp
  have:(x.2.2 == e.2.2)=false:=by
   refine beq_eq_false_iff_ne.2 fun h2=>hn.1 ?_
   rw [h2];exact List.mem_map.2 ⟨e,h,rfl⟩
  rw [this]
  exact ih hn.2 h
def dropF (e:Env):List Nat→Env
 | []=>e
 | q::l=>eput (dropF e l) q .any
theorem dropF_get (e:Env) (i:Nat):∀ W:List Nat,dropF e W i=if i∈W then .any else e i
 | []=>by simp [dropF]
 | q::W=>by
  simp only [dropF,eput_get,dropF_get e i W,List.mem_cons]
  by_cases h:q=i
  ·subst h;simp
  have h2:¬ i=q:=fun h3=>h h3.symm
  rw [if_neg h]
  simp [h2]
theorem Hold.less {z:Mem} {p q:List HA} {a:HA} {m m':Tr Blk} {nx nx':Nat} (h:Hold z (p++a::q) m nx) (hn:nx≤nx') (hm:∀ b,b<nx→b ∉ a.fp→m'.get b=m.get b) (hz:∀ b k,z b k→b ∉ a.fp):Hold z (p++q) m' nx':=by
  have hnd:=h.nd
  rw [fps_app,fps_cons] at hnd
  obtain ⟨n1,n2,n3⟩:=List.nodup_append.1 hnd
  obtain ⟨n4,n5,n6⟩:=List.nodup_append.1 n2
  have hin:∀ b,b∈fps (p++q)→b<nx∧b ∉ a.fp:=fun b hb=>by
    rw [fps_app] at hb
    refine ⟨h.lt b (by rw [fps_app,fps_cons];rcases List.mem_append.1 hb with hb | hb<;>simp [hb]),fun hba=>?_⟩
    rcases List.mem_append.1 hb with hb | hb
    · exact n3 b hb b (by simp [hba]) rfl
    · exact n6 b hba b hb rfl
  refine ⟨fun b k hb=>?_,fun x hx=>?_,fun b hb=>Nat.lt_of_lt_of_le (hin b hb).1 hn,?_⟩
  · obtain ⟨h1, h2, h3⟩ := h.z b k hb
    refine ⟨by rw [hm b h2 (hz b k hb)];exact h1,Nat.lt_of_lt_of_le h2 hn,fun hb2=>h3 ?_⟩
    rw [fps_app] at hb2
    rw [fps_app,fps_cons]
    rcases List.mem_append.1 hb2 with hb2 | hb2<;>simp [hb2]
  · refine HA.ok_of (h.h x (by rcases List.mem_append.1 hx with hx | hx <;> simp [hx])) fun b hb => ?_
    have:=hin b (mem_fps.2 ⟨x,hx,hb⟩)
    exact hm b this.1 this.2
  · rw [fps_app]
    exact List.nodup_append.2 ⟨n1,n5,fun x hx y hy=>n3 x hx y (by simp [hy])⟩
theorem fx_mrange {nx more it out r m ck i0:Nat} {v0:Value} {b:XC} {es:Ents} {p q:List HA} (T:Mem) (bad:Value×AV×Nat→Prop) (hW:it ∉ nx::more::b.dsts) (hi0:i0∈nx::more::b.dsts) (hit:fs.e it=.c (.ptr r 0)) (e:fs.H=p++.blk r (.mit m ck ck #[])::q) (hnd:(es.map fun e=>e.2.2).Nodup) (hlt:∀ e,e∈es→e.2.2<ck)
  (hT:∀ mem n,Hold fs.z (p++q) mem n→∀ b k,T b k→mem.get b=some k∧b<n) (hm:T m (.mp es ck))
  (round:∀ d,d∈es→∀ B,FX call k B b ⟨dropF fs.e (nx::more::b.dsts),fun b k=>(T b k∨fs.z b k)∨(b=r∧k=.mcur m d.2.2 ck),[]⟩ fun x fs'=>(x=.normal∧¬ bad d)∨(x=.ret∧bad d∧fs'.e i0=.c (.v v0)))
  (hw1:(∀ d,d∈es→¬ bad d)→QX (.exit out) ⟨dropF fs.e (nx::more::b.dsts),fs.z,p++q⟩) (hw2:(∃ d,d∈es∧bad d)→∀ e',e' i0=.c (.v v0)→QX .ret ⟨e',fs.z,p++q⟩):FX call k B (.mrange nx more it out b) fs QX:=fun st r0=>by
 obtain ⟨W,hWe⟩:∃ W,nx::more::b.dsts=W:=⟨_,rfl⟩
 rw [hWe] at hW hi0 hw1 round
 have hH:=r0.hold
 rw [e] at hH
 have hmr:st.mem.get r=some (.mit m ck ck #[]):=hH.h (.blk r (.mit m ck ck #[])) (by simp)
 have hrL:r∈fps (p++.blk r (.mit m ck ck #[])::q):=by rw [fps_app,fps_cons];simp [HA.fp]
 have hrn:r<st.nx:=hH.lt r hrL
 have hz:∀ b k,fs.z b k→b ∉ (HA.blk r (.mit m ck ck #[])).fp:=fun b k hb h=>by
  simp only [HA.fp,List.mem_singleton] at h
  subst h
  exact (hH.z b k hb).2.2 hrL
 have hT0:∀ b k,T b k→st.mem.get b=some k∧b<st.nx∧b≠r:=fun b k hb=>by
  have h1:=hT _ _ (hH.less (m':=Tr.put (r+1) st.mem r none) (Nat.le_refl _) (fun x _ hx=>by rw [get_put0,if_neg fun h=>hx (by simp [HA.fp,h])]) hz) b k hb
  rw [get_put0] at h1
  split at h1
  ·cases h1.1
  rename_i hne;exact ⟨h1.1,h1.2,fun h=>hne h.symm⟩
 obtain ⟨hmm,hmn,hmr2⟩:=hT0 m _ hm
 obtain ⟨mem0,hmem0⟩:∃ mem0,cutT st.mem st.nx=mem0:=⟨_,rfl⟩
 have hcut:∀ b,b<st.nx→mem0.get b=st.mem.get b:=fun b hb=>by rw [← hmem0,cutT_get,if_pos hb]
 have henv:∀ i mem n,(⟨dropE st.env W,mem,n⟩:AS).get i=dropF fs.e W i:=fun i mem n=>by
  rw [dropF_get]
  rcases dropE_get st.env i W with ⟨h1,h2⟩ | ⟨h1,h2⟩
  ·rw [if_pos h1];simp only [AS.get,h2]
  rw [if_neg h1,← r0.env i];simp only [AS.get,h2]
 have rd:∀ d,d∈es→∃ x s,evX call k b (mCur (dropE st.env W) mem0 st.nx r m ck d)=some (x,s)∧(∀ b k,(mCur (dropE st.env W) mem0 st.nx r m ck d).mem.get b=some k→s.mem.get b=some k)∧((x=.normal∧¬ bad d)∨(x=.ret∧bad d∧s.get i0=.c (.v v0))):=fun d hd=>by
  have hg:∀ b,b≠r→(mCur (dropE st.env W) mem0 st.nx r m ck d).mem.get b=mem0.get b:=fun b hb=>put_oth hb
  have hgr:(mCur (dropE st.env W) mem0 st.nx r m ck d).mem.get r=some (.mcur m d.2.2 ck):=by simp [mCur,get_put0]
  have r1:Rf ⟨(mCur (dropE st.env W) mem0 st.nx r m ck d).mem,st.nx,fun b k=>(T b k∨fs.z b k)∨(b=r∧k=.mcur m d.2.2 ck),[]⟩ ⟨dropF fs.e W,fun b k=>(T b k∨fs.z b k)∨(b=r∧k=.mcur m d.2.2 ck),[]⟩ (mCur (dropE st.env W) mem0 st.nx r m ck d):=by
   refine ⟨fun i=>henv i _ _,⟨fun b k hb=>?_,fun a ha=>(by cases ha),fun b hb=>(by cases hb),List.nodup_nil⟩,Nat.le_refl _,fun _ _ _=>rfl,fun b hb=>(by cases hb),zle.refl _,fun b k hb=>.inl hb⟩
   rcases hb with (hb | hb) | ⟨rfl,rfl⟩
   ·obtain ⟨h1,h2,h3⟩:=hT0 b k hb
    exact ⟨by rw [hg b h3,hcut b h2];exact h1,h2,fun h=>by cases h⟩
   ·obtain ⟨h1,h2,h3⟩:=hH.z b k hb
    exact ⟨by rw [hg b (fun h=>h3 (h ▸ hrL)),hcut b h2];exact h1,h2,fun h=>by cases h⟩
   exact ⟨hgr,hrn,fun h=>by cases h⟩
  have h1:=round d hd _ _ r1
  cases hev:evX call k b (mCur (dropE st.env W) mem0 st.nx r m ck d) with
  | none=>rw [hev] at h1;exact h1.elim
  | some y =>
   obtain ⟨x,s⟩:=y
   rw [hev] at h1
   obtain ⟨fs',r2,h2⟩:=h1
   refine ⟨x,s,rfl,fun b k hb=>?_,?_⟩
   ·have hbn:b<st.nx:=by
     by_cases hb2:b=r
     ·rw [hb2];exact hrn
     rw [hg b hb2,← hmem0,cutT_get] at hb
     split at hb
     ·assumption
     cases hb
    exact (r2.old b hbn (fun h=>by cases h)).trans hb
   rcases h2 with h2 | ⟨h2,h3,h4⟩
   ·exact .inl h2
   exact .inr ⟨h2,h3,by rw [r2.env];exact h4⟩
 have hok:MrOk (evX call k b) (mCur (dropE st.env W) mem0 st.nx r m ck) es:=fun d hd=>by
  obtain ⟨x,s,h1,h2,h3⟩:=rd d hd
  exact ⟨x,s,h1,by rcases h3 with ⟨h3,_⟩ | ⟨h3,_⟩;exact .inl h3;exact .inr h3,h2⟩
 have hwf:MrWf es ck ck ck #[]:=⟨rfl,hnd,hlt,Nat.le_refl _,Nat.le_refl _⟩
 have hle:st.nx≤mrN (evX call k b) (mCur (dropE st.env W) mem0 st.nx r m ck) st.nx es:=mrN_ge
 have fin:∀ env' e',(∀ i mem n,(⟨env',mem,n⟩:AS).get i=e' i)→Rf B ⟨e',fs.z,p++q⟩ ⟨env',Tr.put (r+1) mem0 r none,mrN (evX call k b) (mCur (dropE st.env W) mem0 st.nx r m ck) st.nx es⟩:=fun env' e' he=>by
  have hkeep:∀ x,x<st.nx→x ∉ (HA.blk r (.mit m ck ck #[])).fp→(Tr.put (r+1) mem0 r none).get x=st.mem.get x:=fun x hx hx2=>by
   rw [get_put0,if_neg fun h=>hx2 (by simp [HA.fp,h]),hcut x hx]
  have hown:=r0.own
  rw [e] at hown
  refine ⟨fun i=>he i _ _,hH.less hle hkeep hz,Nat.le_trans r0.le hle,fun x hx hxL=>?_,fun x hx=>hown x ?_,r0.zle,r0.zin⟩
  ·have hxr:x ∉ (HA.blk r (.mit m ck ck #[])).fp:=fun h=>by
    simp only [HA.fp,List.mem_singleton] at h
    subst h
    rcases hown x hrL with h1 | h1
    ·omega
    exact hxL h1
   exact (hkeep x (Nat.lt_of_lt_of_le hx r0.le) hxr).trans (r0.old x hx hxL)
  have hx:x∈fps (p++q):=hx
  rw [fps_app] at hx
  rw [fps_app,fps_cons]
  rcases List.mem_append.1 hx with hx | hx<;>simp [hx]
 show Wx (evX call k (.mrange nx more it out b) st) _
 have hgit:st.get it=.c (.ptr r 0):=by rw [r0.env];exact hit
 simp only [evX,evM,hgit,hmr,hmm]
 rw [hWe,hmem0]
 rw [@decide_eq_true _ (Classical.propDecidable _) ⟨hW,hrn,hmn,hwf,hok⟩]
 simp only
 by_cases hno:MrNo (evX call k b) (mCur (dropE st.env W) mem0 st.nx r m ck) es
 ·rw [@decide_eq_true _ (Classical.propDecidable _) hno]
  refine ⟨_,fin _ _ (fun i mem n=>henv i mem n),hw1 fun d hd hb=>?_⟩
  obtain ⟨x,s,h1,_,h3⟩:=rd d hd
  rcases h3 with ⟨_,h3⟩ | ⟨rfl,_,_⟩
  ·exact h3 hb
  exact hno d hd s h1
 rw [@decide_eq_false _ (Classical.propDecidable _) hno]
 have hex:∃ d,d∈es∧∃ s,evX call k b (mCur (dropE st.env W) mem0 st.nx r m ck d)=some (.ret,s):=by
  simp only [MrNo,Classical.not_forall,Classical.not_not] at hno
  obtain ⟨d,hd,s,hs⟩:=hno
  exact ⟨d,hd,s,hs⟩
 obtain ⟨d,hd,s,hs⟩:=hex
 have hval:MrVal (evX call k b) (mCur (dropE st.env W) mem0 st.nx r m ck) es i0 v0:=fun d2 hd2 s2 hs2=>by
  obtain ⟨x,s3,h1,_,h3⟩:=rd d2 hd2
  rw [hs2] at h1
  injection h1 with h1
  obtain ⟨rfl,rfl⟩:=Prod.mk.inj h1
  rcases h3 with ⟨h3,_⟩ | ⟨_,_,h3⟩
  ·cases h3
  exact h3
 refine ⟨⟨fun i=>(⟨retE (evX call k b) (mCur (dropE st.env W) mem0 st.nx r m ck) es (dropE st.env W) W,.nil,0⟩:AS).get i,fs.z,p++q⟩,fin _ _ (fun i mem n=>rfl),hw2 ⟨d,hd,?_⟩ _ ?_⟩
 ·obtain ⟨x,s3,h1,_,h3⟩:=rd d hd
  rw [hs] at h1
  injection h1 with h1
  obtain ⟨rfl,rfl⟩:=Prod.mk.inj h1
  rcases h3 with ⟨h3,_⟩ | ⟨_,h3,_⟩
  ·cases h3
  exact h3
 rcases retE_get (ev:=evX call k b) (start:=mCur (dropE st.env W) mem0 st.nx r m ck) (es:=es) (env:=dropE st.env W) (i:=i0) W with ⟨v,_,h2,h3⟩ | ⟨_,h2⟩
 ·have e1:=h2 d hd s hs
  have e2:=hval d hd s hs
  rw [e1] at e2
  injection e2 with e2
  injection e2 with e2
  subst e2
  simp only [AS.get,h3]
 exact absurd ⟨v0,hval⟩ (h2 hi0)
end
open Go.RowKit
open Go.Eng (Od need need_pos need_some setL binV binBV)
section
variable {call:Call'} {B:Base} {fs:Sf} {l:List I} {Q:Sf→Prop} {d:Nat} {k:Nat} {c:XC} {QX:Exit→Sf→Prop}
theorem fl_fr1 {a x:HA} {q:List HA} (e:fs.H=a::x::q) (hw:FL call B l (fs.heap (x::a::q)) Q):FL call B l fs Q:=fl_perm (by rw [e];exact List.Perm.swap _ _ _) hw
theorem fl_fr2 {a b x:HA} {q:List HA} (e:fs.H=a::b::x::q) (hw:FL call B l (fs.heap (x::a::b::q)) Q):FL call B l fs Q:=fl_perm (by rw [e];exact (List.perm_middle (l₁:=[a,b]) (l₂:=q) (a:=x))) hw
theorem fl_fr3 {a b c x:HA} {q:List HA} (e:fs.H=a::b::c::x::q) (hw:FL call B l (fs.heap (x::a::b::c::q)) Q):FL call B l fs Q:=fl_perm (by rw [e];exact (List.perm_middle (l₁:=[a,b,c]) (l₂:=q) (a:=x))) hw
theorem fl_fr4 {a b c d x:HA} {q:List HA} (e:fs.H=a::b::c::d::x::q) (hw:FL call B l (fs.heap (x::a::b::c::d::q)) Q):FL call B l fs Q:=fl_perm (by rw [e];exact (List.perm_middle (l₁:=[a,b,c,d]) (l₂:=q) (a:=x))) hw
theorem fl_fr5 {a b c d e x:HA} {q:List HA} (h:fs.H=a::b::c::d::e::x::q) (hw:FL call B l (fs.heap (x::a::b::c::d::e::q)) Q):FL call B l fs Q:=fl_perm (by rw [h];exact (List.perm_middle (l₁:=[a,b,c,d,e]) (l₂:=q) (a:=x))) hw
theorem fl_fr6 {a b c d e f x:HA} {q:List HA} (h:fs.H=a::b::c::d::e::f::x::q) (hw:FL call B l (fs.heap (x::a::b::c::d::e::f::q)) Q):FL call B l fs Q:=fl_perm (by rw [h];exact (List.perm_middle (l₁:=[a,b,c,d,e,f]) (l₂:=q) (a:=x))) hw
structure Fg (α:Type) where
 k:List UInt8
 n:Nat
 d:Ro α
end
section
variable {α:Type}
def Fg.ent (x:Fg α):Value×AV×Nat:=(.string (bs x.k),.c x.d.1,x.n)
abbrev gamM (b:Nat) (F:List (Fg α)) (ck:Nat):HA:=.blk b (.mp (F.map Fg.ent) ck)
abbrev gamR (ty size:Nat) (F:List (Fg α)):HA:=many ((F.map (·.d)).map (rowT ty size))
def lOf:List (Fg α)→List UInt8→List α
 | [],_=>[]
 | x::F,k=>if x.k=k then x.d.2.2 else lOf F k
def uOg:List (Fg α)→List UInt8→C
 | [],_=>.v (.slice none 0 0)
 | x::F,k=>if x.k=k then x.d.1 else uOg F k
structure BornF (F:List (Fg α)) (ck:Nat):Prop where
 nd:(F.map fun x=>x.n).Nodup
 lt:∀ x,x∈F→x.n<ck
 kd:(F.map fun x=>x.k).Nodup
theorem BornF.nil:BornF ([]:List (Fg α)) 0:=⟨List.nodup_nil,fun x h=>(by cases h),List.nodup_nil⟩
theorem findGk (k:List UInt8):∀ F:List (Fg α),∃ r,findV true (.string (bs k)) (F.map Fg.ent)=some r∧r.getD nilv=.c (uOg F k)
 | []=>⟨none,rfl,rfl⟩
 | x::F=>by
  obtain ⟨r,h1,h2⟩:=findGk k F
  simp only [List.map_cons,Fg.ent,findV,sameK_bs,uOg]
  by_cases hk:x.k=k
  ·rw [if_pos hk];exact ⟨some (.c x.d.1),by simp [hk],rfl⟩
  rw [if_neg hk];exact ⟨r,by simp only [hk,decide_false];exact h1,h2⟩
theorem findG (s:ByteArray) (F:List (Fg α)):∃ r,findV true (.string s) (F.map Fg.ent)=some r∧r.getD nilv=.c (uOg F (tx s)):=by
 have:=findGk (tx s) F
 rwa [bs_tx] at this
abbrev emptyG (k:List UInt8) (ck:Nat):Fg α:=⟨k,ck,(.v (.slice none 0 0),[],[])⟩
theorem gamSk (k:List UInt8) (ck:Nat):∀ F:List (Fg α),∃ F1 x F2 c',x.k=k∧x.d.1=uOg F k∧x.d.2.2=lOf F k∧((F1++x::F2=F∧c'=ck)∨(F1=F∧F2=[]∧x=emptyG k ck∧c'=ck+1))∧(∀ y,y∈F1→y.k≠k) ∧
    ∀ d':Ro α,setM true (.string (bs k)) (.c d'.1) ck (F.map Fg.ent)=some ((F1++⟨k,x.n,d'⟩::F2).map Fg.ent,c')
  | []=>⟨[],emptyG k ck,[],ck+1,rfl,rfl,rfl,.inr ⟨rfl,rfl,rfl,rfl⟩,fun _ h=>absurd h List.not_mem_nil,fun d'=>rfl⟩
  | x::F=>by
    by_cases hk:x.k=k
    · refine ⟨[], x, F, ck, hk, by simp [uOg, hk], by simp [lOf, hk], .inl ⟨rfl, rfl⟩, fun _ h => absurd h List.not_mem_nil, fun d' => ?_⟩
      simp only [List.map_cons,Fg.ent,setM,sameK_bs,hk,decide_true,List.nil_append]
    · obtain ⟨F1, y, F2, c', h1, h2, h3, h4, h5, h6⟩ := gamSk k ck F
      refine ⟨x::F1,y,F2,c',h1,by simp [uOg,hk,h2],by simp [lOf,hk,h3],?_,fun y hy=>?_,fun d'=>?_⟩
      · rcases h4 with ⟨h4, h7⟩ | ⟨h4, h7, h8, h9⟩
        · exact .inl ⟨by rw [List.cons_append,h4],h7⟩
        · exact .inr ⟨by rw [h4],h7,h8,h9⟩
      · rcases List.mem_cons.1 hy with rfl | hy
        · exact hk
        · exact h5 y hy
      · have h7:=h6 d'
        simp only [List.map_cons,Fg.ent,setM,sameK_bs,hk,decide_false,List.cons_append]
        rw [h7]
theorem gamS (s:ByteArray) (ck:Nat) (F:List (Fg α)):∃ F1 x F2 c',x.k=tx s∧x.d.1=uOg F (tx s)∧x.d.2.2=lOf F (tx s)∧((F1++x::F2=F∧c'=ck)∨(F1=F∧F2=[]∧x=emptyG (tx s) ck∧c'=ck+1))∧(∀ y,y∈F1→y.k≠tx s) ∧
  ∀ d':Ro α,setM true (.string s) (.c d'.1) ck (F.map Fg.ent)=some ((F1++⟨tx s,x.n,d'⟩::F2).map Fg.ent,c'):=by
 have:=gamSk (tx s) ck F
 rwa [bs_tx] at this
section
variable {k k':List UInt8} {x:Fg α} {F F1 F2:List (Fg α)} {d':Ro α} {ck c':Nat}
theorem lOf_cut (h1:∀ y,y∈F1→y.k≠k) (h2:x.k=k):lOf (F1++⟨k,x.n,d'⟩::F2) k'=if k'=k then d'.2.2 else lOf (F1++x::F2) k':=by
 induction F1 with
 | nil =>
  simp only [List.nil_append,lOf,h2]
  by_cases h:k=k'
  ·rw [if_pos h,if_pos h.symm]
  rw [if_neg h,if_neg h,if_neg fun e=>h e.symm]
 | cons y F1 ih =>
  have hy:=h1 y (List.mem_cons_self ..)
  have ih:=ih fun z hz=>h1 z (List.mem_cons_of_mem _ hz)
  simp only [List.cons_append,lOf,ih]
  by_cases h:y.k=k'
  ·rw [if_pos h,if_pos h,if_neg fun e=>hy (h.trans e)]
  rw [if_neg h,if_neg h]
theorem lOf_end (F:List (Fg α)):lOf (F++[emptyG k ck]) k'=lOf F k':=by
 induction F with
 | nil=>simp [lOf]
 | cons y F ih=>simp only [List.cons_append,lOf,ih]
theorem lOf_step (h4:(F1++x::F2=F∧c'=ck)∨(F1=F∧F2=[]∧x=emptyG k ck∧c'=ck+1)) (h1:∀ y,y∈F1→y.k≠k) (h2:x.k=k):lOf (F1++⟨k,x.n,d'⟩::F2) k'=if k'=k then d'.2.2 else lOf F k':=by
 rw [lOf_cut h1 h2]
 rcases h4 with ⟨h4,_⟩ | ⟨rfl,rfl,rfl,_⟩
 ·rw [h4]
 rw [lOf_end]
theorem BornF.step (h:BornF F ck) (h4:(F1++x::F2=F∧c'=ck)∨(F1=F∧F2=[]∧x=emptyG k ck∧c'=ck+1)) (h1:∀ y,y∈F1→y.k≠k) (h2:x.k=k):BornF (F1++⟨k,x.n,d'⟩::F2) c':=by
 rcases h4 with ⟨h4,rfl⟩ | ⟨rfl,rfl,rfl,rfl⟩
 ·subst h4
  refine ⟨?_,fun y hy=>?_,?_⟩
  ·have:=h.nd
   simpa using this
  ·rcases List.mem_append.1 hy with hy | hy
   ·exact h.lt y (by simp [hy])
   rcases List.mem_cons.1 hy with rfl | hy
   ·exact h.lt x (by simp)
   exact h.lt y (by simp [hy])
  have:=h.kd
  subst h2
  simpa using this
 refine ⟨?_,fun y hy=>?_,?_⟩
 ·rw [List.map_append,List.nodup_append]
  refine ⟨h.nd,by simp,fun a ha b hb e=>?_⟩
  obtain ⟨y,hy,rfl⟩:=List.mem_map.1 ha
  simp at hb
  have:=h.lt y hy
  omega
 ·rcases List.mem_append.1 hy with hy | hy
  ·have:=h.lt y hy;omega
  rcases List.mem_cons.1 hy with rfl | hy
  ·show ck<ck+1;omega
  cases hy
 rw [List.map_append,List.nodup_append]
 refine ⟨h.kd,by simp,fun a ha b hb e=>?_⟩
 obtain ⟨y,hy,rfl⟩:=List.mem_map.1 ha
 simp at hb
 exact h1 y hy (e.trans hb)
theorem gam_all {P:Ro α→Prop} (h:∀ y,y∈F→P y.d) (h4:(F1++x::F2=F∧c'=ck)∨(F1=F∧F2=[]∧x=emptyG k ck∧c'=ck+1)) (g:P d'):∀ y,y∈F1++⟨k,x.n,d'⟩::F2→P y.d:=fun y hy=>by
 have hk:y∈F1∨y∈F2→P y.d:=fun hy=>by
  rcases h4 with ⟨h4,_⟩ | ⟨rfl,rfl,_⟩
  ·exact h y (by rw [← h4];rcases hy with hy | hy<;>simp [hy])
  rcases hy with hy | hy
  ·exact h y hy
  cases hy
 rcases List.mem_append.1 hy with hy | hy
 ·exact hk (.inl hy)
 rcases List.mem_cons.1 hy with rfl | hy
 ·exact g
 exact hk (.inr hy)
theorem gam_x {P:Ro α→Prop} (h:∀ y,y∈F→P y.d) (h0:P (.v (.slice none 0 0),[],[])) (h4:(F1++x::F2=F∧c'=ck)∨(F1=F∧F2=[]∧x=emptyG k ck∧c'=ck+1)):P x.d:=by
 rcases h4 with ⟨h4,_⟩ | ⟨_,_,rfl,_⟩
 ·exact h x (by rw [← h4];simp)
 exact h0
end
theorem lOf_mem {F:List (Fg α)} {ck:Nat} (h:BornF F ck) {x:Fg α} (hx:x∈F):lOf F x.k=x.d.2.2:=by
  have hk:=h.kd
  clear h
  induction F with
  | nil=>cases hx
  | cons y F ih =>
    simp only [List.map_cons,List.nodup_cons] at hk
    simp only [lOf]
    rcases List.mem_cons.1 hx with rfl | hx
    · rw [if_pos rfl]
    · rw [if_neg fun e => hk.1 (by rw [e]; exact List.mem_map.2 ⟨x, hx, rfl⟩)]
      exact ih hx hk.2
theorem lOf_ex {F:List (Fg α)} {k:List UInt8} (h:lOf F k≠[]):∃ x,x∈F∧x.k=k∧x.d.2.2=lOf F k:=by
 induction F with
 | nil=>exact absurd rfl h
 | cons y F ih =>
  simp only [lOf] at h ⊢
  by_cases hk:y.k=k
  ·rw [if_pos hk];exact ⟨y,List.mem_cons_self ..,hk,rfl⟩
  rw [if_neg hk] at h ⊢
  obtain ⟨x,h1,h2,h3⟩:=ih h
  exact ⟨x,List.mem_cons_of_mem _ h1,h2,h3⟩
theorem gam_z {size:Nat} {R:RT α} {z:Mem} {F:List (Fg α)} (h:∀ d,d∈F.map Fg.d→CZ size R z d.1 d.2.2) (k:List UInt8):CZ size R z (uOg F k) (lOf F k):=by
 induction F with
 | nil=>exact .nil
 | cons x F ih =>
  simp only [lOf,uOg]
  by_cases hk:x.k=k
  ·rw [if_pos hk,if_pos hk];exact h x.d (by simp)
  rw [if_neg hk,if_neg hk];exact ih fun d hd=>h d (by rw [List.map_cons];exact List.mem_cons_of_mem _ hd)
variable {call:Call'} {B:Base} {fs:Sf} {l:List I} {Q:Sf→Prop}
theorem fl_gam {ty size ck c':Nat} {k:List UInt8} {F F1 F2:List (Fg α)} {x:Fg α} {p q:List HA} (e:fs.H=p++gamR ty size F::q) (h:(F1++x::F2=F∧c'=ck)∨(F1=F∧F2=[]∧x=emptyG k ck∧c'=ck+1)) (hw:FL call B l (fs.heap (p++many ((F1.map (·.d)).map (rowT ty size)++rowT ty size x.d::(F2.map (·.d)).map (rowT ty size))::q)) Q):FL call B l fs Q:=by
 have e1:(F1.map (·.d)).map (rowT ty size)++rowT ty size x.d::(F2.map (·.d)).map (rowT ty size)=((F1++x::F2).map (·.d)).map (rowT ty size):=by simp
 rw [e1] at hw
 rcases h with ⟨h,_⟩ | ⟨rfl,rfl,rfl,_⟩
 ·rw [h,← e] at hw
  exact hw
 refine fl_addM ty size e ?_
 have e2:((F1++[(emptyG k ck:Fg α)]).map (·.d)).map (rowT ty size)=(F1.map (·.d)).map (rowT ty size)++[HA.row nilv ty size 0 []]:=by simp [rowT]
 rw [e2] at hw
 exact hw
theorem fl_gamE {ty size m n:Nat} {F1 F2:List (Fg α)} {u:C} {k:List UInt8} {cs:List C} {r:List α} {p q:List HA} (e:fs.H=p++many ((F1.map (·.d)).map (rowT ty size)++.row (.c u) ty size m cs::(F2.map (·.d)).map (rowT ty size))::q) (hm:r.length=m)
  (hw:FL call B l (fs.heap (p++gamR ty size (F1++⟨k,n,(u,cs,r)⟩::F2)::q)) Q):FL call B l fs Q:=by
 subst hm
 have e1:(F1.map (·.d)).map (rowT ty size)++.row (.c u) ty size r.length cs::(F2.map (·.d)).map (rowT ty size)=((F1++(⟨k,n,(u,cs,r)⟩:Fg α)::F2).map (·.d)).map (rowT ty size):=by simp [rowT]
 rw [e1] at e
 rw [← e] at hw
 exact hw
theorem fl_lookOkH {d:Nat} {str agg:Bool} {zero:List Value} {x k:Od} {b n:Nat} {key:Value} {es:List (Value×AV×Nat)} {r:Option AV} {v:AV} (hx:fs.ev x=.c (.mp b)) (hk:fs.ev k=.c (.v key)) (hm:HA.blk b (.mp es n)∈fs.H) (hf:findV str key es=some r) (hv:r.getD (mkAV agg (zero.map fun v=>.v v))=v)
    (hw:FL call B l (fs.put d (.tup [v,.c (.v (.bool r.isSome))])) Q):FL call B (⟨some d,none,.look str zero agg x k true⟩::l) fs Q:=fun st rf =>
  w_of (i_e (st' := st) (v := .tup [v, .c (.v (.bool r.isSome))]) rfl rfl (by
    have hmm:st.mem.get b=some (.mp es n):=rf.hold.h _ hm
    simp only [stepE,lookS,rf.ev,hk,hx,AV.val?,AS.ment,hmm,hf]
    subst hv
    cases r<;>rfl)) (hw _ (rf.put _ _))
end
section
variable {α:Type} {size:Nat} {R:RT α} [RMono R] {call:Call'} {B:Base} {fs:Sf} {l:List I} {Q:Sf→Prop} {d:Nat} {k:Nat} {c:XC} {QX:Exit→Sf→Prop}
theorem rf_frzR {st:AS} {u:AV} {ty n:Nat} {cs:List C} {r:List α} {p q:List HA} (rf:Rf B fs st) (e:fs.H=p++.row u ty size n cs::q) (hc:CL size R fs.z cs r) (hn:r.length=n) (hm:n≤9223372036854775807):∃ z',zle fs.z z'∧SZ size R z' u r∧Rf B ⟨fs.e,z',p++q⟩ st:=by
  obtain ⟨g1,g2⟩:=rf.hold.h (.row u ty size n cs) (by rw [e];simp)
  rcases g2 with ⟨h0,rfl⟩ | ⟨b,rfl,h3⟩
  · have hr0 : r = [] := List.eq_nil_of_length_eq_zero (by omega)
    subst hr0
    refine ⟨fs.z,zle.refl _,.nil,?_⟩
    have hsub:(p++q).Sublist fs.H:=by rw [e];exact (List.Sublist.refl p).append (List.sublist_cons_self _ _)
    exact ⟨rf.env,rf.hold.sub hsub,rf.le,rf.old,fun b hb=>rf.own b ((fps_sub hsub).subset hb),rf.zle,rf.zin⟩
  · have h1 := rf.frz (p := p) (q := q) (b := b) (k := .cells ty cs) (a := .row (.c (.sl b 0 n size)) ty size n cs) e rfl (fun m hm => by
      obtain ⟨_,hm⟩:=hm
      rcases hm with ⟨_,hm⟩ | ⟨b',hb',hm⟩
      · cases hm
      · injection hb' with hb';injection hb' with hb';subst hb';exact hm)
    exact ⟨_,⟨fun _ _ h=>.inl h⟩,(hc.mono ⟨fun _ _ h=>.inl h⟩).sz hn hm (.inr ⟨rfl,rfl⟩),h1⟩
theorem rf_frzMR {st:AS} {ty:Nat} {p q:List HA}:∀ (D:List (Ro α)) (fs:Sf),Rf B fs st→fs.H=p++many (D.map (rowT ty size))::q→(∀ d,d∈D→CL size R fs.z d.2.1 d.2.2∧d.2.2.length≤9223372036854775807) →
  ∃ z',zle fs.z z'∧(∀ d,d∈D→CZ size R z' d.1 d.2.2)∧Rf B ⟨fs.e,z',p++q⟩ st:=by
 intro D
 induction D with
 | nil =>
  intro fs rf e hD
  refine ⟨fs.z,zle.refl _,fun d hd=>absurd hd List.not_mem_nil,?_⟩
  exact rf.reH (H':=p++q) (by rw [e,fps_app,fps_app,fps_cons];exact List.Perm.refl _) fun x hx=>rf.hold.h x (by rw [e];rcases List.mem_append.1 hx with hx | hx<;>simp [hx])
 | cons d D ih =>
  intro fs rf e hD
  have r1:=rf.take (L1:=[]) (a:=rowT ty size d) (L2:=D.map (rowT ty size)) (p:=p) (q:=q) e
  have hd:=hD d (List.mem_cons_self ..)
  obtain ⟨z1,hz1,hs,r2⟩:=rf_frzR r1 (p:=[]) (q:=p++many (D.map (rowT ty size))::q) rfl hd.1 rfl hd.2
  obtain ⟨z2,hz2,hs2,r3⟩:=ih ⟨fs.e,z1,p++many (D.map (rowT ty size))::q⟩ r2 rfl (fun x hx=>⟨(hD x (List.mem_cons_of_mem _ hx)).1.mono hz1,(hD x (List.mem_cons_of_mem _ hx)).2⟩)
  refine ⟨z2,hz1.trans hz2,fun x hx=>?_,r3⟩
  rcases List.mem_cons.1 hx with rfl | hx
  ·exact SZ.mono hs hz2
  exact hs2 x hx
theorem fl_frzMR {ty:Nat} {p q:List HA} {D:List (Ro α)} (e:fs.H=p++many (D.map (rowT ty size))::q) (hD:∀ d,d∈D→CL size R fs.z d.2.1 d.2.2∧d.2.2.length≤9223372036854775807)
  (hw:∀ z',zle fs.z z'→(∀ d,d∈D→CZ size R z' d.1 d.2.2)→FL call B l ⟨fs.e,z',p++q⟩ Q):FL call B l fs Q:=fun st rf=>by
 obtain ⟨z',h1,h2,h3⟩:=rf_frzMR D fs rf e hD
 exact hw z' h1 h2 st h3
end
section
variable {call:Call'} {B:Base} {fs:Sf} {l:List I} {Q:Sf→Prop} {d:Nat} {k:Nat} {QX:Exit→Sf→Prop}
theorem fl_rngMZ {x:Od} {b ck:Nat} {es:Ents} (hx:fs.ev x=.c (.mp b)) (hm:fs.z b (.mp es ck)) (hw:∀ i,FL call B l (fs.own d (.c (.ptr i 0)) (.blk i (.mit b ck ck #[]))) Q):FL call B (⟨some d,none,.rngM x⟩::l) fs Q:=fun st r=>by
 have hmb:=(r.hold.z _ _ hm).1
 refine w_of (i_e (st':=st.new (.mit b ck ck #[])) (v:=.c (.ptr st.nx 0)) rfl rfl ?_) ?_
 ·simp only [stepE,r.ev,hx,hmb]
 exact hw st.nx _ ((r.new (a:=.blk st.nx (.mit b ck ck #[])) (by show (st.new _).mem.get st.nx=_;rw [new_mem,if_pos rfl]) rfl (fun b hb=>by show (st.new _).mem.get b=_;rw [new_mem,if_neg fun h=>hb h.symm])).put d _)
theorem elem_of {i:Nat} {l:List Nat} {b:Bool} (h:l.elem i=b):(b=true↔i∈l):=by
 subst h;exact List.elem_iff
theorem fx_mrangeZ {nx more it out r m ck i0:Nat} {v0:Value} {b:XC} {es:Ents} {p q:List HA} (bad:Value×AV×Nat→Prop) (hW:List.elem it (nx::more::b.dsts)=false) (hi0:List.elem i0 (nx::more::b.dsts)=true) (hit:fs.e it=.c (.ptr r 0)) (e:fs.H=p++.blk r (.mit m ck ck #[])::q) (hnd:(es.map fun e=>e.2.2).Nodup) (hlt:∀ e,e∈es→e.2.2<ck) (hm:fs.z m (.mp es ck))
    (round:∀ d,d∈es→∀ B z',zle fs.z z'→z' r (.mcur m d.2.2 ck)→FX call k B b ⟨dropF fs.e (nx::more::b.dsts),z',[]⟩ fun x fs'=>(x=.normal∧¬ bad d)∨(x=.ret∧bad d∧fs'.e i0=.c (.v v0)))
    (hw1:(∀ d,d∈es→¬ bad d)→QX (.exit out) ⟨dropF fs.e (nx::more::b.dsts),fs.z,p++q⟩) (hw2:∀ d,d∈es→bad d→∀ e',QX .ret ⟨eput e' i0 (.c (.v v0)),fs.z,p++q⟩):FX call k B (.mrange nx more it out b) fs QX:=
  fx_mrange fs.z bad (fun h => by have := (elem_of hW).2 h; cases this) ((elem_of hi0).1 rfl) hit e hnd hlt (fun mem n hh b k hb => ⟨(hh.z b k hb).1, (hh.z b k hb).2.1⟩) hm
    (fun d hd B=>round d hd B _ ⟨fun b k h=>.inl (.inl h)⟩ (.inr ⟨rfl,rfl⟩)) hw1 fun ⟨d,hd,hb⟩ e' he=>by
      have:=hw2 d hd hb e'
      rw [eput_self he] at this
      exact this
end
end Go.CE
