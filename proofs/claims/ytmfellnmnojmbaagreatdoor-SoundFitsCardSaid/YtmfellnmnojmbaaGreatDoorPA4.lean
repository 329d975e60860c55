/- A reckoner for closed calls, part 4: states as functions; rows of calls. -/
import Derived.WalkKit
import Derived.Orders
import Init
import Derived.KernelRfl
import Derived.Laws.Externs
import Derived.Lib.Bytealg
import Derived.ProofKit
import Derived.Test.YtmfellnmnojmbaaGreatDoorPA3
set_option linter.unusedVariables false
set_option linter.unusedSimpArgs false
namespace Go.CE
open Go.RowKit
open Go.Eng (Od need need_pos need_some setL binV binBV)
def Wp (r:Option AS) (Q:AS→Prop):Prop:=match r with
 | some st=>Q st
 | none=>False
section
variable {call:Call'} {st:AS} {d:Nat}
theorem wp_go {i:I} {l:List I} {st':AS} {Q:AS→Prop} (h:evI call i st=some st'):Wp (evL call (i::l) st) Q=Wp (evL call l st') Q:=by simp only [evL,h]
theorem i_of {o:Ins} {v:AV} {mem:Tr Blk} {nx:Nat} (h:evV call o st=some (v,mem,nx)):evI call ⟨some d,none,o⟩ st=some ((⟨st.env,mem,nx⟩:AS).put d v):=by simp only [evI,gOk,h];rfl
theorem i_none {o:Ins} {v:AV} {mem:Tr Blk} {nx:Nat} (h:evV call o st=some (v,mem,nx)):evI call ⟨none,none,o⟩ st=some (⟨st.env,mem,nx⟩:AS):=by simp only [evI,gOk,h];rfl
theorem i_q {o:Ins} {v:AV} (hc:callee st o=none) (h:stepQ o st=some v):evI call ⟨some d,none,o⟩ st=some (st.put d v):=i_of (by simp only [evV,hc,h])
theorem i_gd {dd:Option Nat} {s:Nat} {want:Bool} {o:Ins} (h:st.get s=.c (.v (.bool want))):evI call ⟨dd,some (s,want),o⟩ st=evI call ⟨dd,none,o⟩ st:=by
 simp only [evI,gOk,gd,h]
 cases want<;>rfl
theorem i_gx {s:Nat} {want:Bool} {o:Ins} (h:st.get s=.c (.v (.bool (!want)))):evI call ⟨some d,some (s,want),o⟩ st=some (st.put d (.tup [])):=by
 simp only [evI,gOk,gd,h]
 cases want<;>rfl
theorem i_gt {s:Nat} {want:Bool} {o:Ins} (h:st.get s=.tup []):evI call ⟨some d,some (s,want),o⟩ st=some (st.put d (.tup [])):=by
 simp only [evI,gOk,gd,h];rfl
theorem i_mv {x:Od}:evI call ⟨some d,none,.mv x⟩ st=some (st.put d (st.ev x)):=i_q rfl rfl
theorem i_bin {op:BinOp} {x y:Od} {u v r:Value} (hx:st.ev x=.c (.v u)) (hy:st.ev y=.c (.v v)) (h:binW op u v=some r):evI call ⟨some d,none,.bin op x y⟩ st=some (st.put d (.c (.v r))):=i_q rfl (by simp only [stepQ,hx,hy,AV.val?,h];rfl)
theorem i_un {op:UnOp} {x:Od} {u r:Value} (hx:st.ev x=.c (.v u)) (h:unW op u=some r):evI call ⟨some d,none,.un op x⟩ st=some (st.put d (.c (.v r))):=i_q rfl (by simp only [stepQ,hx,AV.val?,h];rfl)
theorem i_iad {size:Nat} {x i:Od} {b o n:Nat} {kd:IntKind} {j:Nat} (hx:st.ev x=.c (.sl b o n size)) (hi:st.ev i=.c (.v (.int kd (j:Nat)))) (h:j<n):evI call ⟨some d,none,.iad size x i⟩ st=some (st.put d (.c (.ptr b (o+j * size)))):=
 i_q rfl (by simp only [stepQ,hx,hi,AV.int?];rw [need_pos ⟨trivial,by simp,by simp;omega⟩];simp)
theorem i_pick {c a b:Od} {t:Bool} (h:st.ev c=.c (.v (.bool t))):evI call ⟨some d,none,.pick c a b⟩ st=some (st.put d (if t=true then st.ev a else st.ev b)):=i_q rfl (by simp only [stepQ,h,AV.bool?])
variable {l:List I} {Q:AS→Prop}
theorem w_nil (h:Q st):Wp (evL call [] st) Q:=h
theorem w_of {i:I} {st':AS} (h:evI call i st=some st') (hw:Wp (evL call l st') Q):Wp (evL call (i::l) st) Q:=by rw [wp_go h];exact hw
theorem w_mv {x:Od} {v:AV} (hx:st.ev x=v) (hw:Wp (evL call l (st.put d v)) Q):Wp (evL call (⟨some d,none,.mv x⟩::l) st) Q:=w_of i_mv (by rw [hx];exact hw)
theorem w_bin {op:BinOp} {x y:Od} {u v r:Value} (hx:st.ev x=.c (.v u)) (hy:st.ev y=.c (.v v)) (h:binW op u v=some r) (hw:Wp (evL call l (st.put d (.c (.v r)))) Q):Wp (evL call (⟨some d,none,.bin op x y⟩::l) st) Q:=w_of (i_bin hx hy h) hw
theorem w_un {op:UnOp} {x:Od} {u r:Value} (hx:st.ev x=.c (.v u)) (h:unW op u=some r) (hw:Wp (evL call l (st.put d (.c (.v r)))) Q):Wp (evL call (⟨some d,none,.un op x⟩::l) st) Q:=w_of (i_un hx h) hw
theorem w_iad {size:Nat} {x i:Od} {b o n:Nat} {kd:IntKind} {j:Nat} (hx:st.ev x=.c (.sl b o n size)) (hi:st.ev i=.c (.v (.int kd (j:Nat)))) (h:j<n) (hw:Wp (evL call l (st.put d (.c (.ptr b (o+j * size))))) Q):Wp (evL call (⟨some d,none,.iad size x i⟩::l) st) Q:=w_of (i_iad hx hi h) hw
theorem w_pick {c a b:Od} {t:Bool} {v:AV} (h:st.ev c=.c (.v (.bool t))) (hv:(if t=true then st.ev a else st.ev b)=v) (hw:Wp (evL call l (st.put d v)) Q):Wp (evL call (⟨some d,none,.pick c a b⟩::l) st) Q:=w_of (i_pick h) (by rw [hv];exact hw)
theorem w_gd {dd:Option Nat} {s:Nat} {want:Bool} {o:Ins} (h:st.get s=.c (.v (.bool want))) (hw:Wp (evL call (⟨dd,none,o⟩::l) st) Q):Wp (evL call (⟨dd,some (s,want),o⟩::l) st) Q:=by
 simp only [evL,i_gd h]
 exact hw
theorem w_gx {s:Nat} {want:Bool} {o:Ins} (h:st.get s=.c (.v (.bool (!want)))) (hw:Wp (evL call l (st.put d (.tup []))) Q):Wp (evL call (⟨some d,some (s,want),o⟩::l) st) Q:=w_of (i_gx h) hw
theorem w_gt {s:Nat} {want:Bool} {o:Ins} (h:st.get s=.tup []) (hw:Wp (evL call l (st.put d (.tup []))) Q):Wp (evL call (⟨some d,some (s,want),o⟩::l) st) Q:=w_of (i_gt h) hw
theorem b_lss (k:IntKind) (a b:Int):binW .lss (.int k a) (.int k b)=some (.bool (decide (a<b))):=by simp [binW,binV,need]
theorem b_geq (k:IntKind) (a b:Int):binW .geq (.int k a) (.int k b)=some (.bool (decide (b≤a))):=by simp [binW,binV,need]
theorem b_eql (k:IntKind) (a b:Int):binW .eql (.int k a) (.int k b)=some (.bool (decide (a=b))):=by
 simp only [binW,binV,need,if_true]
 congr 2
theorem b_add (k:IntKind) (a b:Int):binW .add (.int k a) (.int k b)=some (.int k (k.wrap (a+b))):=by simp [binW,binV,need]
end
def Wx (r:Option (Exit×AS)) (Q:Exit→AS→Prop):Prop:=match r with
 | some (e,st)=>Q e st
 | none=>False
def onN (Qn:AS→Prop) (Q:Exit→AS→Prop):Exit→AS→Prop:=fun e st=>match e with
 | .normal=>Qn st
 | e=>Q e st
theorem Wx.mono {r:Option (Exit×AS)} {Q R:Exit→AS→Prop} (h:Wx r Q) (g:∀ e st,Q e st→R e st):Wx r R:=by
 cases r with
 | none=>exact h
 | some p=>exact g _ _ h
section
variable {call:Call'} {k:Nat} {st:AS} {Q:Exit→AS→Prop}
theorem wx_region {l:List I} (h:Wp (evL call l st) (Q .normal)):Wx (evX call k (.region l) st) Q:=by
 simp only [evX]
 cases he:evL call l st with
 | none=>rw [he] at h;exact h
 | some st'=>rw [he] at h;exact h
theorem wx_seq {a b:XC} (h:Wx (evX call k a st) (onN (fun st=>Wx (evX call k b st) Q) Q)):Wx (evX call k (.seq a b) st) Q:=by
 simp only [evX]
 cases he:evX call k a st with
 | none=>rw [he] at h;exact h
 | some p =>
  obtain ⟨e,st'⟩:=p
  rw [he] at h
  cases e<;>exact h
theorem wx_cond {c:Od} {a b:XC} {t:Bool} (hc:st.ev c=.c (.v (.bool t))) (h:Wx (evX call k (if t=true then a else b) st) Q):Wx (evX call k (.cond c a b) st) Q:=by
 simp only [evX,hc,AV.bool?]
 cases t<;>exact h
theorem wx_block {id:Nat} {b:XC} (h:Wx (evX call k b st) (fun e=>Q (blockE id e))):Wx (evX call k (.block id b) st) Q:=by
 simp only [evX]
 cases he:evX call k b st with
 | none=>rw [he] at h;exact h
 | some p=>rw [he] at h;exact h
theorem wx_loop {b:XC} (h:Wx (evLoop (evX call k b) k st) Q):Wx (evX call k (.loop b) st) Q:=h
theorem wx_more {body:AS→Option (Exit×AS)} {n:Nat} (h:Wx (body st) (onN (fun st=>Wx (evLoop body n st) Q) Q)):Wx (evLoop body (n+1) st) Q:=by
 simp only [evLoop]
 cases he:body st with
 | none=>rw [he] at h;exact h
 | some p =>
  obtain ⟨e,st'⟩:=p
  rw [he] at h
  cases e<;>exact h
end
open Go.RowKit
open Go.Eng (Od need need_pos need_some setL binV binBV)
section
variable {call:Call'} {st:AS} {d:Nat} {l:List I} {Q:AS→Prop}
theorem new_mem (k:Blk) (i:Nat):(st.new k).mem.get i=if st.nx=i then some k else st.mem.get i:=by
 show (Tr.put (st.nx+1) st.mem st.nx (some k)).get i=_
 rw [Tr.get_put _ _ _ _ _ (by omega)]
theorem setB_mem (b:Nat) (k:Blk) (i:Nat):(st.setB b k).mem.get i=if b=i then some k else st.mem.get i:=by
 show (Tr.put (b+1) st.mem b (some k)).get i=_
 rw [Tr.get_put _ _ _ _ _ (by omega)]
theorem i_e {o:Ins} {v:AV} {st':AS} (hc:callee st o=none) (hq:stepQ o st=none) (h:stepE o st=some (st',v)):evI call ⟨some d,none,o⟩ st=some ((⟨st.env,st'.mem,st'.nx⟩:AS).put d v):=i_of (by simp only [evV,hc,hq,h])
theorem i_e0 {o:Ins} {v:AV} {st':AS} (hc:callee st o=none) (hq:stepQ o st=none) (h:stepE o st=some (st',v)):evI call ⟨none,none,o⟩ st=some (⟨st.env,st'.mem,st'.nx⟩:AS):=i_none (v:=v) (by simp only [evV,hc,hq,h])
theorem w_call {f:Nat} {args:List Od} {vs:List AV} {v:AV} {mem:Tr Blk} {nx:Nat} (ha:args.map st.ev=vs) (h:call f vs st.mem st.nx=some (v,mem,nx)) (hw:Wp (evL call l ((⟨st.env,mem,nx⟩:AS).put d v)) Q):Wp (evL call (⟨some d,none,.call f args⟩::l) st) Q:=
 w_of (i_of (by simp only [evV,callee,ha,h])) hw
end
open Go.Eng (Od)
section
variable {call:Call'} {st:AS} {d:Nat} {l:List I} {Q:AS→Prop}
theorem u_not (b:Bool):unW .not (.bool b)=some (.bool (!b)):=rfl
end
open Go.RowKit
open Go.Eng (Od need need_pos need_some setL binV binBV)
theorem wrap_in {z:Int} (h : -9223372036854775808≤z) (h':z<9223372036854775808):IntKind.i64.wrap z=z:=by
 simp [IntKind.wrap,IntKind.bits,IntKind.signed]
 omega
open Go.RowKit
open Go.Eng (Od need need_pos need_some setL binV binBV)
abbrev Env:=Nat→AV
def eput (e:Env) (d:Nat) (v:AV):Env:=fun i=>cond (Nat.beq d i) v (e i)
def eputs (e:Env):List (Nat×AV)→Env
 | []=>e
 | p::l=>eput (eputs e l) p.1 p.2
theorem eput_get (e:Env) (d i:Nat) (v:AV):eput e d v i=if d=i then v else e i:=by
 unfold eput
 by_cases h:d=i
 ·subst h;simp
 ·rw [if_neg h]
  have:Nat.beq d i=false:=by
   cases hb:Nat.beq d i with
   | false=>rfl
   | true=>exact absurd (Nat.eq_of_beq_eq_true hb) h
  rw [this];rfl
theorem eput_self {e:Env} {d:Nat} {v:AV} (h:e d=v):eput e d v=e:=by
 funext i
 rw [eput_get]
 split
 ·rename_i hh;rw [← hh,h]
 ·rfl
abbrev nilv:AV:=.c (.v (.slice none 0 0))
inductive HA where
 | blk (b:Nat) (k:Blk)
 | row (u:AV) (ty size n:Nat) (cs:List C)
def HA.fp:HA→List Nat
 | .blk b _=>[b]
 | .row u _ _ _ _=>match u with
  | .c (.sl b _ _ _)=>[b]
  | _=>[]
def HA.ok (m:Tr Blk):HA→Prop
 | .blk b k=>m.get b=some k
 | .row u ty size n cs=>cs.length=n * size∧((n=0∧u=nilv)∨∃ b,u=.c (.sl b 0 n size)∧m.get b=some (.cells ty cs))
def fps (H:List HA):List Nat:=H.flatMap HA.fp
theorem fps_cons (a:HA) (H:List HA):fps (a::H)=a.fp++fps H:=rfl
theorem fps_app (H H':List HA):fps (H++H')=fps H++fps H':=by simp [fps]
theorem HA.ok_of {a:HA} {m m':Tr Blk} (h:a.ok m) (hm:∀ b,b∈a.fp→m'.get b=m.get b):a.ok m':=by
 cases a with
 | blk b k=>show m'.get b=some k;rw [hm b (by simp [HA.fp])];exact h
 | row u ty size n cs =>
  obtain ⟨h1,h2⟩:=h
  refine ⟨h1,?_⟩
  rcases h2 with h2 | ⟨b,rfl,h3⟩
  ·exact .inl h2
  ·exact .inr ⟨b,rfl,by rw [hm b (by simp [HA.fp])];exact h3⟩
structure Hold (z:Mem) (H:List HA) (m:Tr Blk) (nx:Nat):Prop where
 z:∀ b k,z b k→m.get b=some k∧b<nx∧b ∉ fps H
 h:∀ a,a∈H→a.ok m
 lt:∀ b,b∈fps H→b<nx
 nd:(fps H).Nodup
def zle (z z':Mem):Prop:=∀ b k,z b k→z' b k
theorem zle.refl (z:Mem):zle z z:=fun _ _ h=>h
structure Sf where
 e:Env
 z:Mem
 H:List HA
def Sf.put (fs:Sf) (d:Nat) (v:AV):Sf:=⟨eput fs.e d v,fs.z,fs.H⟩
def Sf.own (fs:Sf) (d:Nat) (v:AV) (a:HA):Sf:=⟨eput fs.e d v,fs.z,a::fs.H⟩
def Sf.heap (fs:Sf) (H:List HA):Sf:=⟨fs.e,fs.z,H⟩
def Sf.res (fs:Sf) (d:Nat) (v:AV) (z:Mem) (H:List HA):Sf:=⟨eput fs.e d v,z,H⟩
def Sf.frz (fs:Sf) (z:Mem) (H:List HA):Sf:=⟨fs.e,z,H⟩
def Sf.ev (fs:Sf):Od→AV
 | .t i=>fs.e i
 | .k v=>avk v
 | .f f=>.c (.fn f [] [])
 | .bad=>.any
structure Base where
 m:Tr Blk
 n:Nat
 z:Mem
 L:List Nat
structure Rf (B:Base) (fs:Sf) (st:AS):Prop where
 env:∀ i,st.get i=fs.e i
 hold:Hold fs.z fs.H st.mem st.nx
 le:B.n≤st.nx
 old:∀ b,b<B.n→b ∉ B.L→st.mem.get b=B.m.get b
 own:∀ b,b∈fps fs.H→B.n≤b∨b∈B.L
 zle:zle B.z fs.z
 zin:∀ b k,fs.z b k→B.z b k∨B.n≤b∨b∈B.L
section
variable {B:Base} {fs:Sf} {st:AS}
theorem Rf.ev (h:Rf B fs st) (x:Od):st.ev x=fs.ev x:=by
 cases x with
 | t i=>exact h.env i
 | _=>rfl
theorem Rf.put (h:Rf B fs st) (d:Nat) (v:AV):Rf B (fs.put d v) (st.put d v):=by
 refine ⟨fun i=>?_,h.hold,h.le,h.old,h.own,h.zle,h.zin⟩
 rw [get_put,show (fs.put d v).e=eput fs.e d v from rfl,eput_get]
 split
 ·rfl
 ·exact h.env i
theorem Hold.new {z:Mem} {H:List HA} {m m':Tr Blk} {nx:Nat} (h:Hold z H m nx) (a:HA) (ha:a.ok m') (hfp:a.fp=[nx]) (hm:∀ b,b≠nx→m'.get b=m.get b):Hold z (a::H) m' (nx+1):=by
 have hne:∀ b,b∈fps H→b≠nx:=fun b hb e=>by have:=h.lt b hb;omega
 refine ⟨fun b k hb=>?_,fun x hx=>?_,fun b hb=>?_,?_⟩
 ·obtain ⟨h1,h2,h3⟩:=h.z b k hb
  refine ⟨by rw [hm b (by omega)];exact h1,by omega,?_⟩
  rw [fps_cons,hfp]
  simp only [List.singleton_append,List.mem_cons,not_or]
  exact ⟨by omega,h3⟩
 ·rcases List.mem_cons.1 hx with rfl | hx
  ·exact ha
  ·refine HA.ok_of (h.h x hx) fun b hb=>hm b (hne b ?_)
   exact List.mem_flatMap.2 ⟨x,hx,hb⟩
 ·rw [fps_cons,hfp] at hb
  rcases List.mem_cons.1 hb with rfl | hb
  ·omega
  ·have:=h.lt b hb;omega
 ·rw [fps_cons,hfp]
  exact List.nodup_cons.2 ⟨fun hb=>hne _ hb rfl,h.nd⟩
theorem Rf.new (h:Rf B fs st) {a:HA} {m':Tr Blk} (ha:a.ok m') (hfp:a.fp=[st.nx]) (hm:∀ b,b≠st.nx→m'.get b=st.mem.get b):Rf B ⟨fs.e,fs.z,a::fs.H⟩ ⟨st.env,m',st.nx+1⟩:=by
 refine ⟨h.env,h.hold.new a ha hfp hm,Nat.le_succ_of_le h.le,fun b hb hl=>?_,fun b hb=>?_,h.zle,h.zin⟩
 ·have:=h.le
  exact (hm b (by omega)).trans (h.old b hb hl)
 ·have hb:b∈fps (a::fs.H):=hb
  rw [fps_cons,hfp] at hb
  rcases List.mem_cons.1 hb with rfl | hb
  ·exact .inl h.le
  ·exact h.own b hb
end
inductive Rep1:List HA→HA→HA→List HA→Prop where
 | head (a a':HA) (l:List HA):Rep1 (a::l) a a' (a'::l)
 | tail (x a a':HA) (l l':List HA) (h:Rep1 l a a' l'):Rep1 (x::l) a a' (x::l')
theorem rep0 {a a':HA} {l:List HA}:Rep1 (a::l) a a' (a'::l):=.head ..
theorem repS {x a a':HA} {l l':List HA} (h:Rep1 l a a' l'):Rep1 (x::l) a a' (x::l'):=.tail _ _ _ _ _ h
theorem Rep1.mem {l l':List HA} {a a':HA} (h:Rep1 l a a' l'):a∈l:=by
 induction h with
 | head=>simp
 | tail x a a' l l' h ih=>simp [ih]
theorem Rep1.split {l l':List HA} {a a':HA} (h:Rep1 l a a' l'):∃ p q,l=p++a::q∧l'=p++a'::q:=by
 induction h with
 | head a a' l=>exact ⟨[],l,rfl,rfl⟩
 | tail x a a' l l' h ih =>
  obtain ⟨p,q,rfl,rfl⟩:=ih
  exact ⟨x::p,q,rfl,rfl⟩
theorem mem_fps {H:List HA} {b:Nat}:b∈fps H↔∃ a,a∈H∧b∈a.fp:=by simp [fps,List.mem_flatMap]
section
variable {B:Base} {fs:Sf} {st:AS}
theorem Rf.rep (h:Rf B fs st) {a a':HA} {H':List HA} {m':Tr Blk} {nx':Nat} (hr:Rep1 fs.H a a' H') (hn:st.nx≤nx') (ha:a'.ok m') (hf:∀ b,b∈a'.fp→b∈a.fp∨(st.nx≤b∧b<nx')) (hnd:a'.fp.Nodup)
  (hm:∀ b,b<st.nx→b ∉ a.fp→m'.get b=st.mem.get b):Rf B ⟨fs.e,fs.z,H'⟩ ⟨st.env,m',nx'⟩:=by
 obtain ⟨p,q,e1,e2⟩:=hr.split
 subst e2
 have hH:=h.hold
 rw [e1] at hH
 have hown:=h.own
 rw [e1] at hown
 have hnd0:=hH.nd
 rw [fps_app,fps_cons] at hnd0
 obtain ⟨n1,n2,n3⟩:=List.nodup_append.1 hnd0
 obtain ⟨n4,n5,n6⟩:=List.nodup_append.1 n2
 have hin:∀ b,b∈fps p∨b∈fps q→b ∉ a.fp∧b<st.nx:=by
  intro b hb
  refine ⟨fun hba=>?_,hH.lt b (by rw [fps_app,fps_cons];simp;rcases hb with hb | hb<;>simp [hb])⟩
  rcases hb with hb | hb
  ·exact n3 b hb b (by simp [hba]) rfl
  ·exact n6 b hba b hb rfl
 refine ⟨h.env,⟨fun b k hb=>?_,fun x hx=>?_,fun b hb=>?_,?_⟩,Nat.le_trans h.le hn,fun b hb hl=>?_,fun b hb=>?_,h.zle,h.zin⟩
 ·obtain ⟨h1,h2,h3⟩:=hH.z b k hb
  rw [fps_app,fps_cons] at h3 ⊢
  simp only [List.mem_append,not_or] at h3 ⊢
  refine ⟨by rw [hm b h2 h3.2.1];exact h1,Nat.lt_of_lt_of_le h2 hn,h3.1,fun hb2=>?_,h3.2.2⟩
  rcases hf b hb2 with h4 | h4
  ·exact h3.2.1 h4
  ·omega
 ·simp only [List.mem_append,List.mem_cons] at hx
  have hk:∀ x,x∈p∨x∈q→x.ok m':=fun x hx=>by
   refine HA.ok_of (hH.h x (by simp;rcases hx with hx | hx<;>simp [hx])) fun b hb=>?_
   have:=hin b (by rcases hx with hx | hx;exact .inl (mem_fps.2 ⟨x,hx,hb⟩);exact .inr (mem_fps.2 ⟨x,hx,hb⟩))
   exact hm b this.2 this.1
  rcases hx with hx | rfl | hx
  ·exact hk x (.inl hx)
  ·exact ha
  ·exact hk x (.inr hx)
 ·rw [fps_app,fps_cons] at hb
  simp only [List.mem_append] at hb
  rcases hb with hb | hb | hb
  ·exact Nat.lt_of_lt_of_le (hin b (.inl hb)).2 hn
  ·rcases hf b hb with h4 | h4
   ·exact Nat.lt_of_lt_of_le (hH.lt b (by rw [fps_app,fps_cons];simp [h4])) hn
   ·exact h4.2
  ·exact Nat.lt_of_lt_of_le (hin b (.inr hb)).2 hn
 ·rw [fps_app,fps_cons]
  have hd:∀ b,b∈fps p∨b∈fps q→b ∉ a'.fp:=fun b hb hb2=>by
   have:=hin b hb
   rcases hf b hb2 with h4 | h4
   ·exact this.1 h4
   ·omega
  refine List.nodup_append.2 ⟨n1,List.nodup_append.2 ⟨hnd,n5,fun x hx y hy e=>?_⟩,fun x hx y hy e=>?_⟩
  ·subst e;exact hd x (.inr hy) hx
  ·subst e
   rcases List.mem_append.1 hy with hy | hy
   ·exact hd x (.inl hx) hy
   ·exact n3 x hx x (by simp [hy]) rfl
 ·have hb1:b<st.nx:=Nat.lt_of_lt_of_le hb h.le
  refine (hm b hb1 fun hba=>?_).trans (h.old b hb hl)
  rcases hown b (by rw [fps_app,fps_cons];simp [hba]) with h1 | h1
  ·omega
  ·exact hl h1
 ·have hb:b∈fps (p++a'::q):=hb
  rw [fps_app,fps_cons] at hb
  simp only [List.mem_append] at hb
  rcases hb with hb | hb | hb
  ·exact hown b (by rw [fps_app,fps_cons];simp [hb])
  ·rcases hf b hb with h4 | h4
   ·exact hown b (by rw [fps_app,fps_cons];simp [h4])
   ·exact .inl (Nat.le_trans h.le h4.1)
  ·exact hown b (by rw [fps_app,fps_cons];simp [hb])
theorem Rf.frz (h:Rf B fs st) {p q:List HA} {b:Nat} {k:Blk} {a:HA} (e:fs.H=p++a::q) (hfp:a.fp=[b]) (ha:∀ m,a.ok m→m.get b=some k):Rf B ⟨fs.e,fun x y=>fs.z x y∨(x=b∧y=k),p++q⟩ st:=by
 have hH:=h.hold
 rw [e] at hH
 have hown:=h.own
 rw [e] at hown
 have hnd0:=hH.nd
 rw [fps_app,fps_cons,hfp] at hnd0
 have hbk:=ha _ (hH.h a (by simp))
 have hnb:b ∉ fps (p++q):=by
  rw [fps_app]
  obtain ⟨n1,n2,n3⟩:=List.nodup_append.1 hnd0
  simp only [List.mem_append,not_or]
  refine ⟨fun hb=>n3 b hb b (by simp) rfl,fun hb=>?_⟩
  exact (List.nodup_cons.1 n2).1 hb
 refine ⟨h.env,⟨fun x y hx=>?_,fun x hx=>?_,fun x hx=>?_,?_⟩,h.le,h.old,fun x hx=>?_,fun x y hx=>.inl (h.zle x y hx),fun x y hx=>?_⟩
 ·rcases hx with hx | ⟨rfl,rfl⟩
  ·obtain ⟨h1,h2,h3⟩:=hH.z x y hx
   refine ⟨h1,h2,fun h4=>h3 ?_⟩
   rw [fps_app] at h4 ⊢
   rw [fps_cons]
   simp only [List.mem_append] at h4 ⊢
   rcases h4 with h4 | h4<;>simp [h4]
  ·exact ⟨hbk,hH.lt _ (by rw [fps_app,fps_cons,hfp];simp),hnb⟩
 ·refine hH.h x ?_
  simp only [List.mem_append,List.mem_cons] at hx ⊢
  rcases hx with hx | hx<;>simp [hx]
 ·refine hH.lt x ?_
  have hx:x∈fps (p++q):=hx
  rw [fps_app] at hx ⊢
  rw [fps_cons]
  simp only [List.mem_append] at hx ⊢
  rcases hx with hx | hx<;>simp [hx]
 ·rw [fps_app]
  obtain ⟨n1,n2,n3⟩:=List.nodup_append.1 hnd0
  exact List.nodup_append.2 ⟨n1,(List.nodup_cons.1 n2).2,fun x hx y hy=>n3 x hx y (by simp [hy])⟩
 ·refine hown x ?_
  have hx:x∈fps (p++q):=hx
  rw [fps_app] at hx ⊢
  rw [fps_cons]
  simp only [List.mem_append] at hx ⊢
  rcases hx with hx | hx<;>simp [hx]
 ·rcases hx with hx | ⟨rfl,rfl⟩
  ·exact h.zin x y hx
  ·exact .inr (hown x (by rw [fps_app,fps_cons,hfp];simp))
end
def FL (call:Call') (B:Base) (l:List I) (fs:Sf) (Q:Sf→Prop):Prop:=∀ st,Rf B fs st→Wp (evL call l st) fun st'=>∃ fs',Rf B fs' st'∧Q fs'
def FX (call:Call') (k:Nat) (B:Base) (c:XC) (fs:Sf) (Q:Exit→Sf→Prop):Prop:=∀ st,Rf B fs st→Wx (evX call k c st) fun e st'=>∃ fs',Rf B fs' st'∧Q e fs'
def seqQ (Qn:Sf→Prop) (Q:Exit→Sf→Prop):Exit→Sf→Prop:=fun e fs=>match e with
 | .normal=>Qn fs
 | e=>Q e fs
section
variable {call:Call'} {k:Nat} {B:Base} {fs:Sf} {Q:Exit→Sf→Prop}
theorem fx_region {l:List I} (h:FL call B l fs (Q .normal)):FX call k B (.region l) fs Q:=fun st r=>wx_region (h st r)
theorem fx_seq {a b : XC} (h : FX call k B a fs (seqQ (fun fs' => FX call k B b fs' Q) Q)) : FX call k B (.seq a b) fs Q := fun st r => wx_seq ((h st r).mono fun e st' ⟨fs', r', q⟩ => by
  cases e with
  | normal=>exact q st' r'
  | _=>exact ⟨fs',r',q⟩)
theorem fx_sr {l:List I} {b:XC} (h:FL call B l fs (fun fs'=>FX call k B b fs' Q)):FX call k B (.seq (.region l) b) fs Q:=fx_seq (fx_region h)
theorem fx_of {c c':XC} (he:∀ st,evX call k c st=evX call k c' st) (h:FX call k B c' fs Q):FX call k B c fs Q:=fun st r=>by rw [he];exact h st r
theorem fx_ss {a b c : XC} (h : FX call k B (.seq a (.seq b c)) fs Q) : FX call k B (.seq (.seq a b) c) fs Q := fx_of (fun st => by
  simp only [evX]
  cases evX call k a st with
  | none=>rfl
  | some p=>obtain ⟨e,st1⟩:=p;cases e<;>rfl) h
theorem fx_kseq {r:XC} (h:FX call k B r fs Q):FX call k B (.seq .skip r) fs Q:=fx_of (fun _=>rfl) h
theorem fx_eseq {id:Nat} {r:XC} (h:Q (.exit id) fs):FX call k B (.seq (.exit id) r) fs Q:=fun st rf=>⟨fs,rf,h⟩
theorem fx_skip (h:Q .normal fs):FX call k B .skip fs Q:=fun st rf=>⟨fs,rf,h⟩
theorem fx_ret (h:Q .ret fs):FX call k B .ret fs Q:=fun st rf=>⟨fs,rf,h⟩
theorem fx_block {id:Nat} {b:XC} (h:FX call k B b fs fun e=>Q (blockE id e)):FX call k B (.block id b) fs Q:=fun st r=>wx_block (h st r)
theorem fx_condB {c:Od} {a b:XC} {t:Bool} (hc:fs.ev c=.c (.v (.bool t))) (h1:t=true→FX call k B a fs Q) (h2:t=false→FX call k B b fs Q):FX call k B (.cond c a b) fs Q:=fun st r=>by
 refine wx_cond (t:=t) (by rw [r.ev];exact hc) ?_
 cases t with
 | true=>exact h1 rfl st r
 | false=>exact h2 rfl st r
theorem fx_condD {c:Od} {a b:XC} {P:Prop} [Decidable P] (hc:fs.ev c=.c (.v (.bool (decide P)))) (h1:P→FX call k B a fs Q) (h2:¬ P→FX call k B b fs Q):FX call k B (.cond c a b) fs Q:=
 fx_condB hc (fun h=>h1 (of_decide_eq_true h)) (fun h=>h2 (of_decide_eq_false h))
theorem fx_condT {c:Od} {a b:XC} (hc:fs.ev c=.c (.v (.bool true))) (h:FX call k B a fs Q):FX call k B (.cond c a b) fs Q:=fx_condB hc (fun _=>h) (fun h=>by cases h)
theorem fx_cseq {c : Od} {a b r : XC} (h : FX call k B (.cond c (.seq a r) (.seq b r)) fs Q) : FX call k B (.seq (.cond c a b) r) fs Q := fx_of (fun st => by
  simp only [evX]
  cases (st.ev c).bool? with
  | none=>rfl
  | some t=>cases t<;>rfl) h
theorem sq_n {Qn:Sf→Prop} (h:Qn fs):seqQ Qn Q .normal fs:=h
theorem sq_r {Qn:Sf→Prop} (h:Q .ret fs):seqQ Qn Q .ret fs:=h
def LQ (I:Nat→Sf→Prop) (n:Nat) (Q:Exit→Sf→Prop):Exit→Sf→Prop:=fun e fs=>match e with
 | .normal=>∃ n',n'<n∧I n' fs
 | e=>Q e fs
theorem lq_n {I:Nat→Sf→Prop} {n n':Nat} (h:n'<n) (hi:I n' fs):LQ I n Q .normal fs:=⟨n',h,hi⟩
theorem lq_r {I:Nat→Sf→Prop} {n:Nat} (h:Q .ret fs):LQ I n Q .ret fs:=h
theorem lq_e {I:Nat→Sf→Prop} {n id:Nat} (h:Q (.exit id) fs):LQ I n Q (.exit id) fs:=h
theorem fx_loop {b:XC} (I:Nat→Sf→Prop) (step:∀ n fs,I n fs→FX call k B b fs (LQ I n Q)) (n:Nat) (h0:I n fs) (hk:n<k):FX call k B (.loop b) fs Q:=by
 have key:∀ (n:Nat) (j:Nat) (fs:Sf) (st:AS),n<j→I n fs→Rf B fs st→Wx (evLoop (evX call k b) j st) fun e st'=>∃ fs',Rf B fs' st'∧Q e fs':=by
  intro n
  induction n using Nat.strongRecOn with
  | ind n ih =>
   intro j fs st hj hi r
   obtain ⟨j,rfl⟩:∃ i,j=i+1:=⟨j - 1,by omega⟩
   refine wx_more ((step n fs hi st r).mono fun e st' ⟨fs',r',q⟩=>?_)
   cases e with
   | normal =>
    obtain ⟨n',hn,hi'⟩:=q
    exact ih n' hn j fs' st' (by omega) hi' r'
   | _=>exact ⟨fs',r',q⟩
 exact fun st r=>wx_loop (key n k fs st hk h0 r)
inductive AtL (e:Env):List (Nat×AV)→Prop where
 | nil:AtL e []
 | cons (i:Nat) (v:AV) (l:List (Nat×AV)) (h:e i=v) (t:AtL e l):AtL e ((i,v)::l)
theorem atn {e:Env}:AtL e []:=.nil
theorem atc {e:Env} {i:Nat} {v:AV} {l:List (Nat×AV)} (h:e i=v) (t:AtL e l):AtL e ((i,v)::l):=.cons i v l h t
theorem AtL.eq {e:Env} {l:List (Nat×AV)} (h:AtL e l):eputs e l=e:=by
 induction h with
 | nil=>rfl
 | cons i v l h t ih =>
  show eput (eputs e l) i v=e
  rw [ih]
  exact eput_self h
theorem fx_at {c:XC} {e:Env} {z:Mem} {H:List HA} {l:List (Nat×AV)} (h:AtL e l) (hx:∀ e',FX call k B c ⟨eputs e' l,z,H⟩ Q):FX call k B c ⟨e,z,H⟩ Q:=by
 have:=hx e
 rw [h.eq] at this
 exact this
end
open Go.RowKit
open Go.Eng (Od need need_pos need_some setL binV binBV)
def lenOf:AV→Option Nat
 | .c (.v (.slice none 0 0))=>some 0
 | .c (.sl _ _ n _)=>some n
 | .c .em=>some 0
 | _=>none
def fillSE (ev:Od→AV) (size:Nat):List C→List (Nat×Od)→Option (List C)
 | cs,[]=>some cs
 | cs,(i,x)::r=>match (ev x).cells? with
  | some ds=>need (ds.length=size∧i * size+size≤cs.length) (fillSE ev size (setL cs (i * size) ds) r)
  | none=>none
theorem fillS_eq (st:AS) (size:Nat) (cs:List C) (l:List (Nat×Od)):fillS st size cs l=fillSE st.ev size cs l:=by
 induction l generalizing cs with
 | nil=>rfl
 | cons p l ih =>
  obtain ⟨i,x⟩:=p
  simp only [fillS,fillSE]
  cases (st.ev x).cells? with
  | none=>rfl
  | some ds=>simp only [ih]
def fillCE (ev:Od→AV):List C→List (Nat×Nat×Od)→Option (List C)
 | cs,[]=>some cs
 | cs,(off,size,x)::r=>match (ev x).cells? with
  | some ds=>need (ds.length=size∧off+size≤cs.length) (fillCE ev (setL cs off ds) r)
  | none=>none
theorem fillC_eq (st:AS) (cs:List C) (l:List (Nat×Nat×Od)):fillC st cs l=fillCE st.ev cs l:=by
 induction l generalizing cs with
 | nil=>rfl
 | cons p l ih =>
  obtain ⟨i,j,x⟩:=p
  simp only [fillC,fillCE]
  cases (st.ev x).cells? with
  | none=>rfl
  | some ds=>simp only [ih]
theorem Rf.evf {B:Base} {fs:Sf} {st:AS} (h:Rf B fs st):st.ev=fs.ev:=funext h.ev
theorem mem0 {a:HA} {l:List HA}:a∈a::l:=List.mem_cons_self ..
theorem memS {a x:HA} {l:List HA} (h:a∈l):a∈x::l:=List.mem_cons_of_mem _ h
theorem len1 {n m:Nat} (h:Nat.ble n m=true):n≤m:=Nat.le_of_ble_eq_true h
section
variable {call:Call'} {B:Base} {fs:Sf} {l:List I} {Q:Sf→Prop} {d:Nat}
theorem fl_nil (h:Q fs):FL call B [] fs Q:=fun st r=>w_nil ⟨fs,r,h⟩
theorem fl_q {o:Ins} {v:AV} (hc:∀ st:AS,callee st o=none) (h:∀ st,Rf B fs st→stepQ o st=some v) (hw:FL call B l (fs.put d v) Q):FL call B (⟨some d,none,o⟩::l) fs Q:=fun st r=>w_of (i_q (hc st) (h st r)) (hw _ (r.put d v))
theorem fl_mv {x:Od} {v:AV} (hx:fs.ev x=v) (hw:FL call B l (fs.put d v) Q):FL call B (⟨some d,none,.mv x⟩::l) fs Q:=fun st r=>w_mv ((r.ev x).trans hx) (hw _ (r.put d v))
theorem fl_bin {op:BinOp} {x y:Od} {u v r:Value} (hx:fs.ev x=.c (.v u)) (hy:fs.ev y=.c (.v v)) (h:binW op u v=some r) (hw:FL call B l (fs.put d (.c (.v r))) Q):FL call B (⟨some d,none,.bin op x y⟩::l) fs Q:=
 fun st rf=>w_bin ((rf.ev x).trans hx) ((rf.ev y).trans hy) h (hw _ (rf.put _ _))
theorem fl_binB {op:BinOp} {x y:Od} {u v r:Value} (hx:fs.ev x=.c (.v u)) (hy:fs.ev y=.c (.v v)) (h:binBV op u v=some r) (hw:FL call B l (fs.put d (.c (.v r))) Q):FL call B (⟨some d,none,.binB op x y⟩::l) fs Q:=
 fl_q (fun _=>rfl) (fun st rf=>by simp only [stepQ,rf.ev,hx,hy,AV.val?,h];rfl) hw
theorem fl_un {op:UnOp} {x:Od} {u r:Value} (hx:fs.ev x=.c (.v u)) (h:unW op u=some r) (hw:FL call B l (fs.put d (.c (.v r))) Q):FL call B (⟨some d,none,.un op x⟩::l) fs Q:=fun st rf=>w_un ((rf.ev x).trans hx) h (hw _ (rf.put _ _))
theorem fl_len {x:Od} {v:AV} {n:Nat} (hx:fs.ev x=v) (h:lenOf v=some n) (hw:FL call B l (fs.put d (.c (.v (.int .i64 n)))) Q):FL call B (⟨some d,none,.len false x⟩::l) fs Q:=by
 refine fl_q (fun _=>rfl) (fun st rf=>?_) hw
 simp only [stepQ,rf.ev,hx]
 unfold lenOf at h
 split at h<;>first | (injection h with h;subst h;rfl) | cases h
theorem fl_pick {c a b:Od} {t:Bool} {v:AV} (h:fs.ev c=.c (.v (.bool t))) (hv:(if t=true then fs.ev a else fs.ev b)=v) (hw:FL call B l (fs.put d v) Q):FL call B (⟨some d,none,.pick c a b⟩::l) fs Q:=fun st r=>w_pick ((r.ev c).trans h) (by rw [r.ev,r.ev];exact hv) (hw _ (r.put _ _))
theorem fl_build {zero:List Value} {parts:List (Nat×Nat×Od)} {cs:List C} (h:fillCE fs.ev (zero.map fun v=>.v v) parts=some cs) (hw:FL call B l (fs.put d (.agg cs)) Q):FL call B (⟨some d,none,.build zero parts⟩::l) fs Q:=
 fl_q (fun _=>rfl) (fun st rf=>by simp only [stepQ,fillC_eq,rf.evf,h]) hw
theorem fl_iad {size:Nat} {x i:Od} {b o n:Nat} {kd:IntKind} {z:Int} (hx:fs.ev x=.c (.sl b o n size)) (hi:fs.ev i=.c (.v (.int kd z))) (j:Nat) (hj:z=(j:Int)) (h:j<n) (hw:FL call B l (fs.put d (.c (.ptr b (o+j * size)))) Q):FL call B (⟨some d,none,.iad size x i⟩::l) fs Q:=
 fun st r=>w_iad ((r.ev x).trans hx) ((r.ev i).trans (by rw [hi,hj])) h (hw _ (r.put _ _))
theorem fl_new {o:Ins} {k:Blk} {w:Nat→AV} (hc:∀ st:AS,callee st o=none) (hq:∀ st,stepQ o st=none) (he:∀ st,Rf B fs st→stepE o st=some (st.new k,w st.nx)) (hw:∀ b,FL call B l (fs.own d (w b) (.blk b k)) Q):FL call B (⟨some d,none,o⟩::l) fs Q:=fun st r=>by
 refine w_of (i_e (hc st) (hq st) (he st r)) ?_
 have r1:=r.new (a:=.blk st.nx k) (m':=(st.new k).mem) (by show (st.new k).mem.get st.nx=some k;rw [new_mem,if_pos rfl]) rfl (fun b hb=>by rw [new_mem,if_neg fun e=>hb e.symm])
 exact hw st.nx _ (r1.put d (w st.nx))
theorem fl_bslice {ty size len:Nat} {zero:List Value} {parts:List (Nat×Od)} {cs:List C} (h:fillSE fs.ev size (repl len (zero.map fun v=>.v v)) parts=some cs) (hw:∀ b,FL call B l (fs.own d (.c (.sl b 0 len size)) (.blk b (.cells ty cs))) Q):FL call B (⟨some d,none,.bslice ty size len zero parts⟩::l) fs Q:=
 fl_new (w:=fun b=>.c (.sl b 0 len size)) (fun _=>rfl) (fun _=>rfl) (fun st r=>by simp only [stepE,fillS_eq,r.evf,h]) hw
theorem fl_frz {a:HA} {p q:List HA} {b:Nat} {k:Blk} (e:fs.H=p++a::q) (hfp:a.fp=[b]) (ha:∀ m,a.ok m→m.get b=some k) (hw:∀ z',zle fs.z z'→z' b k→FL call B l (fs.frz z' (p++q)) Q):FL call B l fs Q:=fun st r =>
 hw _ (fun _ _ h=>.inl h) (.inr ⟨rfl,rfl⟩) st (r.frz e hfp ha)
theorem fl_gd {dd:Option Nat} {s:Nat} {want:Bool} {o:Ins} (h:fs.e s=.c (.v (.bool want))) (hw:FL call B (⟨dd,none,o⟩::l) fs Q):FL call B (⟨dd,some (s,want),o⟩::l) fs Q:=fun st r=>w_gd ((r.env s).trans h) (hw st r)
theorem fl_gx {s:Nat} {want:Bool} {o:Ins} (h:fs.e s=.c (.v (.bool (!want)))) (hw:FL call B l (fs.put d (.tup [])) Q):FL call B (⟨some d,some (s,want),o⟩::l) fs Q:=fun st r=>w_gx ((r.env s).trans h) (hw _ (r.put _ _))
theorem fl_gt {s:Nat} {want:Bool} {o:Ins} (h:fs.e s=.tup []) (hw:FL call B l (fs.put d (.tup [])) Q):FL call B (⟨some d,some (s,want),o⟩::l) fs Q:=fun st r=>w_gt ((r.env s).trans h) (hw _ (r.put _ _))
theorem fl_splitB (s:Nat) {t:Bool} (h:fs.e s=.c (.v (.bool t))) (h1:t=true→FL call B l (fs.put s (.c (.v (.bool true)))) Q) (h2:t=false→FL call B l (fs.put s (.c (.v (.bool false)))) Q):FL call B l fs Q:=by
 have e:fs.put s (.c (.v (.bool t)))=fs:=by
  cases fs;simp only [Sf.put];rw [eput_self h]
 cases t with
 | true=>have:=h1 rfl;rw [e] at this;exact this
 | false=>have:=h2 rfl;rw [e] at this;exact this
theorem fl_splitD (s:Nat) {P:Prop} [Decidable P] (h:fs.e s=.c (.v (.bool (decide P)))) (h1:P→FL call B l (fs.put s (.c (.v (.bool true)))) Q) (h2:¬ P→FL call B l (fs.put s (.c (.v (.bool false)))) Q):FL call B l fs Q:=
 fl_splitB s h (fun h=>h1 (of_decide_eq_true h)) (fun h=>h2 (of_decide_eq_false h))
end
theorem wi64 {z:Int} (h : -9223372036854775808≤z∧z<9223372036854775808):IntKind.i64.wrap z=z:=wrap_in h.1 h.2
theorem b_add' {k:IntKind} {a b r:Int} (h:k.wrap (a+b)=r):binW .add (.int k a) (.int k b)=some (.int k r):=by rw [b_add,h]
open Go.RowKit
open Go.Eng (Od need need_pos need_some setL binV binBV)
def FCt (call:Call') (f:Nat) (args:List AV) (z:Mem) (H:List HA) (Post:AV→Mem→List HA→Prop):Prop:=
 ∀ mem nx,Hold z H mem nx→∃ v mem' nx' z' H',call f args mem nx=some (v,mem',nx')∧nx≤nx'∧(∀ b,b<nx→b ∉ fps H→mem'.get b=mem.get b)∧Hold z' H' mem' nx'∧zle z z' ∧
  (∀ b k,z' b k→z b k∨nx≤b∨b∈fps H)∧(∀ b,b∈fps H'→nx≤b∨b∈fps H)∧Post v z' H'
def FC (call:Call') (f:Nat) (args:List AV) (z:Mem) (Post:AV→Mem→Prop):Prop:=FCt call f args z [] fun v z' H'=>H'=[]∧Post v z'
theorem Hold.left {z:Mem} {Hs Hr:List HA} {m:Tr Blk} {nx:Nat} (h:Hold z (Hs++Hr) m nx):Hold z Hs m nx:=by
 refine ⟨fun b k hb=>?_,fun a ha=>h.h a (by simp [ha]),fun b hb=>h.lt b (by rw [fps_app];simp [hb]),?_⟩
 ·obtain ⟨h1,h2,h3⟩:=h.z b k hb
  exact ⟨h1,h2,fun h4=>h3 (by rw [fps_app];simp [h4])⟩
 ·have:=h.nd
  rw [fps_app] at this
  exact (List.nodup_append.1 this).1
theorem Rf.callR {B:Base} {fs:Sf} {st:AS} (r:Rf B fs st) {Hs Hr H':List HA} (e:fs.H=Hs++Hr) {mem':Tr Blk} {nx':Nat} {z':Mem} (hn:st.nx≤nx') (hm:∀ b,b<st.nx→b ∉ fps Hs→mem'.get b=st.mem.get b) (hh:Hold z' H' mem' nx') (hz:CE.zle fs.z z')
    (hin:∀ b k,z' b k→fs.z b k∨st.nx≤b∨b∈fps Hs) (hown:∀ b,b∈fps H'→st.nx≤b∨b∈fps Hs):Rf B ⟨fs.e,z',H'++Hr⟩ ⟨st.env,mem',nx'⟩:=by
  have hH:=r.hold
  rw [e] at hH
  have ho:=r.own
  rw [e] at ho
  have hnd:=hH.nd
  rw [fps_app] at hnd
  obtain ⟨n1,n2,n3⟩:=List.nodup_append.1 hnd
  have hs:∀ b,b∈fps Hs→b∈fps (Hs++Hr):=fun b hb=>by rw [fps_app];simp [hb]
  have hr:∀ b,b∈fps Hr→b∈fps (Hs++Hr):=fun b hb=>by rw [fps_app];simp [hb]
  have hrl:∀ b,b∈fps Hr→b<st.nx∧b ∉ fps Hs:=fun b hb=>⟨hH.lt b (hr b hb),fun h4=>n3 b h4 b hb rfl⟩
  refine ⟨r.env,⟨fun b k hb=>?_,fun a ha=>?_,fun b hb=>?_,?_⟩,Nat.le_trans r.le hn,fun b hb hl=>?_,fun b hb=>?_,fun b k hb=>hz b k (r.zle b k hb),fun b k hb=>?_⟩
  · obtain ⟨h1, h2, h3⟩ := hh.z b k hb
    refine ⟨h1,h2,?_⟩
    rw [fps_app]
    simp only [List.mem_append,not_or]
    refine ⟨h3,fun h4=>?_⟩
    have h5:=hrl b h4
    rcases hin b k hb with h6 | h6 | h6
    · exact (hH.z b k h6).2.2 (hr b h4)
    · omega
    · exact h5.2 h6
  · rcases List.mem_append.1 ha with ha | ha
    · exact hh.h a ha
    · refine HA.ok_of (hH.h a (by simp [ha])) fun b hb => ?_
      have h5:=hrl b (mem_fps.2 ⟨a,ha,hb⟩)
      exact hm b h5.1 h5.2
  · have hb:b∈fps (H'++Hr):=hb
    rw [fps_app] at hb
    rcases List.mem_append.1 hb with hb | hb
    · exact hh.lt b hb
    · exact Nat.lt_of_lt_of_le (hrl b hb).1 hn
  · rw [fps_app]
    refine List.nodup_append.2 ⟨hh.nd,n2,fun x hx y hy e=>?_⟩
    subst e
    have h5:=hrl x hy
    rcases hown x hx with h6 | h6
    · omega
    · exact h5.2 h6
  · refine (hm b (Nat.lt_of_lt_of_le hb r.le) fun h4=>?_).trans (r.old b hb hl)
    rcases ho b (hs b h4) with h5 | h5
    · omega
    · exact hl h5
  · have hb:b∈fps (H'++Hr):=hb
    rw [fps_app] at hb
    rcases List.mem_append.1 hb with hb | hb
    · rcases hown b hb with h6 | h6
      · exact .inl (Nat.le_trans r.le h6)
      · exact ho b (hs b h6)
    · exact ho b (hr b hb)
  · rcases hin b k hb with h6 | h6 | h6
    · exact r.zin b k h6
    · exact .inr (.inl (Nat.le_trans r.le h6))
    · exact .inr (ho b (hs b h6))
section
variable {call:Call'} {B:Base} {fs:Sf} {l:List I} {Q:Sf→Prop} {d:Nat}
theorem fl_callL {f:Nat} {args:List Od} {vs:List AV} {Hs Hr:List HA} {Post:AV→Mem→List HA→Prop} (ha:args.map fs.ev=vs) (e:fs.H=Hs++Hr) (hc:FCt call f vs fs.z Hs Post)
  (hw:∀ v z' H',zle fs.z z'→Post v z' H'→FL call B l (fs.res d v z' (H'++Hr)) Q):FL call B (⟨some d,none,.call f args⟩::l) fs Q:=fun st r=>by
 have hh:=r.hold
 rw [e] at hh
 obtain ⟨v,mem',nx',z',H',h1,h2,h3,h4,h5,h6,h7,h8⟩:=hc st.mem st.nx hh.left
 refine w_call (vs:=vs) (by rw [r.evf];exact ha) h1 ?_
 exact hw v z' H' h5 h8 _ ((r.callR e h2 h3 h4 h5 h6 h7).put d v)
theorem fl_call {f:Nat} {args:List Od} {vs:List AV} {Post:AV→Mem→Prop} (ha:args.map fs.ev=vs) (hc:FC call f vs fs.z Post)
  (hw:∀ v z',zle fs.z z'→Post v z'→FL call B l (fs.res d v z' fs.H) Q):FL call B (⟨some d,none,.call f args⟩::l) fs Q:=
 fl_callL (Hs:=[]) (Hr:=fs.H) ha rfl hc fun v z' H' hz ⟨h1,h2⟩=>by subst h1;exact hw v z' hz h2
end
def argE:List AV→Nat→AV
 | [],_=>.any
 | v::l,i=>match i with
  | 0=>v
  | i+1=>argE l i
theorem envOf_get:∀ (l:List AV) (k:Nat) (t:Tr AV) (mem:Tr Blk) (nx i:Nat),(⟨envOf k t l,mem,nx⟩:AS).get i=if k≤i∧i<k+l.length then argE l (i - k) else (⟨t,mem,nx⟩:AS).get i:=by
  intro l
  induction l with
  | nil =>
    intro k t mem nx i
    rw [if_neg (by simp only [List.length_nil];omega)]
    rfl
  | cons v l ih =>
    intro k t mem nx i
    have e:envOf k t (v::l)=envOf (k+1) (Tr.put (k+1) t k (some v)) l:=rfl
    rw [e,ih]
    have hg:(⟨Tr.put (k+1) t k (some v),mem,nx⟩:AS).get i=if k=i then v else (⟨t,mem,nx⟩:AS).get i:=get_put ⟨t,mem,nx⟩ k i v
    by_cases h:k+1≤i∧i<k+1+l.length
    · rw [if_pos h, if_pos (by simp; omega)]
      obtain ⟨j,hj⟩:∃ j,i - k=j+1:=⟨i - k - 1,by omega⟩
      rw [hj]
      show argE l (i - (k+1))=argE l j
      congr 1
      omega
    · rw [if_neg h,hg]
      by_cases h2:k=i
      · subst h2
        rw [if_pos rfl,if_pos (by simp),Nat.sub_self]
        rfl
      · rw [if_neg h2,if_neg (by simp;omega)]
theorem argE_get (args:List AV) (mem:Tr Blk) (nx i:Nat):(⟨envOf 0 .nil args,mem,nx⟩:AS).get i=argE args i:=by
  rw [envOf_get]
  by_cases h:i<args.length
  · rw [if_pos (by omega)];rfl
  · rw [if_neg (by omega)]
    have:∀ (l:List AV) (i:Nat),l.length≤i→argE l i=.any:=by
      intro l
      induction l with
      | nil=>intro i _;rfl
      | cons v l ih =>
        intro i hi
        cases i with
        | zero=>simp at hi
        | succ i=>exact ih i (by simpa using hi)
    rw [this args i (by omega)]
    simp [AS.get,Tr.get_nil]
inductive Res1 (fs:Sf):RR→AV→Prop where
 | t (i:Nat) (v:AV) (h:fs.e i=v):Res1 fs (.t i) v
 | c (i:Nat) (g:Bool) (s b o ty:Nat) (cs:List C) (v:AV) (hp:fs.e i=.c (.ptr b o)) (hm:HA.blk b (.cells ty cs)∈fs.H) (hl:o+s≤cs.length) (hv:mkAV g ((cs.drop o).take s)=v):Res1 fs (.c i g s) v
inductive ResL (fs:Sf):List RR→List AV→Prop where
 | nil:ResL fs [] []
 | cons (r:RR) (v:AV) (rs:List RR) (vs:List AV) (h:Res1 fs r v) (t:ResL fs rs vs):ResL fs (r::rs) (v::vs)
theorem rn {fs:Sf}:ResL fs [] []:=.nil
theorem rt {fs:Sf} {i:Nat} {v:AV} {rs:List RR} {vs:List AV} (h:fs.e i=v) (t:ResL fs rs vs):ResL fs (.t i::rs) (v::vs):=.cons _ _ _ _ (.t i v h) t
def packR:List AV→AV
 | [v]=>v
 | vs=>.tup vs
theorem resL_of {B:Base} {fs:Sf} {st:AS} (r:Rf B fs st) {ts:List RR} {vs:List AV} (h:ResL fs ts vs):resL st ts=some vs:=by
 induction h with
 | nil=>rfl
 | cons q v rs vs h t ih =>
  have h1:res1 st q=some v:=by
   cases h with
   | t i v h=>simp only [res1,r.env,h]
   | c i g s b o ty cs v hp hm hl hv =>
    have:=r.hold.h _ hm
    simp only [HA.ok] at this
    simp only [res1,r.env,hp,AS.read,AS.blk,this]
    rw [need_pos hl]
    simp only [hv]
  simp only [resL,h1,ih]
theorem resAV_of {B:Base} {fs:Sf} {st:AS} (r:Rf B fs st) {ts:List RR} {vs:List AV} (h:ResL fs ts vs):resAV st ts=some (packR vs):=by
 unfold resAV
 rw [resL_of r h]
 match vs with
 | []=>rfl
 | [v]=>rfl
 | _::_::_=>rfl
theorem fps_sub {H H':List HA} (h:H'.Sublist H):(fps H').Sublist (fps H):=by
 induction h with
 | slnil=>exact List.Sublist.refl _
 | cons a h ih=>rw [fps_cons];exact ih.trans (List.sublist_append_right _ _)
 | cons_cons a h ih=>rw [fps_cons,fps_cons];exact (List.Sublist.refl _).append ih
theorem Hold.sub {z:Mem} {H H':List HA} {m:Tr Blk} {nx:Nat} (h:Hold z H m nx) (hs:H'.Sublist H):Hold z H' m nx:=
 ⟨fun b k hb=>⟨(h.z b k hb).1,(h.z b k hb).2.1,fun h4=>(h.z b k hb).2.2 ((fps_sub hs).subset h4)⟩,fun a ha=>h.h a (hs.subset ha),fun b hb=>h.lt b ((fps_sub hs).subset hb),h.nd.sublist (fps_sub hs)⟩
def RetQ (ts:List RR) (Post:AV→Mem→List HA→Prop):Exit→Sf→Prop:=fun x fs=>(x=.ret∨x=.normal)∧∃ vs H',ResL fs ts vs∧H'.Sublist fs.H∧Post (packR vs) fs.z H'
theorem fct_of {T:Tr FE} {hand:Call'} {k0 k f:Nat} {e:FE} {args:List AV} {z:Mem} {H:List HA} {Post:AV→Mem→List HA→Prop} (hT:T.get f=some e) (hk:1≤k) (hl:args.length≤e.n)
  (h:∀ B j,k=j+1→FX (evF T hand k0 j) k0 B e.x ⟨argE args,z,H⟩ (RetQ e.ts Post)):FCt (evF T hand k0 k) f args z H Post:=fun mem nx hh=>by
 obtain ⟨j,rfl⟩:∃ j,k=j+1:=⟨k - 1,by omega⟩
 have r0:Rf ⟨mem,nx,z,fps H⟩ ⟨argE args,z,H⟩ ⟨envOf 0 .nil args,mem,nx⟩:=
  ⟨fun i=>argE_get args mem nx i,hh,Nat.le_refl _,fun b _ _=>rfl,fun b hb=>.inr hb,fun _ _ h=>h,fun b k hb=>.inl hb⟩
 have:=h _ j rfl _ r0
 simp only [evF,hT,Nat.ble_eq_true_of_le hl]
 cases he:evX (evF T hand k0 j) k0 e.x ⟨envOf 0 .nil args,mem,nx⟩ with
 | none=>rw [he] at this;exact this.elim
 | some p =>
  obtain ⟨x,st⟩:=p
  rw [he] at this
  obtain ⟨fs,r,hx,vs,H',h1,h2,h3⟩:=this
  have hf:fin e st=some (packR vs,st.mem,st.nx):=by simp only [fin,resAV_of r h1]
  refine ⟨packR vs,st.mem,st.nx,fs.z,H',?_,r.le,r.old,r.hold.sub h2,r.zle,r.zin,fun b hb=>r.own b ((fps_sub h2).subset hb),h3⟩
  rcases hx with rfl | rfl<;>exact hf
theorem fc_of {T:Tr FE} {hand:Call'} {k0 k f:Nat} {e:FE} {args:List AV} {z:Mem} {Post:AV→Mem→Prop} (hT:T.get f=some e) (hk:1≤k) (hl:args.length≤e.n)
  (h:∀ B j,k=j+1→FX (evF T hand k0 j) k0 B e.x ⟨argE args,z,[]⟩ (RetQ e.ts fun v z' H'=>H'=[]∧Post v z')):FC (evF T hand k0 k) f args z Post:=fct_of hT hk hl h
theorem ret_q {fs:Sf} {ts:List RR} {vs:List AV} {x:Exit} {Post:AV→Mem→Prop} (hx:x=.ret∨x=.normal) (h:ResL fs ts vs) (hp:Post (packR vs) fs.z):RetQ ts (fun v z' H'=>H'=[]∧Post v z') x fs:=⟨hx,vs,[],h,List.nil_sublist _,rfl,hp⟩
open Go.RowKit
open Go.Eng (Od need need_pos need_some setL binV binBV)
def Blk.cs:Blk→Option (List C)
 | .cells _ cs=>some cs
 | .ro cs=>some cs
 | _=>none
def At (z:Mem) (b p:Nat) (cs:List C):Prop:=∃ k full,z b k∧k.cs=some full∧p+cs.length≤full.length∧(full.drop p).take cs.length=cs
abbrev RT (α:Type):=Mem→List C→α→Prop
structure RMon {α:Type} (R:RT α):Prop where
 mono:∀ {z z':Mem} {cs:List C} {a:α},zle z z'→R z cs a→R z' cs a
 refl:∀ {z:Mem} {cs:List C} {a:α},R z cs a→sameL cs cs=true
abbrev RMono {α:Type} (R:RT α):Prop:=Nonempty (RMon R)
theorem RMono.mono {α:Type} {R:RT α} [i:RMono R] {z z':Mem} {cs:List C} {a:α} (hz:zle z z') (h:R z cs a):R z' cs a:=i.elim fun m=>m.mono hz h
inductive SZ {α:Type} (size:Nat) (R:RT α) (z:Mem):AV→List α→Prop where
 | nil:SZ size R z nilv []
 | em:SZ size R z (.c .em) []
 | sl (b o n:Nat) (k:Blk) (full:List C) (l:List α) (hl:l.length=n) (hm:n≤9223372036854775807) (hz:z b k) (hk:k.cs=some full) (hf:o+n * size≤full.length) (h:∀ (i:Nat) (a:α),l[i]? = some a→R z ((full.drop (o+i * size)).take size) a):SZ size R z (.c (.sl b o n size)) l
section
variable {α:Type} {size:Nat} {R:RT α} [RMono R] {z z':Mem} {v:AV} {l:List α}
theorem SZ.mono (h:SZ size R z v l) (hz:zle z z'):SZ size R z' v l:=by
 cases h with
 | nil=>exact .nil
 | em=>exact .em
 | sl b o n k full l hl hm hz' hk hf h=>exact .sl b o n k full l hl hm (hz _ _ hz') hk hf fun i a hi=>RMono.mono hz (h i a hi)
theorem SZ.len {α:Type} {size:Nat} {R:RT α} {z:Mem} {v:AV} {l:List α} (h:SZ size R z v l):lenOf v=some l.length:=by cases h with
 | nil=>rfl
 | em=>rfl
 | sl b o n k full l hl hm hz' hk hf h=>rw [hl];rfl
theorem SZ.le {α:Type} {size:Nat} {R:RT α} {z:Mem} {v:AV} {l:List α} (h:SZ size R z v l):l.length≤9223372036854775807:=by cases h with
 | nil=>simp
 | em=>simp
 | sl b o n k full l hl hm hz' hk hf h=>omega
end
theorem sameV_int (k:IntKind) (n:Int):sameV (.int k n) (.int k n)=true:=by simp [sameV]
theorem blk_of {st:AS} {b:Nat} {k:Blk} {full:List C} (h:st.mem.get b=some k) (hk:k.cs=some full):st.blk b=some full:=by
 unfold AS.blk
 rw [h]
 cases k with
 | cells ty cs=>exact hk
 | ro cs=>exact hk
 | sit _ _=>cases hk
 | mp _ _=>cases hk
theorem at_read {st:AS} {z:Mem} (hz:∀ b k,z b k→st.mem.get b=some k) {b p:Nat} {cs:List C} (h:At z b p cs) {off size:Nat} (hl:off+size≤cs.length):st.read b (p+off) size=some ((cs.drop off).take size):=by
 obtain ⟨k,full,h1,h2,h3,h4⟩:=h
 unfold AS.read
 rw [blk_of (hz _ _ h1) h2]
 simp only
 rw [need_pos (by omega)]
 congr 1
 rw [← h4,List.drop_take,List.take_take,List.drop_drop]
 congr 1
 omega
section
variable {call:Call'} {B:Base} {fs:Sf} {l:List I} {Q:Sf→Prop} {d:Nat}
theorem fl_iadS {α:Type} {size:Nat} {R:RT α} {zz:Mem} {x i:Od} {v:AV} {r:List α} {kd:IntKind} {n:Int} (hx:fs.ev x=v) (hi:fs.ev i=.c (.v (.int kd n))) (hr:SZ size R zz v r) (j:Nat) (hj:n=(j:Int)) (a:α) (h:r[j]? = some a)
  (hw:∀ b p cs,At zz b p cs→R zz cs a→FL call B l (fs.put d (.c (.ptr b p))) Q):FL call B (⟨some d,none,.iad size x i⟩::l) fs Q:=by
 have hlt:=(List.getElem?_eq_some_iff.1 h).1
 cases hr with
 | nil=>simp at hlt
 | em=>simp at hlt
 | sl b o n k full l hl hm hz' hk hf hh =>
   have hle:o+j * size+size≤full.length:=by
    have:(j+1) * size≤n * size:=Nat.mul_le_mul_right _ (by omega)
    rw [Nat.add_mul,Nat.one_mul] at this
    omega
   have hcl:((full.drop (o+j * size)).take size).length=size:=by simp;omega
   exact fl_iad hx hi j hj (by omega) (hw b (o+j * size) _ ⟨k,full,hz',hk,by rw [hcl];exact hle,by rw [hcl]⟩ (hh j a h))
theorem fl_ldA {agg:Bool} {size:Nat} {x:Od} {b q p off:Nat} {cs:List C} {v:AV} (hx:fs.ev x=.c (.ptr b q)) (ha:At fs.z b p cs) (hq:q=p+off) (hl:off+size≤cs.length) (hv:mkAV agg ((cs.drop off).take size)=v) (hw:FL call B l (fs.put d v) Q):FL call B (⟨some d,none,.load agg size x⟩::l) fs Q:=
  fl_q (fun _ => rfl) (fun st r => by
    subst hq
    simp only [stepQ,r.ev,hx]
    rw [at_read (fun b k hb=>(r.hold.z b k hb).1) ha hl]
    simp only [hv]) hw
theorem fl_lenS {α:Type} {size:Nat} {R:RT α} {zz:Mem} {x:Od} {v:AV} {r:List α} (hx:fs.ev x=v) (hr:SZ size R zz v r) (hw:FL call B l (fs.put d (.c (.v (.int .i64 r.length)))) Q):FL call B (⟨some d,none,.len false x⟩::l) fs Q:=fl_len hx hr.len hw
end
def CL {α:Type} (size:Nat) (R:RT α) (z:Mem) (cs:List C) (l:List α):Prop:=cs.length=l.length * size∧∀ (i:Nat) (a:α),l[i]? = some a→((cs.drop (i * size)).take size).length=size∧R z ((cs.drop (i * size)).take size) a
section
variable {α:Type} {size:Nat} {R:RT α} {z z':Mem} {cs c:List C} {l:List α} {a:α}
theorem CL.sz {b ty n:Nat} (h:CL size R z cs l) (hn:l.length=n) (hm:n≤9223372036854775807) (hz:z b (.cells ty cs)):SZ size R z (.c (.sl b 0 n size)) l:=by
 refine .sl b 0 n (.cells ty cs) cs l hn hm hz rfl (by rw [h.1,hn];omega) fun i a hi=>?_
 rw [Nat.zero_add]
 exact (h.2 i a hi).2
end
section
variable {call:Call'} {B:Base} {fs:Sf} {l:List I} {Q:Sf→Prop} {d:Nat}
theorem fx_sub {k:Nat} {c:XC} {Q:Exit→Sf→Prop} {H':List HA} (hs:H'.Sublist fs.H) (hw:FX call k B c (fs.heap H') Q):FX call k B c fs Q:=fun st rf =>
 hw st ⟨rf.env,rf.hold.sub hs,rf.le,rf.old,fun b hb=>rf.own b ((fps_sub hs).subset hb),rf.zle,rf.zin⟩
end
open Go.RowKit
open Go.Eng (Od need need_pos need_some setL binV binBV setL_length)
def RE {α:Type} (e:α→Value):RT α:=fun _ cs a=>cs=[.v (e a)]
def cE {α:Type} (e:α→Value) (l:List α):List C:=l.map fun a=>.v (e a)
section
variable {α:Type} {e:α→Value} {l:List α}
theorem cE_len:(cE e l).length=l.length:=by simp [cE]
theorem cE_get {a:α} {j:Nat} (h:l[j]? = some a):(cE e l)[j]? = some (.v (e a)):=by simp [cE,h]
theorem cE_cl {z:Mem}:CL 1 (RE e) z (cE e l) l:=by
 refine ⟨by rw [cE_len,Nat.mul_one],fun i a h=>?_⟩
 have hlt:=(List.getElem?_eq_some_iff.1 h).1
 have:((cE e l).drop (i * 1)).take 1=[.v (e a)]:=by
  apply List.ext_getElem?
  intro q
  cases q with
  | zero=>rw [List.getElem?_take,if_pos (by omega),List.getElem?_drop,Nat.mul_one,Nat.add_zero,cE_get h];rfl
  | succ q=>rw [List.getElem?_eq_none (by rw [List.length_take];omega),List.getElem?_eq_none (by simp)]
 rw [this]
 exact ⟨rfl,rfl⟩
end
def PE (z:Mem) (p:AV) (w:Value):Prop:=∃ b o,p=.c (.ptr b o)∧At z b o [.v w]
section
variable {call:Call'} {B:Base} {fs:Sf} {l:List I} {Q:Sf→Prop} {d:Nat}
theorem fl_iadE {α:Type} {e:α→Value} {zz:Mem} {x i:Od} {v:AV} {r:List α} {kd:IntKind} {z:Int} (hx:fs.ev x=v) (hi:fs.ev i=.c (.v (.int kd z))) (hr:SZ 1 (RE e) zz v r) (j:Nat) (hj:z=(j:Int)) (h:j<r.length)
  (hw:∀ p,PE zz p (e r[j])→FL call B l (fs.put d p) Q):FL call B (⟨some d,none,.iad 1 x i⟩::l) fs Q:=
 fl_iadS hx hi hr j hj r[j] (List.getElem?_eq_getElem h) fun b p cs ha hR=>hw _ ⟨b,p,rfl,by rw [← hR];exact ha⟩
theorem fl_ldP {x:Od} {p:AV} {w:Value} (hx:fs.ev x=p) (hp:PE fs.z p w) (hw:FL call B l (fs.put d (.c (.v w))) Q):FL call B (⟨some d,none,.load false 1 x⟩::l) fs Q:=by
 obtain ⟨b,o,rfl,h⟩:=hp
 exact fl_ldA (off:=0) hx h rfl (by simp) rfl hw
theorem fl_bd {zero:List Value} {parts:List (Nat×Nat×Od)} {cs:List C} (h:fillCE fs.ev (zero.map fun v=>.v v) parts=some cs) (hw:FL call B l (fs.put d (.agg cs)) Q):FL call B (⟨some d,none,.build zero parts⟩::l) fs Q:=fl_build h hw
end
def LI (z0:Mem) (H:List HA) (ls:List (Nat×AV)) (fs:Sf):Prop:=∃ e z Hx,fs=⟨e,z,Hx++H⟩∧zle z0 z∧AtL e ls
theorem LI.mk {z0 z:Mem} {H:List HA} {ls:List (Nat×AV)} {e:Env} (Hx:List HA) (hz:zle z0 z) (ha:AtL e ls):LI z0 H ls ⟨e,z,Hx++H⟩:=⟨e,z,Hx,rfl,hz,ha⟩
theorem LI.open {call:Call'} {k:Nat} {B:Base} {c:XC} {Q:Exit→Sf→Prop} {z0:Mem} {H:List HA} {ls:List (Nat×AV)} {fs:Sf} (h:LI z0 H ls fs) (hw:∀ e z,zle z0 z→FX call k B c ⟨eputs e ls,z,H⟩ Q):FX call k B c fs Q:=by
 obtain ⟨e,z,Hx,rfl,hz,ha⟩:=h
 exact fx_at ha fun e=>fx_sub (List.sublist_append_right _ _) (hw e z hz)
theorem wI {z:Int} {n:Nat} (h:z=n) (h2:n<9223372036854775808):IntKind.i64.wrap z=n:=by rw [h];exact wi64 ⟨by omega,by omega⟩
theorem bI_add {a b:Int} {n:Nat} (h:a+b=n) (h2:n<9223372036854775808):binW .add (.int .i64 a) (.int .i64 b)=some (.int .i64 n):=b_add' (wI h h2)
open Go.RowKit
open Go.Eng (callable Od)
section
variable {call:Call'} {B:Base} {fs:Sf} {l:List I} {Q:Sf→Prop} {d:Nat}
theorem fl_mvc {x:Od} {c:C} (hx:fs.ev x=.c c) (hw:FL call B l (fs.put d (.c c)) Q):FL call B (⟨some d,none,.mv x⟩::l) fs Q:=fl_mv hx hw
theorem fl_callZ (z0:Mem) {f:Nat} {args:List Od} {vs:List AV} {Post:AV→Mem→Prop} (hc:FC call f vs z0 Post) (ha:args.map fs.ev=vs) (hz0:fs.z=z0)
  (hw:∀ v z',zle z0 z'→Post v z'→FL call B l (fs.res d v z' fs.H) Q):FL call B (⟨some d,none,.call f args⟩::l) fs Q:=by
 subst hz0
 exact fl_call ha hc hw
theorem fl_frzZ {a:HA} {p q:List HA} {b:Nat} {k:Blk} (z1:Mem) (e:fs.H=p++a::q) (h1:fs.z=z1) (hfp:a.fp=[b]) (ha:∀ m,a.ok m→m.get b=some k) (hw:∀ z',zle z1 z'→z' b k→FL call B l (fs.frz z' (p++q)) Q):FL call B l fs Q:=by
 subst h1
 exact fl_frz e hfp ha hw
end
open Go.RowKit
def XC.of:IC→XC
 | .skip=>.skip
 | .region l=>.region l
 | .draw l=>.draw l (ancs l)
 | .seq a b=>.seq (XC.of a) (XC.of b)
 | .cond c a b=>.cond c (XC.of a) (XC.of b)
 | .block id b=>.block id (XC.of b)
 | .loop b=>.loop (XC.of b)
 | .exit id=>.exit id
 | .ret=>.ret
 | .bad=>.bad
theorem XC.of_ic (c:IC):(XC.of c).ic=c:=by
 induction c with
 | seq a b ha hb=>simp only [XC.of,XC.ic,ha,hb]
 | cond c a b ha hb=>simp only [XC.of,XC.ic,ha,hb]
 | block id b hb=>simp only [XC.of,XC.ic,hb]
 | loop b hb=>simp only [XC.of,XC.ic,hb]
 | _=>rfl
def FE.of (P:Program) (fn:Func):FE:=⟨fn.ntmps,XC.of (IC.ofS P fn.ntmps (fn.body.getD .skip)),fn.results.toList.filterMap (RR.of P)⟩
structure Fc (P:Program) (fn:Func) where
 e:FE
 h:FE.of P fn=e
def Fc.m {P:Program} {fn:Func} (e:FE) (h:FE.of P fn=e:=by conv=>lhs;reduce;simp only [Int.ofNat_eq_natCast,Int.cast_ofNat_Int]):Fc P fn:=⟨e,h⟩
def Fc.chk {P : Program} {fn : Func} (g : Fc P fn) : Bool := fn.body.isSome && (fn.name != "runtime.NumGoroutine") && (fn.results.toList.all fun r => (RR.of P r).isSome) && g.e.x.ok
theorem Fc.ok {P:Program} {f:Nat} {fn:Func} (g:Fc P fn) (hf:P.funcs[f]? = some fn) (hc:g.chk=true:=by kernel_rfl):FOk P f g.e:=by
 obtain ⟨e,rfl⟩:=g
 simp only [Fc.chk,Bool.and_eq_true] at hc
 obtain ⟨⟨⟨h1,h2⟩,h3⟩,h4⟩:=hc
 obtain ⟨c,hc⟩:=Option.isSome_iff_exists.1 h1
 refine ⟨fn,c,hf,rfl,hc,h2,?_,?_,h4⟩
 ·show IC.ofS P fn.ntmps c=(XC.of _).ic
  rw [XC.of_ic,hc]
  rfl
 ·show fn.results.toList.map (RR.of P)=(fn.results.toList.filterMap (RR.of P)).map some
  rw [List.all_eq_true] at h3
  generalize fn.results.toList=l at h3
  induction l with
  | nil=>rfl
  | cons a l ih =>
   obtain ⟨b,hb⟩:=Option.isSome_iff_exists.1 (h3 a (List.mem_cons_self ..))
   rw [List.map_cons,List.filterMap_cons_some hb,List.map_cons,hb,ih fun r hr=>h3 r (List.mem_cons_of_mem _ hr)]
open Go.RowKit
structure Memo where
 f:Nat
 args:List AV
 mem:List Blk
 res:AV
 out:List (Nat×Blk)
def memT:Nat→List Blk→Tr Blk
 | _,[]=>.nil
 | k,b::l=>Tr.put (k+1) (memT (k+1) l) k (some b)
theorem memT_get:∀ (l:List Blk) (k b:Nat),(memT k l).get b=if k≤b then l[b - k]? else none:=by
  intro l
  induction l with
  | nil=>intro k b;simp [memT,Tr.get_nil]
  | cons x l ih =>
    intro k b
    rw [memT,Tr.get_put _ _ _ _ _ (by omega),ih]
    by_cases h:k=b
    · subst h;simp
    · rw [if_neg h]
      by_cases h2:k≤b
      · obtain ⟨j, rfl⟩ : ∃ j, b = k + 1 + j := ⟨b - (k + 1), by omega⟩
        rw [if_pos (by omega),if_pos h2,show k+1+j - (k+1)=j by omega,show k+1+j - k=j+1 by omega]
        rfl
      · rw [if_neg (by omega),if_neg h2]
def putOut:Tr Blk→Nat→List Blk→Tr Blk
 | t,_,[]=>t
 | t,n,b::l=>putOut (Tr.put (n+1) t n (some b)) (n+1) l
theorem putOut_get:∀ (l:List Blk) (t:Tr Blk) (n b:Nat),(putOut t n l).get b=if n≤b∧b<n+l.length then l[b - n]? else t.get b:=by
  intro l
  induction l with
  | nil=>intro t n b;rw [if_neg (by simp only [List.length_nil];omega)];rfl
  | cons x l ih =>
    intro t n b
    rw [putOut,ih]
    by_cases h:n+1≤b∧b<n+1+l.length
    · obtain ⟨j, rfl⟩ : ∃ j, b = n + 1 + j := ⟨b - (n + 1), by omega⟩
      rw [if_pos h,if_pos (by simp;omega),show n+1+j - (n+1)=j by omega,show n+1+j - n=j+1 by omega]
      rfl
    · rw [if_neg h, Tr.get_put _ _ _ _ _ (by omega)]
      by_cases h2:n=b
      · subst h2
        simp
      · rw [if_neg h2,if_neg (by simp only [List.length_cons];omega)]
def renC (σ:Nat→Option Nat):C→Option C
 | .any=>some .any
 | .v x=>some (.v x)
 | .ptr b o=>match σ b with
  | some b'=>some (.ptr b' o)
  | none=>none
 | .sl b o n s=>match σ b with
  | some b'=>some (.sl b' o n s)
  | none=>none
 | .fn f [] []=>some (.fn f [] [])
 | .fn _ _ _=>none
 | .mp b=>match σ b with
  | some b'=>some (.mp b')
  | none=>none
 | .em=>some .em
def renL (σ:Nat→Option Nat):List C→Option (List C)
 | []=>some []
 | c::l=>match renC σ c with
  | some c'=>match renL σ l with
   | some l'=>some (c'::l')
   | none=>none
  | none=>none
def ren1 (σ:Nat→Option Nat):AV→Option AV
 | .any=>some .any
 | .c c=>match renC σ c with
  | some c'=>some (.c c')
  | none=>none
 | .agg l=>match renL σ l with
  | some l'=>some (.agg l')
  | none=>none
 | .tup _=>none
def renT (σ:Nat→Option Nat):List AV→Option (List AV)
 | []=>some []
 | c::l=>match ren1 σ c with
  | some c'=>match renT σ l with
   | some l'=>some (c'::l')
   | none=>none
  | none=>none
def renA (σ:Nat→Option Nat):AV→Option AV
 | .tup l=>match renT σ l with
  | some l'=>some (.tup l')
  | none=>none
 | v=>ren1 σ v
def renB (σ:Nat→Option Nat):Blk→Option Blk
 | .cells ty cs=>match renL σ cs with
  | some cs'=>some (.cells ty cs')
  | none=>none
 | _=>none
section
variable {σ:Nat→Option Nat} {ρA ρB:Plan}
theorem renC_rep (hσ:∀ b b',σ b=some b'→ρA b'=ρB b) {c c':C} (h:renC σ c=some c') {x:Value}:CRep ρB c x↔CRep ρA c' x:=by
  unfold renC at h
  split at h
  · injection h with h; subst h
    exact ⟨fun g=>by cases g with | any _ h1=>exact .any _ h1,fun g=>by cases g with | any _ h1=>exact .any _ h1⟩
  · injection h with h; subst h
    exact ⟨fun g=>by cases g with | v _ h1=>exact .v _ h1,fun g=>by cases g with | v _ h1=>exact .v _ h1⟩
  · split at h
    · rename_i b o b' hb
      injection h with h;subst h
      exact ⟨fun g=>by cases g with | ptr _ _ la h1=>exact .ptr _ _ la ((hσ _ _ hb).trans h1),fun g=>by cases g with | ptr _ _ la h1=>exact .ptr _ _ la ((hσ _ _ hb).symm.trans h1)⟩
    · cases h
  · split at h
    · rename_i b o n s b' hb
      injection h with h;subst h
      exact ⟨fun g=>by cases g with | sl _ _ _ _ cap la h1 h2 h3 h4=>exact .sl _ _ _ _ cap la ((hσ _ _ hb).trans h1) h2 h3 h4,fun g=>by cases g with | sl _ _ _ _ cap la h1 h2 h3 h4=>exact .sl _ _ _ _ cap la ((hσ _ _ hb).symm.trans h1) h2 h3 h4⟩
    · cases h
  · injection h with h; subst h
    exact ⟨fun g => by cases g with | fn _ _ _ us vs h1 h2 s1 s2 hf hv => exact .fn _ _ _ us vs h1 h2 s1 s2 (fun i p j c hp => by simp at hp) (fun i p j c hp => by simp at hp),
      fun g=>by cases g with | fn _ _ _ us vs h1 h2 s1 s2 hf hv=>exact .fn _ _ _ us vs h1 h2 s1 s2 (fun i p j c hp=>by simp at hp) (fun i p j c hp=>by simp at hp)⟩
  · cases h
  · split at h
    · rename_i b b' hb
      injection h with h;subst h
      exact ⟨fun g=>by cases g with | mp _ la h1=>exact .mp _ la ((hσ _ _ hb).trans h1),fun g=>by cases g with | mp _ la h1=>exact .mp _ la ((hσ _ _ hb).symm.trans h1)⟩
    · cases h
  · injection h with h; subst h
    exact ⟨fun g=>by cases g with | em A cap=>exact .em A cap,fun g=>by cases g with | em A cap=>exact .em A cap⟩
theorem renL_get:∀ {l l':List C},renL σ l=some l'→l.length=l'.length∧(∀ (i:Nat) (c:C),l[i]? = some c→∃ c',l'[i]? = some c'∧renC σ c=some c')∧(∀ (i:Nat) (c':C),l'[i]? = some c'→∃ c,l[i]? = some c∧renC σ c=some c'):=by
 intro l
 induction l with
 | nil =>
  intro l' h
  simp only [renL] at h
  injection h with h;subst h
  exact ⟨rfl,fun i c hc=>by simp at hc,fun i c hc=>by simp at hc⟩
 | cons c l ih =>
  intro l' h
  simp only [renL] at h
  split at h
  case h_2=>cases h
  rename_i c1 hc1
  split at h
  case h_2=>cases h
  rename_i l1 hl1
  injection h with h;subst h
  obtain ⟨g1,g2,g3⟩:=ih hl1
  refine ⟨by simp [g1],fun i d hd=>?_,fun i d hd=>?_⟩
  ·cases i with
   | zero=>simp at hd;subst hd;exact ⟨c1,rfl,hc1⟩
   | succ i=>exact g2 i d (by simpa using hd)
  ·cases i with
   | zero=>simp at hd;subst hd;exact ⟨c,rfl,hc1⟩
   | succ i=>exact g3 i d (by simpa using hd)
theorem ren1_rep (hσ:∀ b b',σ b=some b'→ρA b'=ρB b) {c c':AV} (h:ren1 σ c=some c') {x:Value}:AVRep (CRep ρB) c x↔AVRep (CRep ρA) c' x:=by
 unfold ren1 at h
 split at h
 ·injection h with h;subst h
  exact ⟨fun g=>.any _,fun g=>.any _⟩
 ·split at h
  case h_2=>cases h
  rename_i c c1 hc
  injection h with h;subst h
  exact ⟨fun g=>by cases g with | c _ _ h1=>exact .c _ _ ((renC_rep hσ hc).1 h1),fun g=>by cases g with | c _ _ h1=>exact .c _ _ ((renC_rep hσ hc).2 h1)⟩
 ·split at h
  case h_2=>cases h
  rename_i l l1 hl
  injection h with h;subst h
  obtain ⟨g1,g2,g3⟩:=renL_get hl
  refine ⟨fun g=>?_,fun g=>?_⟩
  ·cases g with
   | agg _ xs hs hc =>
    refine .agg _ xs (by omega) fun i d hd=>?_
    obtain ⟨c,hc1,hc2⟩:=g3 i d hd
    exact (renC_rep hσ hc2).1 (hc i c hc1)
  ·cases g with
   | agg _ xs hs hc =>
    refine .agg _ xs (by omega) fun i d hd=>?_
    obtain ⟨c,hc1,hc2⟩:=g2 i d hd
    exact (renC_rep hσ hc2).2 (hc i c hc1)
 ·cases h
theorem renT_get:∀ {l l':List AV},renT σ l=some l'→l.length=l'.length∧(∀ (i:Nat) (c:AV),l[i]? = some c→∃ c',l'[i]? = some c'∧ren1 σ c=some c')∧(∀ (i:Nat) (c':AV),l'[i]? = some c'→∃ c,l[i]? = some c∧ren1 σ c=some c'):=by
 intro l
 induction l with
 | nil =>
  intro l' h
  simp only [renT] at h
  injection h with h;subst h
  exact ⟨rfl,fun i c hc=>by simp at hc,fun i c hc=>by simp at hc⟩
 | cons c l ih =>
  intro l' h
  simp only [renT] at h
  split at h
  case h_2=>cases h
  rename_i c1 hc1
  split at h
  case h_2=>cases h
  rename_i l1 hl1
  injection h with h;subst h
  obtain ⟨g1,g2,g3⟩:=ih hl1
  refine ⟨by simp [g1],fun i d hd=>?_,fun i d hd=>?_⟩
  ·cases i with
   | zero=>simp at hd;subst hd;exact ⟨c1,rfl,hc1⟩
   | succ i=>exact g2 i d (by simpa using hd)
  ·cases i with
   | zero=>simp at hd;subst hd;exact ⟨c,rfl,hc1⟩
   | succ i=>exact g3 i d (by simpa using hd)
theorem renA_rep (hσ:∀ b b',σ b=some b'→ρA b'=ρB b) {c c':AV} (h:renA σ c=some c') {x:Value} (g:AVRep (CRep ρB) c x):AVRep (CRep ρA) c' x:=by
 unfold renA at h
 split at h
 ·split at h
  case h_2=>cases h
  rename_i l l1 hl
  injection h with h;subst h
  obtain ⟨g1,g2,g3⟩:=renT_get hl
  cases g with
  | tup _ xs hs hc =>
   refine .tup _ xs (by omega) fun i d hd=>?_
   obtain ⟨c,hc1,hc2⟩:=g3 i d hd
   exact (ren1_rep hσ hc2).1 (hc i c hc1)
 ·exact (ren1_rep hσ h).1 g
theorem renB_ro {k k':Blk} (h:renB σ k=some k'):k.isRo=false∧k'.isRo=false:=by
 unfold renB at h
 split at h
 case h_2=>cases h
 split at h
 case h_2=>cases h
 injection h with h;subst h
 exact ⟨rfl,rfl⟩
theorem renB_rep (hσ:∀ b b',σ b=some b'→ρA b'=ρB b) {k k':Blk} (h:renB σ k=some k') {w:World} {la:Pl}:BlkRep ρB w la k↔BlkRep ρA w la k':=by
 unfold renB at h
 split at h
 case h_2=>cases h
 split at h
 case h_2=>cases h
 rename_i ty cs cs' hl
 injection h with h;subst h
 obtain ⟨g1,g2,g3⟩:=renL_get hl
 refine ⟨fun g=>?_,fun g=>?_⟩
 ·cases g with
  | cells _ _ cur hh ht hle hf =>
   refine .cells _ _ cur hh ht (by omega) fun i d hd=>?_
   obtain ⟨c,hc1,hc2⟩:=g3 i d hd
   obtain ⟨x,hx,hr⟩:=hf i c hc1
   exact ⟨x,hx,(renC_rep hσ hc2).1 hr⟩
 ·cases g with
  | cells _ _ cur hh ht hle hf =>
   refine .cells _ _ cur hh ht (by omega) fun i d hd=>?_
   obtain ⟨c,hc1,hc2⟩:=g2 i d hd
   obtain ⟨x,hx,hr⟩:=hf i c hc1
   exact ⟨x,hx,(renC_rep hσ hc2).2 hr⟩
end
def uC:C→C→List (Nat×Nat)→List (Nat×Nat)
 | .ptr b _,.ptr b' _,acc=>(b',b)::acc
 | .sl b _ _ _,.sl b' _ _ _,acc=>(b',b)::acc
 | .mp b,.mp b',acc=>(b',b)::acc
 | _,_,acc=>acc
def uL:List C→List C→List (Nat×Nat)→List (Nat×Nat)
 | a::l,b::r,acc=>uL l r (uC a b acc)
 | _,_,acc=>acc
def uA:AV→AV→List (Nat×Nat)→List (Nat×Nat)
 | .c a,.c b,acc=>uC a b acc
 | .agg l,.agg r,acc=>uL l r acc
 | _,_,acc=>acc
def uAs:List AV→List AV→List (Nat×Nat)→List (Nat×Nat)
 | a::l,b::r,acc=>uAs l r (uA a b acc)
 | _,_,acc=>acc
def lkp:List (Nat×Nat)→Nat→Option Nat
 | [],_=>none
 | p::l,i=>match Nat.beq p.1 i with
  | true=>some p.2
  | false=>lkp l i
def uM (mem:Tr Blk):Nat→List Blk→List (Nat×Nat)→List (Nat×Nat)
 | _,[],acc=>acc
 | i,k::l,acc=>match lkp acc i with
  | none=>acc
  | some b=>match mem.get b,k with
   | some (.cells _ cs),.cells _ cs'=>uM mem (i+1) l (uL cs cs' acc)
   | _,_=>acc
def acts (acc:List (Nat×Nat)):Nat→List Blk→Option (List Nat)
 | _,[]=>some []
 | i,_::l=>match lkp acc i with
  | none=>none
  | some b=>match acts acc (i+1) l with
   | some r=>some (b::r)
   | none=>none
def idxO:List (Nat×Blk)→Nat→Nat→Option Nat
 | [],_,_=>none
 | p::l,n,b=>match Nat.beq p.1 b with
  | true=>some n
  | false=>idxO l (n+1) b
def sig (N:Nat) (act:List Nat) (out:List (Nat×Blk)) (nx:Nat) (b:Nat):Option Nat:=match Nat.blt b N with
 | true=>act[b]?
 | false=>idxO out nx b
def sameAs:List AV→List AV→Bool
 | [],[]=>true
 | a::l,b::r=>sameA a b && sameAs l r
 | _,_=>false
theorem sameAs_eq:∀ {l r:List AV},sameAs l r=true→l=r
 | [],[],_=>rfl
 | [],_::_,h=>by cases h
 | _::_,[],h=>by cases h
 | a::l,b::r,h=>by
  simp only [sameAs,Bool.and_eq_true] at h
  rw [sameA_eq h.1,sameAs_eq h.2]
def sameK':Blk→Blk→Bool
 | .cells a l,.cells b r=>Nat.beq a b && sameL l r
 | _,_=>false
theorem sameK'_eq {a b:Blk} (h:sameK' a b=true):a=b:=by
 unfold sameK' at h
 split at h
 ·simp only [Bool.and_eq_true] at h
  rw [Nat.eq_of_beq_eq_true h.1,sameL_eq h.2]
 ·cases h
def okM (σ:Nat→Option Nat) (mem:Tr Blk):List Nat→List Blk→Bool
  | [],[]=>true
  | b :: l, k :: r => (match renB σ k with
    | some k' => (match mem.get b with
      | some k2=>sameK' k' k2
      | none=>false)
    | none=>false) && okM σ mem l r
  | _,_=>false
def memN:Nat→List Nat→Bool
 | _,[]=>false
 | a,b::l=>Nat.beq a b || memN a l
theorem memN_iff {a:Nat}:∀ {l:List Nat},memN a l=true↔a∈l:=by
 intro l
 induction l with
 | nil=>simp [memN]
 | cons b l ih=>simp [memN,ih]
def nodN:List Nat→Bool
 | []=>true
 | a::l=>!memN a l && nodN l
theorem nodN_nd:∀ {l:List Nat},nodN l=true→l.Nodup:=by
 intro l
 induction l with
 | nil=>intro _;exact List.nodup_nil
 | cons a l ih =>
  intro h
  simp only [nodN,Bool.and_eq_true,Bool.not_eq_true'] at h
  exact List.nodup_cons.2 ⟨fun hm=>(by rw [memN_iff.2 hm] at h;cases h.1),ih h.2⟩
theorem okM_get {σ:Nat→Option Nat} {mem:Tr Blk}:∀ {l:List Nat} {r:List Blk},okM σ mem l r=true→l.length=r.length∧∀ (i b:Nat) (k:Blk),l[i]? = some b→r[i]? = some k→∃ k2,renB σ k=some k2∧mem.get b=some k2:=by
 intro l
 induction l with
 | nil =>
  intro r h
  cases r with
  | nil=>exact ⟨rfl,fun i b k hb=>by simp at hb⟩
  | cons=>cases h
 | cons a l ih =>
  intro r h
  cases r with
  | nil=>cases h
  | cons k r =>
   simp only [okM,Bool.and_eq_true] at h
   obtain ⟨h1,h2⟩:=h
   obtain ⟨g1,g2⟩:=ih h2
   refine ⟨by simp [g1],fun i b k' hb hk=>?_⟩
   cases i with
   | zero =>
    simp at hb hk
    subst hb hk
    split at h1
    case h_2=>cases h1
    rename_i k1 hk1
    split at h1
    case h_2=>cases h1
    rename_i k2 hk2
    have:=sameK'_eq h1
    subst this
    exact ⟨k1,hk1,hk2⟩
   | succ i=>exact g2 i b k' (by simpa using hb) (by simpa using hk)
def outs (σ:Nat→Option Nat):List (Nat×Blk)→Option (List Blk)
 | []=>some []
 | p::l=>match renB σ p.2 with
  | some k=>match outs σ l with
   | some r=>some (k::r)
   | none=>none
  | none=>none
theorem outs_get {σ:Nat→Option Nat}:∀ {l:List (Nat×Blk)} {r:List Blk},outs σ l=some r→l.length=r.length∧∀ (i:Nat) (k:Blk),r[i]? = some k→∃ p,l[i]? = some p∧renB σ p.2=some k:=by
 intro l
 induction l with
 | nil =>
  intro r h
  simp only [outs] at h
  injection h with h;subst h
  exact ⟨rfl,fun i k hk=>by simp at hk⟩
 | cons p l ih =>
  intro r h
  simp only [outs] at h
  split at h
  case h_2=>cases h
  rename_i k hk
  split at h
  case h_2=>cases h
  rename_i r1 hr1
  injection h with h;subst h
  obtain ⟨g1,g2⟩:=ih hr1
  refine ⟨by simp [g1],fun i k' hk'=>?_⟩
  cases i with
  | zero=>simp at hk';subst hk';exact ⟨p,rfl,hk⟩
  | succ i=>exact g2 i k' (by simpa using hk')
def hand1 (e:Memo) (args:List AV) (mem:Tr Blk) (nx:Nat):Option (AV×Tr Blk×Nat):=
 match acts (uM mem 0 e.mem (uAs args e.args [])) 0 e.mem with
 | none=>none
 | some act=>match renT (sig e.mem.length act e.out nx) e.args with
  | none=>none
  | some args'=>match sameAs args' args && (nodN act && okM (sig e.mem.length act e.out nx) mem act e.mem) with
   | false=>none
   | true=>match outs (sig e.mem.length act e.out nx) e.out with
    | none=>none
    | some ks=>match renA (sig e.mem.length act e.out nx) e.res with
     | none=>none
     | some r=>some (r,putOut mem nx ks,nx+ks.length)
structure MemoOk (P:Program) (e:Memo):Prop where
 ok:∃ mem' nx',FSnd P e.f e.args (memT 0 e.mem) e.mem.length e.res mem' nx'∧(∀ (i:Nat) (k:Blk),e.mem[i]? = some k→mem'.get i=some k)∧∀ (i:Nat) (p:Nat×Blk),e.out[i]? = some p→e.mem.length≤p.1∧mem'.get p.1=some p.2
 nd:(e.out.map Prod.fst).Nodup
theorem idxO_get:∀ {l:List (Nat×Blk)} {n b j:Nat},idxO l n b=some j→n≤j∧∃ p,l[j - n]? = some p∧p.1=b:=by
 intro l
 induction l with
 | nil=>intro n b j h;cases h
 | cons p l ih =>
  intro n b j h
  simp only [idxO] at h
  split at h
  ·rename_i hb
   injection h with h;subst h
   exact ⟨Nat.le_refl _,p,by simp,Nat.eq_of_beq_eq_true hb⟩
  ·obtain ⟨h1,q,h2,h3⟩:=ih h
   refine ⟨by omega,q,?_,h3⟩
   rw [show j - n=(j - (n+1))+1 by omega]
   simpa using h2
theorem hand1_snd {P:Program} {e:Memo} (he:MemoOk P e) {args:List AV} {mem:Tr Blk} {nx:Nat} {res:AV} {mem':Tr Blk} {nx':Nat} (h:hand1 e args mem nx=some (res,mem',nx')):FSnd P e.f args mem nx res mem' nx':=by
  unfold hand1 at h
  split at h
  case h_1=>cases h
  rename_i act hact
  clear hact
  split at h
  case h_1=>cases h
  rename_i args' hargs
  split at h
  case h_1=>cases h
  rename_i hchk
  simp only [Bool.and_eq_true] at hchk
  obtain ⟨hc1,hc2,hc3⟩:=hchk
  have:=sameAs_eq hc1
  subst this
  have hnd:=nodN_nd hc2
  obtain ⟨hlen,hmem⟩:=okM_get hc3
  split at h
  case h_1=>cases h
  rename_i ks hks
  split at h
  case h_1=>cases h
  rename_i r hr
  injection h with h
  obtain ⟨h1,h2⟩:=Prod.mk.inj h
  subst h1
  obtain ⟨h3,h4⟩:=Prod.mk.inj h2
  subst h3
  subst h4
  obtain ⟨hklen,hkget⟩:=outs_get hks
  obtain ⟨memc,nxc,hF,hsame,hout⟩:=he.ok
  generalize hσ:sig e.mem.length act e.out nx=σ at *
  have hσ1:∀ b,b<e.mem.length→σ b=act[b]?:=fun b hb=>by
    rw [← hσ]
    have:Nat.blt b e.mem.length=true:=by rw [Nat.blt_eq];exact hb
    simp only [sig,this]
  have hσ2:∀ b,¬ b<e.mem.length→σ b=idxO e.out nx b:=fun b hb=>by
    rw [← hσ]
    have:Nat.blt b e.mem.length=false:=by
      cases hh:Nat.blt b e.mem.length with
      | false=>rfl
      | true=>rw [Nat.blt_eq] at hh;exact absurd hh hb
    simp only [sig,this]
  refine ⟨⟨by omega,fun b k hb=>?_,fun b k hb hr=>?_⟩,fun K w0 ρ w vs hms hfree hl hrep=>?_⟩
  · rw [putOut_get] at hb
    split at hb
    · rename_i hh;exact .inr hh
    · exact .inl ⟨k,hb⟩
  · rw [putOut_get] at hb
    split at hb
    · obtain ⟨p, hp, hk⟩ := hkget _ _ hb
      rw [(renB_ro hk).2] at hr;cases hr
    · exact hb
  · -- canonical plan
    let ρc:Plan:=fun b=>if b<e.mem.length then (act[b]?).bind ρ else none
    let m1:Mem:=fun b k=>mem.m b k∧b∈act
    let K':Nat→Prop:=fun x=>x<w.heap.size∧¬ ∃ b k la,m1 b k∧k.isRo=false∧ρ b=some la∧la.b=x
    have hat:∀ i,i<e.mem.length→∃ b k k2 la,act[i]? = some b∧e.mem[i]? = some k∧renB σ k=some k2∧mem.m b k2∧ρ b=some la∧ρc i=some la∧BlkRep ρ w la k2:=fun i hi=>by
      have h1:act[i]? = some (act[i]'(by omega)):=List.getElem?_eq_getElem (by omega)
      have h2:e.mem[i]? = some (e.mem[i]'hi):=List.getElem?_eq_getElem hi
      obtain ⟨k2,h3,h4⟩:=hmem i _ _ h1 h2
      obtain ⟨la,h5,h6⟩:=hms.blk _ _ h4
      exact ⟨_,_,k2,la,h1,h2,h3,h4,h5,by simp only [ρc];rw [if_pos hi,h1];exact h5,h6⟩
    have hσρ:∀ b b',σ b=some b'→b<e.mem.length→ρ b'=ρc b:=fun b b' hb hlt=>by
      rw [hσ1 b hlt] at hb
      simp only [ρc]
      rw [if_pos hlt,hb]
      rfl
    let σ0:Nat→Option Nat:=fun b=>if b<e.mem.length then act[b]? else none
    have hM:MSat K' w ρc (memT 0 e.mem).m w:=by
      have hget:∀ b k,(memT 0 e.mem).m b k→b<e.mem.length∧e.mem[b]? = some k:=fun b k hb=>by
        unfold Tr.m at hb
        rw [memT_get,if_pos (Nat.zero_le _),Nat.sub_zero] at hb
        exact ⟨(List.getElem?_eq_some_iff.1 hb).1,hb⟩
      refine ⟨fun b k hb=>?_,fun b k la hb hla=>?_,fun b b' k k' la la' hb hb' hla hla' _ _ hq=>?_,fun b hb=>hb.1,⟨rfl,rfl,rfl,Nat.le_refl _,fun _ _=>rfl⟩⟩
      · obtain ⟨h1, h2⟩ := hget b k hb
        obtain ⟨b0,k0,k2,la,g1,g2,g3,g4,g5,g6,g7⟩:=hat b h1
        rw [h2] at g2;injection g2 with g2;subst g2
        refine ⟨la,g6,?_⟩
        have key:∀ (c c':C) (x:Value),renC σ c=some c'→CRep ρ c' x→CRep ρc c x:=by
          intro c c' x hc hx
          have hnew:∀ b b',σ b=some b'→¬ b<e.mem.length→ρ b'=none:=fun b b' hb hn=>by
            rw [hσ2 b hn] at hb
            obtain ⟨h1,p,h2,h3⟩:=idxO_get hb
            have:=(List.getElem?_eq_some_iff.1 h2).1
            exact hfree b' h1 (by omega)
          have hboth:∀ b b',σ b=some b'→ρ b'=ρc b:=fun b b' hb=>by
            by_cases hn:b<e.mem.length
            · exact hσρ b b' hb hn
            · rw [hnew b b' hb hn];simp only [ρc];rw [if_neg hn]
          exact (renC_rep hboth hc).2 hx
        unfold renB at g3
        split at g3
        case h_2=>cases g3
        split at g3
        case h_2=>cases g3
        rename_i ty cs cs' hl'
        injection g3 with g3;subst g3
        obtain ⟨q1,q2,q3⟩:=renL_get hl'
        cases g7 with
        | cells _ _ cur hh ht hle hf =>
          refine .cells _ _ cur hh ht (by omega) fun i d hd=>?_
          obtain ⟨c,hc1,hc2⟩:=q2 i d hd
          obtain ⟨x,hx,hrx⟩:=hf i c hc1
          exact ⟨x,hx,key d c x hc2 hrx⟩
      · obtain ⟨h1, h2⟩ := hget b k hb
        obtain ⟨b0,k0,k2,la0,g1,g2,g3,g4,g5,g6,g7⟩:=hat b h1
        rw [g6] at hla;injection hla with hla;subst hla
        rw [h2] at g2;injection g2 with g2;subst g2
        exact ⟨fun _ hk=>hk.2 ⟨b0,k2,la0,⟨g4,List.mem_of_getElem? g1⟩,(renB_ro g3).2,g5,rfl⟩,fun hr=>(by rw [(renB_ro g3).1] at hr;cases hr),(hms.own b0 k2 la0 g4 g5).2.2⟩
      · obtain ⟨h1, h2⟩ := hget b k hb
        obtain ⟨h1',h2'⟩:=hget b' k' hb'
        obtain ⟨b0,k0,k2,la0,g1,g2,g3,g4,g5,g6,g7⟩:=hat b h1
        obtain ⟨b0',k0',k2',la0',g1',g2',g3',g4',g5',g6',g7'⟩:=hat b' h1'
        rw [g6] at hla;injection hla with hla;subst hla
        rw [g6'] at hla';injection hla' with hla';subst hla'
        have:=hms.inj b0 b0' k2 k2' la0 la0' g4 g4' g5 g5' (renB_ro g3).2 (renB_ro g3').2 hq
        subst this
        exact (List.getElem?_inj (List.getElem?_eq_some_iff.1 g1).1 hnd).1 (g1.trans g1'.symm)
    have hboth:∀ b b',σ b=some b'→ρ b'=ρc b:=fun b b' hb=>by
      by_cases hn:b<e.mem.length
      · exact hσρ b b' hb hn
      · rw [hσ2 b hn] at hb
        obtain ⟨h1,p,h2,h3⟩:=idxO_get hb
        have:=(List.getElem?_eq_some_iff.1 h2).1
        rw [hfree b' h1 (by omega)]
        simp only [ρc];rw [if_neg hn]
    have hfc:Free ρc e.mem.length nxc:=fun b h1 h2=>by simp only [ρc];rw [if_neg (by omega)]
    obtain ⟨ha1,ha2,ha3⟩:=renT_get hargs
    have hra:∀ k v,e.args[k]? = some v→AVRep (CRep ρc) v (vs.getD k undef):=fun k v hv=>by
      obtain ⟨v',hv1,hv2⟩:=ha2 k v hv
      exact (ren1_rep hboth hv2).2 (hrep k v' hv1)
    refine (hF.run K' w ρc w vs hM hfc (by omega) hra).mono fun e' w' ⟨x,ρc',he',hg,hm',hx⟩=>?_
    let ρ':Plan:=fun b=>if nx≤b∧b<nx+ks.length then (e.out[b - nx]?).bind (fun p=>ρc' p.1) else ρ b
    have hold:∀ b,b<e.mem.length→ρc' b=ρc b:=fun b hb=>hg.out b (.inl hb)
    have hρold:∀ b la,ρ b=some la→ρ' b=ρ b:=fun b la hb=>by
      simp only [ρ']
      rw [if_neg fun hh=>by have:=hfree b hh.1 hh.2;rw [hb] at this;cases this]
    have hnewb:∀ j p,e.out[j]? = some p→ρ' (nx+j)=ρc' p.1:=fun j p hp=>by
      have:=(List.getElem?_eq_some_iff.1 hp).1
      simp only [ρ']
      rw [if_pos (by omega),show nx+j - nx=j by omega,hp]
      rfl
    have hboth':∀ b b',σ b=some b'→ρ' b'=ρc' b:=fun b b' hb=>by
      by_cases hn:b<e.mem.length
      · obtain ⟨b0, k0, k2, la0, g1, g2, g3, g4, g5, g6, g7⟩ := hat b hn
        rw [hσ1 b hn,g1] at hb;injection hb with hb;subst hb
        rw [hρold _ _ g5,hold b hn,g5,g6]
      · rw [hσ2 b hn] at hb
        obtain ⟨h1,p,h2,h3⟩:=idxO_get hb
        have:=hnewb (b' - nx) p h2
        rw [show nx+(b' - nx)=b' by omega] at this
        rw [this,h3]
    have hgr:Grown ρ nx (nx+ks.length) ρ':=⟨fun b la hb=>by rw [hρold b la hb];exact hb,fun b hb=>by simp only [ρ'];rw [if_neg (by omega)]⟩
    refine ⟨x,ρ',he',hgr,?_,renA_rep hboth' hr hx⟩
    let m2:Mem:=fun b k=>(b∈act∧mem.m b k)∨∃ j p,e.out[j]? = some p∧b=nx+j∧renB σ p.2=some k
    have hw2:∀ b k,m2 b k→∃ i kc,memc.m i kc∧ρ' b=ρc' i∧renB σ kc=some k∧((i<e.mem.length∧act[i]? = some b)∨∃ j p,e.out[j]? = some p∧b=nx+j∧p.1=i):=fun b k hb=>by
      rcases hb with ⟨hb,hk⟩ | ⟨j,p,hp,rfl,hk⟩
      · obtain ⟨i, hi⟩ := List.getElem?_of_mem hb
        have hlt:=(List.getElem?_eq_some_iff.1 hi).1
        obtain ⟨b0,k0,k2,la0,g1,g2,g3,g4,g5,g6,g7⟩:=hat i (by omega)
        rw [hi] at g1;injection g1 with g1;subst g1
        have:k=k2:=by
          have h1:mem.get b=some k:=hk
          have h2:mem.get b=some k2:=g4
          rw [h1] at h2;injection h2
        subst this
        exact ⟨i,k0,hsame i k0 g2,by rw [hρold _ _ g5,hold i (by omega),g5,g6],g3,.inl ⟨by omega,hi⟩⟩
      · exact ⟨p.1,p.2,(hout j p hp).2,hnewb j p hp,hk,.inr ⟨j,p,hp,rfl,rfl⟩⟩
    have hM2:MSat K' w ρ' m2 w':=by
      refine ⟨fun b k hb=>?_,fun b k la hb hla=>?_,fun b b' k k' la la' hb hb' hla hla' _ _ hq=>?_,hm'.kept,hm'.fr⟩
      · obtain ⟨i, kc, h1, h2, h3, h4⟩ := hw2 b k hb
        obtain ⟨la,h5,h6⟩:=hm'.blk i kc h1
        exact ⟨la,h2.trans h5,(renB_rep hboth' h3).1 h6⟩
      · obtain ⟨i, kc, h1, h2, h3, h4⟩ := hw2 b k hb
        have:=hm'.own i kc la h1 (h2.symm.trans hla)
        exact ⟨fun _=>this.1 (renB_ro h3).1,fun hr=>(by rw [(renB_ro h3).2] at hr;cases hr),this.2.2⟩
      · obtain ⟨i, kc, h1, h2, h3, h4⟩ := hw2 b k hb
        obtain ⟨i',kc',h1',h2',h3',h4'⟩:=hw2 b' k' hb'
        have hii:=hm'.inj i i' kc kc' la la' h1 h1' (h2.symm.trans hla) (h2'.symm.trans hla') (renB_ro h3).1 (renB_ro h3').1 hq
        subst hii
        rcases h4 with ⟨h5,h6⟩ | ⟨j,p,h5,h6,h7⟩<;>rcases h4' with ⟨h5',h6'⟩ | ⟨j',p',h5',h6',h7'⟩
        · rw [h6] at h6';injection h6'
        · have:=(hout j' p' h5').1;omega
        · have:=(hout j p h5).1;omega
        · have e1 : (e.out.map Prod.fst)[j]? = some i := by rw [List.getElem?_map, h5]; simp [h7]
          have e2:(e.out.map Prod.fst)[j']? = some i:=by rw [List.getElem?_map,h5'];simp [h7']
          have:=(List.getElem?_inj (List.getElem?_eq_some_iff.1 e1).1 he.nd).1 (e1.trans e2.symm)
          omega
    refine hms.frame (m1:=m1) (m2:=m2) (fun b k hb=>hb.1) hgr.le hM2 fun b k hb=>?_
    unfold Tr.m at hb
    rw [putOut_get] at hb
    split at hb
    · rename_i hh
      obtain ⟨p,hp,hk⟩:=hkget _ _ hb
      exact .inl ⟨.inr ⟨b - nx,p,hp,by omega,hk⟩,fun hr=>by rw [(renB_ro hk).2] at hr;cases hr⟩
    · by_cases hb2:b∈act
      · exact .inl ⟨.inl ⟨hb2,hb⟩,fun _=>hb⟩
      · exact .inr ⟨hb,fun k1 hk1=>hb2 hk1.2⟩
def handL (l:List Memo) (h0:Call'):Call':=fun f args mem nx=>match l with
 | []=>h0 f args mem nx
 | e::l=>match Nat.beq e.f f with
  | true=>match hand1 e args mem nx with
   | some r=>some r
   | none=>handL l h0 f args mem nx
  | false=>handL l h0 f args mem nx
theorem handL_snd {P:Program} {h0:Call'} (hh:CallSnd P h0):∀ {l:List Memo},(∀ e∈l,MemoOk P e)→CallSnd P (handL l h0):=by
 intro l
 induction l with
 | nil=>intro _ f args mem nx res mem' nx' h;exact hh f args mem nx res mem' nx' h
 | cons e l ih =>
  intro hl f args mem nx res mem' nx' h
  have ih:=ih fun x hx=>hl x (List.mem_cons_of_mem _ hx)
  simp only [handL] at h
  split at h
  ·rename_i hf
   have:=Nat.eq_of_beq_eq_true hf
   subst this
   split at h
   ·rename_i r hr
    injection h with h;subst h
    exact hand1_snd (hl e (List.mem_cons_self ..)) hr
   ·exact ih _ _ _ _ _ _ _ h
  ·exact ih _ _ _ _ _ _ _ h
def sameR:AV→AV→Bool
 | .tup l,.tup r=>sameAs l r
 | a,b=>sameA a b
theorem sameR_eq {a b:AV} (h:sameR a b=true):a=b:=by
 unfold sameR at h
 split at h
 ·rw [sameAs_eq h]
 ·exact sameA_eq h
def keptM (m:Tr Blk):Nat→List Blk→Bool
  | _,[]=>true
  | i, k :: l => (match m.get i with
    | some k'=>sameK' k' k
    | none=>false) && keptM m (i+1) l
theorem keptM_get {m:Tr Blk}:∀ {l:List Blk} {n:Nat},keptM m n l=true→∀ (i:Nat) (k:Blk),l[i]? = some k→m.get (n+i)=some k:=by
 intro l
 induction l with
 | nil=>intro n _ i k hk;simp at hk
 | cons b l ih =>
  intro n h i k hk
  simp only [keptM,Bool.and_eq_true] at h
  cases i with
  | zero =>
   simp at hk
   subst hk
   obtain ⟨h,_⟩:=h
   split at h
   ·rename_i k' hk'
    rw [Nat.add_zero,hk',sameK'_eq h]
   ·cases h
  | succ i =>
   have:=ih h.2 i k (by simpa using hk)
   rw [← this]
   congr 1
   omega
def outM (m:Tr Blk) (N:Nat):List (Nat×Blk)→Bool
  | []=>true
  | p :: l => Nat.ble N p.1 && (match m.get p.1 with
    | some k'=>sameK' k' p.2
    | none=>false) && outM m N l
theorem outM_get {m:Tr Blk} {N:Nat}:∀ {l:List (Nat×Blk)},outM m N l=true→∀ (i:Nat) (p:Nat×Blk),l[i]? = some p→N≤p.1∧m.get p.1=some p.2:=by
 intro l
 induction l with
 | nil=>intro _ i p hp;simp at hp
 | cons b l ih =>
  intro h i p hp
  simp only [outM,Bool.and_eq_true] at h
  cases i with
  | zero =>
   simp at hp
   subst hp
   obtain ⟨⟨h0,h⟩,_⟩:=h
   split at h
   ·rename_i k' hk'
    exact ⟨Nat.le_of_ble_eq_true h0,by rw [hk',sameK'_eq h]⟩
   ·cases h
  | succ i=>exact ih h.2 i p (by simpa using hp)
def chk (e:Memo):Option (AV×Tr Blk×Nat)→Bool
 | some (r,m,n)=>sameR r e.res && (keptM m 0 e.mem && (outM m e.mem.length e.out && nodN (e.out.map Prod.fst)))
 | none=>false
theorem memo_of {P:Program} (hm:P.follows .mixedOrders=true) {l:List (Nat×F2)} (hT:TblOk P (mkT (tblE l))) {hand:Call'} (hh:CallSnd P hand) (k0 n:Nat) {e:Memo}
  (h:true=chk e (f2 (mkT2 l) hand k0 n e.f e.args (memT 0 e.mem) e.mem.length (fun v m n=>some (v,m,n)))):MemoOk P e:=by
 cases hr:f2 (mkT2 l) hand k0 n e.f e.args (memT 0 e.mem) e.mem.length (fun v m n=>some (v,m,n)) with
 | none=>rw [hr] at h;cases h
 | some q =>
  obtain ⟨r,m,nx⟩:=q
  rw [hr] at h
  have h:=h.symm
  simp only [chk,Bool.and_eq_true] at h
  obtain ⟨h1,h2,h3,h4⟩:=h
  have:=sameR_eq h1
  subst this
  have hs:=evF_sound hm hT hh k0 n _ _ _ _ _ _ _ (evF_of2 hr)
  exact ⟨⟨m,nx,hs,fun i k hk=>by have:=keptM_get h2 i k hk;simpa using this,outM_get h3⟩,nodN_nd h4⟩
theorem FOk.mk2 {P : Program} {f : Nat} {fn : Func} {e : F2} (hf : P.funcs[f]? = some fn) (hn : fn.ntmps = e.n) (hb : fn.body.isSome = true) (hname : (fn.name != "runtime.NumGoroutine") = true)
  (hic : IC.ofS P e.n (fn.body.getD .skip) = e.x.xc.ic) (hr : fn.results.toList.map (RR.of P) = e.ts.map some) (hok : e.x.xc.ok = true) : FOk P f e.fe := by
 obtain ⟨c, hc⟩ := Option.isSome_iff_exists.1 hb
 exact ⟨fn, c, hf, hn, hc, hname, by rw [hc] at hic; exact hic, hr, hok⟩
theorem all_c {P:Program} {f:Nat} {e:F2} {l:List (Nat×F2)} (h:FOk P f e.fe) (g:∀ p,p∈tblE l→FOk P p.1 p.2):∀ p,p∈tblE ((f,e)::l)→FOk P p.1 p.2:=by
 intro p hp
 simp only [tblE,List.map_cons,List.mem_cons] at hp
 rcases hp with rfl | hp
 ·exact h
 ·exact g p hp
theorem all_m {P:Program} {e:Memo} {l:List Memo} (h:MemoOk P e) (g:∀ p,p∈l→MemoOk P p):∀ p,p∈e::l→MemoOk P p:=by
 intro p hp
 rcases List.mem_cons.1 hp with rfl | hp
 ·exact h
 ·exact g p hp
def noHand:Call':=fun _ _ _ _=>none
theorem noHand_snd {P:Program}:CallSnd P noHand:=fun _ _ _ _ _ _ _ h=>by cases h
def ixb:List UInt8→Nat→Nat→Int
 | [],_,_=>-1
 | b::l,c,i=>match Nat.beq b.toNat c with
  | true=>.ofNat i
  | false=>ixb l c (i+1)
theorem ixb_eq (c:UInt8):∀ (l:List UInt8) (i:Nat),ixb l c.toNat i=if Lib.indexByte l c = -1 then -1 else Lib.indexByte l c+i:=by
 intro l
 induction l with
 | nil=>intro i;simp [ixb,Lib.indexByte]
 | cons b l ih =>
  intro i
  by_cases h:b=c
  ·subst h
   have h0:Lib.indexByte (b::l) b=0:=by simp [Lib.indexByte]
   rw [h0]
   simp [ixb]
  ·have h1:Nat.beq b.toNat c.toNat=false:=by
    cases hh:Nat.beq b.toNat c.toNat with
    | false=>rfl
    | true=>exact absurd (UInt8.toNat_inj.1 (Nat.eq_of_beq_eq_true hh)) h
   have h0:Lib.indexByte (b::l) c=if Lib.indexByte l c = -1 then -1 else Lib.indexByte l c+1:=by simp [Lib.indexByte,h]
   have:=Lib.indexByte_ge l c
   simp only [ixb,h1,ih]
   rw [h0]
   by_cases h3:Lib.indexByte l c = -1
   ·simp only [h3,if_true]
   ·simp only [h3,if_false]
    rw [if_neg (by omega)]
    push_cast
    omega
def hIx (f0:Nat):Call':=fun f args mem nx=>match Nat.beq f f0 with
 | true=>match args with
  | [.c (.v (.string s)),.c (.v (.int .u8 c))]=>some (.c (.v (.int .i64 (ixb s.data.toList (Nat.mod c.toNat 256) 0))),mem,nx)
  | _=>none
 | false=>none
theorem hIx_snd {P : Program} {f0 : Nat} {fn : Func} (hf : P.funcs[f0]? = some fn) (hname : (fn.name == "runtime.NumGoroutine") = false) (hb : fn.body.isNone = true) (hn : Extern.findNext fn = none) (he : Extern.find fn = some Extern.BytealgIndexByte.indexByte) : CallSnd P (hIx f0) := by
 intro f args mem nx res mem' nx' h
 simp only [hIx] at h
 split at h
 case h_2 => cases h
 rename_i hff
 have := Nat.eq_of_beq_eq_true hff
 subst this
 split at h
 case h_2 => cases h
 rename_i s c
 injection h with h
 obtain ⟨h1, h2⟩ := Prod.mk.inj h
 subst h1
 obtain ⟨h3, h4⟩ := Prod.mk.inj h2
 subst h3
 subst h4
 refine ⟨Low.refl _ _, fun K w0 ρ w vs hms hfree hl hrep => .inr ⟨.int .i64 (Lib.indexByte s.data.toList c.toNat.toUInt8), ?_, _, ρ, rfl, Grown.refl _ _, hms, ?_⟩⟩
 ·have h0 := hrep 0 _ rfl
  have h1 := hrep 1 _ rfl
  have e0 : vs.getD 0 undef = .string s := h0.valInv rfl
  have e1 : vs.getD 1 undef = .int .u8 c := h1.valInv rfl
  have hsz : vs.size = 2 := hl
  have hvs : vs = #[.string s, .int .u8 c] := by
   apply Array.ext
   ·exact hsz
   ·intro i h1 h2
    have : i = 0 ∨ i = 1 := by omega
    rcases this with rfl | rfl
    ·simpa [Array.getD_eq_getD_getElem?, hsz] using e0
    ·simpa [Array.getD_eq_getD_getElem?, hsz] using e1
  rw [hvs, run_callFunc_extern hf hname hb hn he, Lib.run_indexByteString]
  rfl
 ·have : ixb s.data.toList (Nat.mod c.toNat 256) 0 = Lib.indexByte s.data.toList c.toNat.toUInt8 := by
   have e : Nat.mod c.toNat 256 = c.toNat.toUInt8.toNat := by simp [Nat.toUInt8, UInt8.ofNat]; rfl
   rw [e, ixb_eq]
   split
   ·rename_i hh; exact hh.symm
   ·simp
  rw [this]
  exact .c _ _ (.v _ rfl)
open Go.RowKit
open Go.ChangeShapes Go.WideShapes
structure En (K:Nat→Prop) (w:World) (t:Tr Blk) (ρ:Plan) (nx:Nat):Prop where
 sat:MSat K w ρ t.m w
 free:∀ b,nx≤b→ρ b=none
 lt:∀ b k,t.get b=some k→b<nx
theorem nil_m {b:Nat} {k:Blk} (h:(Tr.nil:Tr Blk).m b k):False:=by
 simp only [Tr.m,Tr.get_nil] at h
 cases h
theorem en_nil (W:World):En (fun b=>b<W.heap.size) W .nil (fun _=>none) 0:=
 ⟨⟨fun b k h=>(nil_m h).elim,fun b k la h=>(nil_m h).elim,fun b b' k k' la la' h=>(nil_m h).elim,fun b h=>h,⟨rfl,rfl,rfl,Nat.le_refl _,fun _ _=>rfl⟩⟩,fun _ _=>rfl,fun b k h=>(nil_m h).elim⟩
theorem law_of {P:Program} {f:Nat} {call:Call'} (hc:CallSnd P call) (hcal:Go.Eng.callable P f=true) {W:World} {t:Tr Blk} {ρ:Plan} {nx:Nat} (hE:En (fun b=>b<W.heap.size) W t ρ nx) {args:List AV}
  (hF:FC call f args t.m fun v _=>v=.c (.v (.bool true))) {vs:Array Value} (hs:vs.size=args.length) (hr:∀ k v,args[k]? = some v→AVRep (CRep ρ) v (vs.getD k undef)) :
  Calls P f vs W fun e W'=>e=.returned (.bool true)∧Below W.heap.size W W':=by
 obtain ⟨v,mem',nx',z',H',h1,h2,h3,h4,h5,h6,h7,h8,h9⟩:=hF t nx ⟨fun b k hb=>⟨hb,hE.lt b k hb,by simp [fps]⟩,fun a ha=>by simp at ha,fun b hb=>by simp [fps] at hb,by simp [fps]⟩
 subst h9
 refine (((hc _ _ _ _ _ _ _ h1).run (fun b=>b<W.heap.size) W ρ W vs hE.sat (fun b hb _=>hE.free b hb) hs hr).calls hcal).mono fun e W' ⟨x,ρ',he,_,hm,hx⟩=>?_
 subst he
 refine ⟨?_,hm.fr.os,hm.fr.tape,hm.fr.output,hm.fr.size,hm.fr.block⟩
 cases hx with
 | c _ _ hx=>cases hx with
  | v _ _=>rfl
end Go.CE
