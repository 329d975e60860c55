/- States as functions; rows of calls. -/
import Derived.WalkKit
import Derived.Orders
import Derived.Test.YtlceligcgelbdaaGreatJA3
import Derived.Test.YtlceligcgelbdaaGreatJB1
set_option linter.unusedVariables false
set_option linter.unusedSimpArgs false
namespace Go.CE
open Go.RowKit
open Go.Eng (Od need need_pos need_some setL binV binBV)
def Wp (r:Option AS) (Q:AS→Prop):Prop:=match r with
 | some st=>Q st
 | none=>False
section
variable {call:Call'} {st:AS} {d:Nat}
theorem wp_go {i:I} {l:List I} {st':AS} {Q:AS→Prop} (h:evI call i st=some st'):Wp (evL call (i::l) st) Q=Wp (evL call l st') Q:=by simp only [evL,h]
theorem i_of {o:Ins} {v:AV} {mem:Tr Blk} {nx:Nat} (h:evV call o st=some (v,mem,nx)):evI call ⟨some d,none,o⟩ st=some ((⟨st.env,mem,nx⟩:AS).put d v):=by simp only [evI,gOk,h];rfl
theorem i_none {o:Ins} {v:AV} {mem:Tr Blk} {nx:Nat} (h:evV call o st=some (v,mem,nx)):evI call ⟨none,none,o⟩ st=some (⟨st.env,mem,nx⟩:AS):=by simp only [evI,gOk,h];rfl
theorem i_q {o:Ins} {v:AV} (hc:callee st o=none) (h:stepQ o st=some v):evI call ⟨some d,none,o⟩ st=some (st.put d v):=i_of (by simp only [evV,hc,h])
theorem i_gd {dd:Option Nat} {s:Nat} {want:Bool} {o:Ins} (h:st.get s=.c (.v (.bool want))):evI call ⟨dd,some (s,want),o⟩ st=evI call ⟨dd,none,o⟩ st:=by
 simp only [evI,gOk,gd,h]
 cases want<;>rfl
theorem i_gx {s:Nat} {want:Bool} {o:Ins} (h:st.get s=.c (.v (.bool (!want)))):evI call ⟨some d,some (s,want),o⟩ st=some (st.put d (.tup [])):=by
 simp only [evI,gOk,gd,h]
 cases want<;>rfl
theorem i_gt {s:Nat} {want:Bool} {o:Ins} (h:st.get s=.tup []):evI call ⟨some d,some (s,want),o⟩ st=some (st.put d (.tup [])):=by
 simp only [evI,gOk,gd,h];rfl
theorem i_mv {x:Od}:evI call ⟨some d,none,.mv x⟩ st=some (st.put d (st.ev x)):=i_q rfl rfl
theorem i_bin {op:BinOp} {x y:Od} {u v r:Value} (hx:st.ev x=.c (.v u)) (hy:st.ev y=.c (.v v)) (h:binW op u v=some r):evI call ⟨some d,none,.bin op x y⟩ st=some (st.put d (.c (.v r))):=i_q rfl (by simp only [stepQ,hx,hy,AV.val?,h];rfl)
theorem i_un {op:UnOp} {x:Od} {u r:Value} (hx:st.ev x=.c (.v u)) (h:unW op u=some r):evI call ⟨some d,none,.un op x⟩ st=some (st.put d (.c (.v r))):=i_q rfl (by simp only [stepQ,hx,AV.val?,h];rfl)
theorem i_iad {size:Nat} {x i:Od} {b o n:Nat} {kd:IntKind} {j:Nat} (hx:st.ev x=.c (.sl b o n size)) (hi:st.ev i=.c (.v (.int kd (j:Nat)))) (h:j<n):evI call ⟨some d,none,.iad size x i⟩ st=some (st.put d (.c (.ptr b (o+j * size)))):=
 i_q rfl (by simp only [stepQ,hx,hi,AV.int?];rw [need_pos ⟨trivial,by simp,by simp;omega⟩];simp)
theorem i_load {size:Nat} {x:Od} {b o ty:Nat} {agg:Bool} {cs:List C} (hx:st.ev x=.c (.ptr b o)) (hm:st.mem.get b=some (.cells ty cs)) (h:o+size≤cs.length):evI call ⟨some d,none,.load agg size x⟩ st=some (st.put d (mkAV agg ((cs.drop o).take size))):=
 i_q rfl (by simp only [stepQ,hx,AS.read,AS.blk,hm];rw [need_pos h])
theorem i_load1 {x:Od} {b o ty:Nat} {cs:List C} {c:C} (hx:st.ev x=.c (.ptr b o)) (hm:st.mem.get b=some (.cells ty cs)) (h:cs[o]? = some c):evI call ⟨some d,none,.load false 1 x⟩ st=some (st.put d (.c c)):=by
 have hl:o<cs.length:=(List.getElem?_eq_some_iff.1 h).1
 rw [i_load hx hm (by omega)]
 have:(cs.drop o).take 1=[c]:=by
  rw [List.drop_eq_getElem_cons hl]
  have:=(List.getElem?_eq_some_iff.1 h).2
  simp [this]
 rw [this]
 rfl
variable {l:List I} {Q:AS→Prop}
theorem w_nil (h:Q st):Wp (evL call [] st) Q:=h
theorem w_of {i:I} {st':AS} (h:evI call i st=some st') (hw:Wp (evL call l st') Q):Wp (evL call (i::l) st) Q:=by rw [wp_go h];exact hw
theorem w_mv {x:Od} {v:AV} (hx:st.ev x=v) (hw:Wp (evL call l (st.put d v)) Q):Wp (evL call (⟨some d,none,.mv x⟩::l) st) Q:=w_of i_mv (by rw [hx];exact hw)
theorem w_bin {op:BinOp} {x y:Od} {u v r:Value} (hx:st.ev x=.c (.v u)) (hy:st.ev y=.c (.v v)) (h:binW op u v=some r) (hw:Wp (evL call l (st.put d (.c (.v r)))) Q):Wp (evL call (⟨some d,none,.bin op x y⟩::l) st) Q:=w_of (i_bin hx hy h) hw
theorem w_un {op:UnOp} {x:Od} {u r:Value} (hx:st.ev x=.c (.v u)) (h:unW op u=some r) (hw:Wp (evL call l (st.put d (.c (.v r)))) Q):Wp (evL call (⟨some d,none,.un op x⟩::l) st) Q:=w_of (i_un hx h) hw
theorem w_iad {size:Nat} {x i:Od} {b o n:Nat} {kd:IntKind} {j:Nat} (hx:st.ev x=.c (.sl b o n size)) (hi:st.ev i=.c (.v (.int kd (j:Nat)))) (h:j<n) (hw:Wp (evL call l (st.put d (.c (.ptr b (o+j * size))))) Q):Wp (evL call (⟨some d,none,.iad size x i⟩::l) st) Q:=w_of (i_iad hx hi h) hw
theorem w_load1 {x:Od} {b o ty:Nat} {cs:List C} {c:C} (hx:st.ev x=.c (.ptr b o)) (hm:st.mem.get b=some (.cells ty cs)) (h:cs[o]? = some c) (hw:Wp (evL call l (st.put d (.c c))) Q):Wp (evL call (⟨some d,none,.load false 1 x⟩::l) st) Q:=w_of (i_load1 hx hm h) hw
theorem w_gd {dd:Option Nat} {s:Nat} {want:Bool} {o:Ins} (h:st.get s=.c (.v (.bool want))) (hw:Wp (evL call (⟨dd,none,o⟩::l) st) Q):Wp (evL call (⟨dd,some (s,want),o⟩::l) st) Q:=by
 simp only [evL,i_gd h]
 exact hw
theorem w_gx {s:Nat} {want:Bool} {o:Ins} (h:st.get s=.c (.v (.bool (!want)))) (hw:Wp (evL call l (st.put d (.tup []))) Q):Wp (evL call (⟨some d,some (s,want),o⟩::l) st) Q:=w_of (i_gx h) hw
theorem w_gt {s:Nat} {want:Bool} {o:Ins} (h:st.get s=.tup []) (hw:Wp (evL call l (st.put d (.tup []))) Q):Wp (evL call (⟨some d,some (s,want),o⟩::l) st) Q:=w_of (i_gt h) hw
theorem b_gtr (k:IntKind) (a b:Int):binW .gtr (.int k a) (.int k b)=some (.bool (decide (b<a))):=by simp [binW,binV,need]
theorem b_lss (k:IntKind) (a b:Int):binW .lss (.int k a) (.int k b)=some (.bool (decide (a<b))):=by simp [binW,binV,need]
theorem b_geq (k:IntKind) (a b:Int):binW .geq (.int k a) (.int k b)=some (.bool (decide (b≤a))):=by simp [binW,binV,need]
theorem b_leq (k:IntKind) (a b:Int):binW .leq (.int k a) (.int k b)=some (.bool (decide (a≤b))):=by simp [binW,binV,need]
theorem b_eql (k:IntKind) (a b:Int):binW .eql (.int k a) (.int k b)=some (.bool (decide (a=b))):=by
 simp only [binW,binV,need,if_true]
 congr 2
theorem b_neq (k:IntKind) (a b:Int):binW .neq (.int k a) (.int k b)=some (.bool (!decide (a=b))):=by
 simp only [binW,binV,need,if_true]
 congr 2
theorem b_add (k:IntKind) (a b:Int):binW .add (.int k a) (.int k b)=some (.int k (k.wrap (a+b))):=by simp [binW,binV,need]
theorem b_sub (k:IntKind) (a b:Int):binW .sub (.int k a) (.int k b)=some (.int k (k.wrap (a - b))):=by simp [binW,binV,need]
theorem b_mul (k:IntKind) (a b:Int):binW .mul (.int k a) (.int k b)=some (.int k (k.wrap (a * b))):=by simp [binW,binV,need]
theorem prodI {m b q:Nat}:(Int.ofNat m * (b:Int)≤(q:Int))↔m * b≤q:=by
 rw [show Int.ofNat m * (b:Int)=((m * b:Nat):Int) from rfl]
 exact Int.ofNat_le
end
def Wx (r:Option (Exit×AS)) (Q:Exit→AS→Prop):Prop:=match r with
 | some (e,st)=>Q e st
 | none=>False
def onN (Qn:AS→Prop) (Q:Exit→AS→Prop):Exit→AS→Prop:=fun e st=>match e with
 | .normal=>Qn st
 | e=>Q e st
theorem Wx.mono {r:Option (Exit×AS)} {Q R:Exit→AS→Prop} (h:Wx r Q) (g:∀ e st,Q e st→R e st):Wx r R:=by
 cases r with
 | none=>exact h
 | some p=>exact g _ _ h
section
variable {call:Call'} {k:Nat} {st:AS} {Q:Exit→AS→Prop}
theorem wx_region {l:List I} (h:Wp (evL call l st) (Q .normal)):Wx (evX call k (.region l) st) Q:=by
 simp only [evX]
 cases he:evL call l st with
 | none=>rw [he] at h;exact h
 | some st'=>rw [he] at h;exact h
theorem wx_seq {a b:XC} (h:Wx (evX call k a st) (onN (fun st=>Wx (evX call k b st) Q) Q)):Wx (evX call k (.seq a b) st) Q:=by
 simp only [evX]
 cases he:evX call k a st with
 | none=>rw [he] at h;exact h
 | some p =>
  obtain ⟨e,st'⟩:=p
  rw [he] at h
  cases e<;>exact h
theorem wx_cond {c:Od} {a b:XC} {t:Bool} (hc:st.ev c=.c (.v (.bool t))) (h:Wx (evX call k (if t=true then a else b) st) Q):Wx (evX call k (.cond c a b) st) Q:=by
 simp only [evX,hc,AV.bool?]
 cases t<;>exact h
theorem wx_block {id:Nat} {b:XC} (h:Wx (evX call k b st) (fun e=>Q (blockE id e))):Wx (evX call k (.block id b) st) Q:=by
 simp only [evX]
 cases he:evX call k b st with
 | none=>rw [he] at h;exact h
 | some p=>rw [he] at h;exact h
theorem wx_loop {b:XC} (h:Wx (evLoop (evX call k b) k st) Q):Wx (evX call k (.loop b) st) Q:=h
theorem wx_more {body:AS→Option (Exit×AS)} {n:Nat} (h:Wx (body st) (onN (fun st=>Wx (evLoop body n st) Q) Q)):Wx (evLoop body (n+1) st) Q:=by
 simp only [evLoop]
 cases he:body st with
 | none=>rw [he] at h;exact h
 | some p =>
  obtain ⟨e,st'⟩:=p
  rw [he] at h
  cases e<;>exact h
end
open Go.RowKit
open Go.Eng (Od need need_pos need_some setL binV binBV)
def Wd (r:Option Acc) (Q:Acc→Prop):Prop:=match r with
 | some a=>Q a
 | none=>False
def Acc.see (a:Acc) (d:D):AS:=⟨restr a.env d.sl,.nil,a.nx⟩
section
variable {call:Call'} {an:List Nat} {j:Nat} {ds:List D} {a:Acc} {Q:Acc→Prop}
theorem wd_nil (h:Q a):Wd (dRun call an j [] a) Q:=h
theorem wd_go {d:D} {a':Acc} (h:dStep call j d (an.getD j 0) a=some a') (hw:Wd (dRun call an (j+1) ds a') Q):Wd (dRun call an j (d::ds) a) Q:=by
 simp only [dRun,h]
 exact hw
theorem wx_draw {k:Nat} {an:List Nat} {st:AS} {R:Exit→AS→Prop} (h:Wd (dRun call an 0 ds ⟨st.env,st.nx,[(0,st.mem)],[],[],0⟩) (fun a=>R .normal a.fin)):Wx (evX call k (.draw ds an) st) R:=by
 simp only [evX,evD]
 cases he:dRun call an 0 ds ⟨st.env,st.nx,[(0,st.mem)],[],[],0⟩ with
 | none=>rw [he] at h;exact h
 | some a=>rw [he] at h;exact h
theorem restr_in {env:Tr AV} {l:List Nat} {q:Nat} (hq:q∈l):(restr env l).get q=env.get q:=by
 cases he:env.get q with
 | none =>
  cases hr:(restr env l).get q with
  | none=>rfl
  | some v=>have:=(restr_get hr).2;rw [he] at this;cases this
 | some v =>
  induction l with
  | nil=>cases hq
  | cons p l ih =>
   simp only [restr]
   cases hp:env.get p with
   | none =>
    rcases List.mem_cons.1 hq with rfl | h
    ·rw [he] at hp;cases hp
    exact ih h
   | some u =>
    simp only
    rw [Tr.get_put _ _ _ _ _ (by omega)]
    by_cases e:p=q
    ·subst e;rw [if_pos rfl,← hp,he]
    rw [if_neg e]
    rcases List.mem_cons.1 hq with h | h
    ·exact absurd h.symm e
    exact ih h
variable {d:Nat} {af:List Nat}
end
open Go.RowKit
open Go.Eng (Od need need_pos need_some setL binV binBV)
section
variable {call:Call'} {st:AS} {d:Nat} {l:List I} {Q:AS→Prop}
theorem new_mem (k:Blk) (i:Nat):(st.new k).mem.get i=if st.nx=i then some k else st.mem.get i:=by
 show (Tr.put (st.nx+1) st.mem st.nx (some k)).get i=_
 rw [Tr.get_put _ _ _ _ _ (by omega)]
theorem setB_mem (b:Nat) (k:Blk) (i:Nat):(st.setB b k).mem.get i=if b=i then some k else st.mem.get i:=by
 show (Tr.put (b+1) st.mem b (some k)).get i=_
 rw [Tr.get_put _ _ _ _ _ (by omega)]
theorem moveB_mem (b:Nat) (k:Blk) (i:Nat):(st.moveB b k).mem.get i=if st.nx=i then some k else if b=i then none else st.mem.get i:=by
 show (Tr.put (st.nx+1) (Tr.put (b+1) st.mem b none) st.nx (some k)).get i=_
 rw [Tr.get_put _ _ _ _ _ (by omega),Tr.get_put _ _ _ _ _ (by omega)]
theorem i_e {o:Ins} {v:AV} {st':AS} (hc:callee st o=none) (hq:stepQ o st=none) (h:stepE o st=some (st',v)):evI call ⟨some d,none,o⟩ st=some ((⟨st.env,st'.mem,st'.nx⟩:AS).put d v):=i_of (by simp only [evV,hc,hq,h])
theorem i_e0 {o:Ins} {v:AV} {st':AS} (hc:callee st o=none) (hq:stepQ o st=none) (h:stepE o st=some (st',v)):evI call ⟨none,none,o⟩ st=some (⟨st.env,st'.mem,st'.nx⟩:AS):=i_none (v:=v) (by simp only [evV,hc,hq,h])
theorem w_store {size:Nat} {x y:Od} {b o ty:Nat} {cs ds:List C} {v:AV} (hx:st.ev x=.c (.ptr b o)) (hy:st.ev y=v) (hv:v.cells? = some ds) (hm:st.mem.get b=some (.cells ty cs)) (hs:ds.length=size) (h:o+size≤cs.length)
    (hw:Wp (evL call l (st.setB b (.cells ty (setL cs o ds)))) Q):Wp (evL call (⟨none,none,.store size x y⟩::l) st) Q:=
  w_of (i_e0 (st' := st.setB b (.cells ty (setL cs o ds))) (v := .any) rfl rfl (by
    simp only [stepE,hx,hy,hv,hm]
    rw [need_pos ⟨hs,h⟩])) hw
theorem w_call {f:Nat} {args:List Od} {vs:List AV} {v:AV} {mem:Tr Blk} {nx:Nat} (ha:args.map st.ev=vs) (h:call f vs st.mem st.nx=some (v,mem,nx)) (hw:Wp (evL call l ((⟨st.env,mem,nx⟩:AS).put d v)) Q):Wp (evL call (⟨some d,none,.call f args⟩::l) st) Q:=
 w_of (i_of (by simp only [evV,callee,ha,h])) hw
theorem w_app0 {ty size bytes m:Nat} {zero:List Value} {x y:Od} {news:List C} {v:AV} (hx:st.ev x=.c (.v (.slice none 0 0))) (hy:st.ev y=v) (hr:st.row size v=some (m+1,news)) (h:(m+1) * bytes≤140737488355328) (hn:m+1≤9223372036854775807)
    (hw:Wp (evL call l ((st.new (.cells ty news)).put d (.c (.sl st.nx 0 (m+1) size)))) Q):Wp (evL call (⟨some d,none,.app ty size bytes zero x y⟩::l) st) Q:=
  w_of (i_e (st' := st.new (.cells ty news)) rfl rfl (by
    simp only [stepE,hy,hr,hx]
    rw [need_pos ⟨h,hn,by omega⟩])) hw
theorem w_app {ty size bytes m b o n:Nat} {zero:List Value} {x y:Od} {news cs:List C} {v:AV} (hx:st.ev x=.c (.sl b o n size)) (hy:st.ev y=v) (hr:st.row size v=some (m+1,news)) (hm:st.mem.get b=some (.cells ty cs)) (hl:o+n * size=cs.length)
    (h:(n+(m+1)) * bytes≤140737488355328) (hn:n+(m+1)≤9223372036854775807)
    (hw:Wp (evL call l ((st.moveB b (.cells ty (cs.drop o++news))).put d (.c (.sl st.nx 0 (n+(m+1)) size)))) Q):Wp (evL call (⟨some d,none,.app ty size bytes zero x y⟩::l) st) Q:=
  w_of (i_e (st' := st.moveB b (.cells ty (cs.drop o ++ news))) rfl rfl (by
    simp only [stepE,hy,hr,hx,hm]
    rw [need_pos ⟨hl,trivial,trivial,h,hn⟩])) hw
theorem w_appN {ty size bytes:Nat} {zero:List Value} {x y:Od} {v u:AV} {news:List C} (hx:st.ev x=u) (hu:(∃ b o n s,u=.c (.sl b o n s))∨u=.c (.v (.slice none 0 0))) (hy:st.ev y=v) (hr:st.row size v=some (0,news))
    (hw:Wp (evL call l (st.put d u)) Q):Wp (evL call (⟨some d,none,.app ty size bytes zero x y⟩::l) st) Q:=
  w_of (i_e (st' := st) rfl rfl (by
    rcases hu with ⟨b,o,n,s,rfl⟩ | rfl<;>simp only [stepE,hy,hr,hx])) hw
theorem row_sl {size b o n ty:Nat} {cs:List C} (hm:st.mem.get b=some (.cells ty cs)) (h:o+n * size≤cs.length):st.row size (.c (.sl b o n size))=some (n,(cs.drop o).take (n * size)):=by
 simp only [AS.row,AS.read,AS.blk,hm]
 rw [need_pos h]
 simp only []
 rw [need_pos trivial]
end
open Go.Eng (Od)
section
variable {call:Call'} {st:AS} {d:Nat} {l:List I} {Q:AS→Prop}
theorem w_fad {off:Nat} {x:Od} {b o:Nat} (hx:st.ev x=.c (.ptr b o)) (hw:Wp (evL call l (st.put d (.c (.ptr b (o+off))))) Q):Wp (evL call (⟨some d,none,.fad off x⟩::l) st) Q:=
 w_of (i_q rfl (by simp only [stepQ,hx])) hw
theorem w_cvi {k:IntKind} {x:Od} {k':IntKind} {n:Int} (hx:st.ev x=.c (.v (.int k' n))) (hw:Wp (evL call l (st.put d (.c (.v (.int k (k.wrap n)))))) Q):Wp (evL call (⟨some d,none,.cvi k x⟩::l) st) Q:=
 w_of (i_q rfl (by simp only [stepQ,hx];rfl)) hw
end
open Go.RowKit
open Go.Eng (Od need need_pos need_some setL binV binBV)
theorem wrap_in {z:Int} (h : -9223372036854775808≤z) (h':z<9223372036854775808):IntKind.i64.wrap z=z:=by
 simp [IntKind.wrap,IntKind.bits,IntKind.signed]
 omega
open Go.RowKit
open Go.Eng (Od need need_pos need_some setL binV binBV)
section
variable {call:Call'} {an:List Nat} {j:Nat} {a:Acc}
theorem flOk_all {bits:Nat} {m:Tr Blk}:∀ {l:List (Nat×Ins×Tr AV×AV)},(∀ p,p∈l→bits.testBit p.1=true)→flOk bits m l=some []:=by
 intro l
 induction l with
 | nil=>intro _;rfl
 | cons p l ih =>
  intro h
  obtain ⟨q,o,re,v⟩:=p
  simp only [flOk,ih fun p hp=>h p (List.mem_cons_of_mem _ hp),h (q,o,re,v) (List.mem_cons_self ..)]
end
open Go.RowKit
open Go.Eng (Od need need_pos need_some setL binV binBV)
abbrev Env:=Nat→AV
def eput (e:Env) (d:Nat) (v:AV):Env:=fun i=>cond (Nat.beq d i) v (e i)
def eputs (e:Env):List (Nat×AV)→Env
 | []=>e
 | p::l=>eput (eputs e l) p.1 p.2
theorem eput_get (e:Env) (d i:Nat) (v:AV):eput e d v i=if d=i then v else e i:=by
 unfold eput
 by_cases h:d=i
 ·subst h;simp
 rw [if_neg h]
 have:Nat.beq d i=false:=by
  cases hb:Nat.beq d i with
  | false=>rfl
  | true=>exact absurd (Nat.eq_of_beq_eq_true hb) h
 rw [this];rfl
theorem eput_self {e:Env} {d:Nat} {v:AV} (h:e d=v):eput e d v=e:=by
 funext i
 rw [eput_get]
 split
 ·rename_i hh;rw [← hh,h]
 rfl
abbrev nilv:AV:=.c (.v (.slice none 0 0))
inductive HA where
 | blk (b:Nat) (k:Blk)
 | row (u:AV) (ty size n:Nat) (cs:List C)
 | gen (fp:List Nat) (P:Tr Blk→Prop) (h:∀ m m',(∀ b,b∈fp→m'.get b=m.get b)→P m→P m')
def HA.fp:HA→List Nat
 | .blk b _=>[b]
 | .row u _ _ _ _=>match u with
  | .c (.sl b _ _ _)=>[b]
  | _=>[]
 | .gen l _ _=>l
def HA.ok (m:Tr Blk):HA→Prop
 | .blk b k=>m.get b=some k
 | .row u ty size n cs=>cs.length=n * size∧((n=0∧u=nilv)∨∃ b,u=.c (.sl b 0 n size)∧m.get b=some (.cells ty cs))
 | .gen _ P _=>P m
def fps (H:List HA):List Nat:=H.flatMap HA.fp
theorem fps_cons (a:HA) (H:List HA):fps (a::H)=a.fp++fps H:=rfl
theorem fps_app (H H':List HA):fps (H++H')=fps H++fps H':=by simp [fps]
theorem HA.ok_of {a:HA} {m m':Tr Blk} (h:a.ok m) (hm:∀ b,b∈a.fp→m'.get b=m.get b):a.ok m':=by
 cases a with
 | blk b k=>show m'.get b=some k;rw [hm b (by simp [HA.fp])];exact h
 | row u ty size n cs =>
  obtain ⟨h1,h2⟩:=h
  refine ⟨h1,?_⟩
  rcases h2 with h2 | ⟨b,rfl,h3⟩
  ·exact .inl h2
  exact .inr ⟨b,rfl,by rw [hm b (by simp [HA.fp])];exact h3⟩
 | gen l P hP=>exact hP m m' hm h
structure Hold (z:Mem) (H:List HA) (m:Tr Blk) (nx:Nat):Prop where
 z:∀ b k,z b k→m.get b=some k∧b<nx∧b ∉ fps H
 h:∀ a,a∈H→a.ok m
 lt:∀ b,b∈fps H→b<nx
 nd:(fps H).Nodup
class ZS (z:outParam Mem) (z':Mem):Prop where
 h:∀ b k,z b k→z' b k
abbrev zle (z z':Mem):Prop:=ZS z z'
instance zcf {z z':Mem}:CoeFun (ZS z z') fun _=>∀ b k,z b k→z' b k:=⟨fun h=>@ZS.h _ _ h⟩
theorem zle.refl (z:Mem):zle z z:=⟨fun _ _ h=>h⟩
theorem ZS.trans {a b c:Mem} (h:zle a b) (g:zle b c):zle a c:=⟨fun x k hx=>g x k (h x k hx)⟩
class Zl (a b:Mem):Prop where
 h:zle a b
instance zlr {a:Mem}:Zl a a:=⟨zle.refl _⟩
instance zls {a b c:Mem} [h1:ZS b c] [h2:Zl a b]:Zl a c:=⟨h2.h.trans h1⟩
theorem zI {a b:Mem} [h:Zl a b]:zle a b:=h.h
theorem zJ (b:Mem) {a:Mem} [h:Zl a b]:zle a b:=h.h
theorem evF_hand {T:Tr FE} {hand:Call'} {k0 k f:Nat} (hT:T.get f=none) (h0:Nat.blt f 1000000=true) (args:List AV) (mem:Tr Blk) (nx:Nat):evF T hand k0 (k+1) f args mem nx=hand f args mem nx:=by
 rw [evF,hT]
 simp only [h0]
structure Sf where
 e:Env
 z:Mem
 H:List HA
abbrev Sf.put (fs:Sf) (d:Nat) (v:AV):Sf:=⟨eput fs.e d v,fs.z,fs.H⟩
abbrev Sf.own (fs:Sf) (d:Nat) (v:AV) (a:HA):Sf:=⟨eput fs.e d v,fs.z,a::fs.H⟩
abbrev Sf.heap (fs:Sf) (H:List HA):Sf:=⟨fs.e,fs.z,H⟩
abbrev Sf.res (fs:Sf) (d:Nat) (v:AV) (z:Mem) (H:List HA):Sf:=⟨eput fs.e d v,z,H⟩
abbrev Sf.frz (fs:Sf) (z:Mem) (H:List HA):Sf:=⟨fs.e,z,H⟩
def Sf.ev (fs:Sf):Od→AV
 | .t i=>fs.e i
 | .k v=>avk v
 | .f f=>match Nat.blt f 1000000 with
  | true=>.c (.fn f [] [])
  | false=>.any
 | .bad=>.any
structure Base where
 m:Tr Blk
 n:Nat
 z:Mem
 L:List Nat
structure Rf (B:Base) (fs:Sf) (st:AS):Prop where
 env:∀ i,st.get i=fs.e i
 hold:Hold fs.z fs.H st.mem st.nx
 le:B.n≤st.nx
 old:∀ b,b<B.n→b ∉ B.L→st.mem.get b=B.m.get b
 own:∀ b,b∈fps fs.H→B.n≤b∨b∈B.L
 zle:zle B.z fs.z
 zin:∀ b k,fs.z b k→B.z b k∨B.n≤b∨b∈B.L
section
variable {B:Base} {fs:Sf} {st:AS}
theorem Rf.ev (h:Rf B fs st) (x:Od):st.ev x=fs.ev x:=by
 cases x with
 | t i=>exact h.env i
 | _=>rfl
theorem Rf.put (h:Rf B fs st) (d:Nat) (v:AV):Rf B (fs.put d v) (st.put d v):=by
 refine ⟨fun i=>?_,h.hold,h.le,h.old,h.own,h.zle,h.zin⟩
 rw [get_put,show (fs.put d v).e=eput fs.e d v from rfl,eput_get]
 split
 ·rfl
 exact h.env i
theorem Hold.new {z:Mem} {H:List HA} {m m':Tr Blk} {nx:Nat} (h:Hold z H m nx) (a:HA) (ha:a.ok m') (hfp:a.fp=[nx]) (hm:∀ b,b≠nx→m'.get b=m.get b):Hold z (a::H) m' (nx+1):=by
 have hne:∀ b,b∈fps H→b≠nx:=fun b hb e=>by have:=h.lt b hb;omega
 refine ⟨fun b k hb=>?_,fun x hx=>?_,fun b hb=>?_,?_⟩
 ·obtain ⟨h1,h2,h3⟩:=h.z b k hb
  refine ⟨by rw [hm b (by omega)];exact h1,by omega,?_⟩
  rw [fps_cons,hfp]
  simp only [List.singleton_append,List.mem_cons,not_or]
  exact ⟨by omega,h3⟩
 ·rcases List.mem_cons.1 hx with rfl | hx
  ·exact ha
  refine HA.ok_of (h.h x hx) fun b hb=>hm b (hne b ?_)
  exact List.mem_flatMap.2 ⟨x,hx,hb⟩
 ·rw [fps_cons,hfp] at hb
  rcases List.mem_cons.1 hb with rfl | hb
  ·omega
  have:=h.lt b hb;omega
 rw [fps_cons,hfp]
 exact List.nodup_cons.2 ⟨fun hb=>hne _ hb rfl,h.nd⟩
theorem Rf.new (h:Rf B fs st) {a:HA} {m':Tr Blk} (ha:a.ok m') (hfp:a.fp=[st.nx]) (hm:∀ b,b≠st.nx→m'.get b=st.mem.get b):Rf B ⟨fs.e,fs.z,a::fs.H⟩ ⟨st.env,m',st.nx+1⟩:=by
 refine ⟨h.env,h.hold.new a ha hfp hm,Nat.le_succ_of_le h.le,fun b hb hl=>?_,fun b hb=>?_,h.zle,h.zin⟩
 ·have:=h.le
  exact (hm b (by omega)).trans (h.old b hb hl)
 have hb:b∈fps (a::fs.H):=hb
 rw [fps_cons,hfp] at hb
 rcases List.mem_cons.1 hb with rfl | hb
 ·exact .inl h.le
 exact h.own b hb
end
inductive Rep1:List HA→HA→HA→List HA→Prop where
 | head (a a':HA) (l:List HA):Rep1 (a::l) a a' (a'::l)
 | tail (x a a':HA) (l l':List HA) (h:Rep1 l a a' l'):Rep1 (x::l) a a' (x::l')
theorem rep0 {a a':HA} {l:List HA}:Rep1 (a::l) a a' (a'::l):=.head ..
theorem repS {x a a':HA} {l l':List HA} (h:Rep1 l a a' l'):Rep1 (x::l) a a' (x::l'):=.tail _ _ _ _ _ h
theorem Rep1.mem {l l':List HA} {a a':HA} (h:Rep1 l a a' l'):a∈l:=by
 induction h with
 | head=>simp
 | tail x a a' l l' h ih=>simp [ih]
theorem Rep1.split {l l':List HA} {a a':HA} (h:Rep1 l a a' l'):∃ p q,l=p++a::q∧l'=p++a'::q:=by
 induction h with
 | head a a' l=>exact ⟨[],l,rfl,rfl⟩
 | tail x a a' l l' h ih =>
  obtain ⟨p,q,rfl,rfl⟩:=ih
  exact ⟨x::p,q,rfl,rfl⟩
theorem mem_fps {H:List HA} {b:Nat}:b∈fps H↔∃ a,a∈H∧b∈a.fp:=by simp [fps,List.mem_flatMap]
section
variable {B:Base} {fs:Sf} {st:AS}
theorem Rf.rep (h:Rf B fs st) {a a':HA} {H':List HA} {m':Tr Blk} {nx':Nat} (hr:Rep1 fs.H a a' H') (hn:st.nx≤nx') (ha:a'.ok m') (hf:∀ b,b∈a'.fp→b∈a.fp∨(st.nx≤b∧b<nx')) (hnd:a'.fp.Nodup)
  (hm:∀ b,b<st.nx→b ∉ a.fp→m'.get b=st.mem.get b):Rf B ⟨fs.e,fs.z,H'⟩ ⟨st.env,m',nx'⟩:=by
 obtain ⟨p,q,e1,e2⟩:=hr.split
 subst e2
 have hH:=h.hold
 rw [e1] at hH
 have hown:=h.own
 rw [e1] at hown
 have hnd0:=hH.nd
 rw [fps_app,fps_cons] at hnd0
 obtain ⟨n1,n2,n3⟩:=List.nodup_append.1 hnd0
 obtain ⟨n4,n5,n6⟩:=List.nodup_append.1 n2
 have hin:∀ b,b∈fps p∨b∈fps q→b ∉ a.fp∧b<st.nx:=by
  intro b hb
  refine ⟨fun hba=>?_,hH.lt b (by rw [fps_app,fps_cons];simp;rcases hb with hb | hb<;>simp [hb])⟩
  rcases hb with hb | hb
  ·exact n3 b hb b (by simp [hba]) rfl
  exact n6 b hba b hb rfl
 refine ⟨h.env,⟨fun b k hb=>?_,fun x hx=>?_,fun b hb=>?_,?_⟩,Nat.le_trans h.le hn,fun b hb hl=>?_,fun b hb=>?_,h.zle,h.zin⟩
 ·obtain ⟨h1,h2,h3⟩:=hH.z b k hb
  rw [fps_app,fps_cons] at h3 ⊢
  simp only [List.mem_append,not_or] at h3 ⊢
  refine ⟨by rw [hm b h2 h3.2.1];exact h1,Nat.lt_of_lt_of_le h2 hn,h3.1,fun hb2=>?_,h3.2.2⟩
  rcases hf b hb2 with h4 | h4
  ·exact h3.2.1 h4
  omega
 ·simp only [List.mem_append,List.mem_cons] at hx
  have hk:∀ x,x∈p∨x∈q→x.ok m':=fun x hx=>by
   refine HA.ok_of (hH.h x (by simp;rcases hx with hx | hx<;>simp [hx])) fun b hb=>?_
   have:=hin b (by rcases hx with hx | hx;exact .inl (mem_fps.2 ⟨x,hx,hb⟩);exact .inr (mem_fps.2 ⟨x,hx,hb⟩))
   exact hm b this.2 this.1
  rcases hx with hx | rfl | hx
  ·exact hk x (.inl hx)
  ·exact ha
  exact hk x (.inr hx)
 ·rw [fps_app,fps_cons] at hb
  simp only [List.mem_append] at hb
  rcases hb with hb | hb | hb
  ·exact Nat.lt_of_lt_of_le (hin b (.inl hb)).2 hn
  ·rcases hf b hb with h4 | h4
   ·exact Nat.lt_of_lt_of_le (hH.lt b (by rw [fps_app,fps_cons];simp [h4])) hn
   exact h4.2
  exact Nat.lt_of_lt_of_le (hin b (.inr hb)).2 hn
 ·rw [fps_app,fps_cons]
  have hd:∀ b,b∈fps p∨b∈fps q→b ∉ a'.fp:=fun b hb hb2=>by
   have:=hin b hb
   rcases hf b hb2 with h4 | h4
   ·exact this.1 h4
   omega
  refine List.nodup_append.2 ⟨n1,List.nodup_append.2 ⟨hnd,n5,fun x hx y hy e=>?_⟩,fun x hx y hy e=>?_⟩
  ·subst e;exact hd x (.inr hy) hx
  subst e
  rcases List.mem_append.1 hy with hy | hy
  ·exact hd x (.inl hx) hy
  exact n3 x hx x (by simp [hy]) rfl
 ·have hb1:b<st.nx:=Nat.lt_of_lt_of_le hb h.le
  refine (hm b hb1 fun hba=>?_).trans (h.old b hb hl)
  rcases hown b (by rw [fps_app,fps_cons];simp [hba]) with h1 | h1
  ·omega
  exact hl h1
 have hb:b∈fps (p++a'::q):=hb
 rw [fps_app,fps_cons] at hb
 simp only [List.mem_append] at hb
 rcases hb with hb | hb | hb
 ·exact hown b (by rw [fps_app,fps_cons];simp [hb])
 ·rcases hf b hb with h4 | h4
  ·exact hown b (by rw [fps_app,fps_cons];simp [h4])
  exact .inl (Nat.le_trans h.le h4.1)
 exact hown b (by rw [fps_app,fps_cons];simp [hb])
theorem Rf.frz (h:Rf B fs st) {p q:List HA} {b:Nat} {k:Blk} {a:HA} (e:fs.H=p++a::q) (hfp:a.fp=[b]) (ha:∀ m,a.ok m→m.get b=some k):Rf B ⟨fs.e,fun x y=>fs.z x y∨(x=b∧y=k),p++q⟩ st:=by
 have hH:=h.hold
 rw [e] at hH
 have hown:=h.own
 rw [e] at hown
 have hnd0:=hH.nd
 rw [fps_app,fps_cons,hfp] at hnd0
 have hbk:=ha _ (hH.h a (by simp))
 have hnb:b ∉ fps (p++q):=by
  rw [fps_app]
  obtain ⟨n1,n2,n3⟩:=List.nodup_append.1 hnd0
  simp only [List.mem_append,not_or]
  refine ⟨fun hb=>n3 b hb b (by simp) rfl,fun hb=>?_⟩
  exact (List.nodup_cons.1 n2).1 hb
 refine ⟨h.env,⟨fun x y hx=>?_,fun x hx=>?_,fun x hx=>?_,?_⟩,h.le,h.old,fun x hx=>?_,⟨fun x y hx=>.inl (h.zle x y hx)⟩,fun x y hx=>?_⟩
 ·rcases hx with hx | ⟨rfl,rfl⟩
  ·obtain ⟨h1,h2,h3⟩:=hH.z x y hx
   refine ⟨h1,h2,fun h4=>h3 ?_⟩
   rw [fps_app] at h4 ⊢
   rw [fps_cons]
   simp only [List.mem_append] at h4 ⊢
   rcases h4 with h4 | h4<;>simp [h4]
  exact ⟨hbk,hH.lt _ (by rw [fps_app,fps_cons,hfp];simp),hnb⟩
 ·refine hH.h x ?_
  simp only [List.mem_append,List.mem_cons] at hx ⊢
  rcases hx with hx | hx<;>simp [hx]
 ·refine hH.lt x ?_
  have hx:x∈fps (p++q):=hx
  rw [fps_app] at hx ⊢
  rw [fps_cons]
  simp only [List.mem_append] at hx ⊢
  rcases hx with hx | hx<;>simp [hx]
 ·rw [fps_app]
  obtain ⟨n1,n2,n3⟩:=List.nodup_append.1 hnd0
  exact List.nodup_append.2 ⟨n1,(List.nodup_cons.1 n2).2,fun x hx y hy=>n3 x hx y (by simp [hy])⟩
 ·refine hown x ?_
  have hx:x∈fps (p++q):=hx
  rw [fps_app] at hx ⊢
  rw [fps_cons]
  simp only [List.mem_append] at hx ⊢
  rcases hx with hx | hx<;>simp [hx]
 rcases hx with hx | ⟨rfl,rfl⟩
 ·exact h.zin x y hx
 exact .inr (hown x (by rw [fps_app,fps_cons,hfp];simp))
end
def FL (call:Call') (B:Base) (l:List I) (fs:Sf) (Q:Sf→Prop):Prop:=∀ st,Rf B fs st→Wp (evL call l st) fun st'=>∃ fs',Rf B fs' st'∧Q fs'
def FX (call:Call') (k:Nat) (B:Base) (c:XC) (fs:Sf) (Q:Exit→Sf→Prop):Prop:=∀ st,Rf B fs st→Wx (evX call k c st) fun e st'=>∃ fs',Rf B fs' st'∧Q e fs'
def seqQ (Qn:Sf→Prop) (Q:Exit→Sf→Prop):Exit→Sf→Prop:=fun e fs=>match e with
 | .normal=>Qn fs
 | e=>Q e fs
section
variable {call:Call'} {k:Nat} {B:Base} {fs:Sf} {Q:Exit→Sf→Prop}
theorem fx_mono {c:XC} {Q':Exit→Sf→Prop} (h:FX call k B c fs Q') (g:∀ e fs,Q' e fs→Q e fs):FX call k B c fs Q:=fun st r=>(h st r).mono fun e st' ⟨fs',r',q⟩=>⟨fs',r',g e fs' q⟩
theorem xG {l:List I} (h:FL call B l fs (Q .normal)):FX call k B (.region l) fs Q:=fun st r=>wx_region (h st r)
theorem fx_seq {a b : XC} (h : FX call k B a fs (seqQ (fun fs' => FX call k B b fs' Q) Q)) : FX call k B (.seq a b) fs Q := fun st r => wx_seq ((h st r).mono fun e st' ⟨fs', r', q⟩ => by
  cases e with
  | normal=>exact q st' r'
  | _=>exact ⟨fs',r',q⟩)
theorem xR {l:List I} {b:XC} (h:FL call B l fs (fun fs'=>FX call k B b fs' Q)):FX call k B (.seq (.region l) b) fs Q:=fx_seq (xG h)
theorem fx_of {c c':XC} (he:∀ st,evX call k c st=evX call k c' st) (h:FX call k B c' fs Q):FX call k B c fs Q:=fun st r=>by rw [he];exact h st r
theorem fx_ss {a b c : XC} (h : FX call k B (.seq a (.seq b c)) fs Q) : FX call k B (.seq (.seq a b) c) fs Q := fx_of (fun st => by
  simp only [evX]
  cases evX call k a st with
  | none=>rfl
  | some p=>obtain ⟨e,st1⟩:=p;cases e<;>rfl) h
theorem fx_kseq {r:XC} (h:FX call k B r fs Q):FX call k B (.seq .skip r) fs Q:=fx_of (fun _=>rfl) h
theorem fx_eseq {id:Nat} {r:XC} (h:Q (.exit id) fs):FX call k B (.seq (.exit id) r) fs Q:=fun st rf=>⟨fs,rf,h⟩
theorem fx_rseq {r:XC} (h:Q .ret fs):FX call k B (.seq .ret r) fs Q:=fun st rf=>⟨fs,rf,h⟩
theorem fx_skip (h:Q .normal fs):FX call k B .skip fs Q:=fun st rf=>⟨fs,rf,h⟩
theorem xT (h:Q .ret fs):FX call k B .ret fs Q:=fun st rf=>⟨fs,rf,h⟩
theorem fx_exit {id:Nat} (h:Q (.exit id) fs):FX call k B (.exit id) fs Q:=fun st rf=>⟨fs,rf,h⟩
theorem fx_block {id:Nat} {b:XC} (h:FX call k B b fs fun e=>Q (blockE id e)):FX call k B (.block id b) fs Q:=fun st r=>wx_block (h st r)
theorem fx_condB {c:Od} {a b:XC} {t:Bool} (hc:fs.ev c=.c (.v (.bool t))) (h1:t=true→FX call k B a fs Q) (h2:t=false→FX call k B b fs Q):FX call k B (.cond c a b) fs Q:=fun st r=>by
 refine wx_cond (t:=t) (by rw [r.ev];exact hc) ?_
 cases t with
 | true=>exact h1 rfl st r
 | false=>exact h2 rfl st r
theorem xD {c:Od} {a b:XC} {P:Prop} [Decidable P] (hc:fs.ev c=.c (.v (.bool (decide P)))) (h1:P→FX call k B a fs Q) (h2:¬ P→FX call k B b fs Q):FX call k B (.cond c a b) fs Q:=
 fx_condB hc (fun h=>h1 (of_decide_eq_true h)) (fun h=>h2 (of_decide_eq_false h))
theorem fx_condN {c:Od} {a b:XC} {P:Prop} [Decidable P] (hc:fs.ev c=.c (.v (.bool (!decide P)))) (h1:¬ P→FX call k B a fs Q) (h2:P→FX call k B b fs Q):FX call k B (.cond c a b) fs Q:=
 fx_condB hc (fun h=>h1 (by simpa using h)) (fun h=>h2 (by simpa using h))
theorem fx_condT {c:Od} {a b:XC} (hc:fs.ev c=.c (.v (.bool true))) (h:FX call k B a fs Q):FX call k B (.cond c a b) fs Q:=fx_condB hc (fun _=>h) (fun h=>by cases h)
theorem fx_condF {c:Od} {a b:XC} (hc:fs.ev c=.c (.v (.bool false))) (h:FX call k B b fs Q):FX call k B (.cond c a b) fs Q:=fx_condB hc (fun h=>by cases h) (fun _=>h)
theorem fx_cseq {c : Od} {a b r : XC} (h : FX call k B (.cond c (.seq a r) (.seq b r)) fs Q) : FX call k B (.seq (.cond c a b) r) fs Q := fx_of (fun st => by
  simp only [evX]
  cases (st.ev c).bool? with
  | none=>rfl
  | some t=>cases t<;>rfl) h
theorem sq_n {Qn:Sf→Prop} (h:Qn fs):seqQ Qn Q .normal fs:=h
theorem sq_r {Qn:Sf→Prop} (h:Q .ret fs):seqQ Qn Q .ret fs:=h
theorem sq_e {Qn:Sf→Prop} {id:Nat} (h:Q (.exit id) fs):seqQ Qn Q (.exit id) fs:=h
def LQ (I:Nat→Sf→Prop) (n:Nat) (Q:Exit→Sf→Prop):Exit→Sf→Prop:=fun e fs=>match e with
 | .normal=>∃ n',n'<n∧I n' fs
 | e=>Q e fs
theorem lq_n {I:Nat→Sf→Prop} {n n':Nat} (h:n'<n) (hi:I n' fs):LQ I n Q .normal fs:=⟨n',h,hi⟩
theorem lq_r {I:Nat→Sf→Prop} {n:Nat} (h:Q .ret fs):LQ I n Q .ret fs:=h
theorem lq_e {I:Nat→Sf→Prop} {n id:Nat} (h:Q (.exit id) fs):LQ I n Q (.exit id) fs:=h
theorem fx_loop {b:XC} (I:Nat→Sf→Prop) (step:∀ n fs,I n fs→FX call k B b fs (LQ I n Q)) (n:Nat) (h0:I n fs) (hk:n<k):FX call k B (.loop b) fs Q:=by
 have key:∀ (n:Nat) (j:Nat) (fs:Sf) (st:AS),n<j→I n fs→Rf B fs st→Wx (evLoop (evX call k b) j st) fun e st'=>∃ fs',Rf B fs' st'∧Q e fs':=by
  intro n
  induction n using Nat.strongRecOn with
  | ind n ih =>
   intro j fs st hj hi r
   obtain ⟨j,rfl⟩:∃ i,j=i+1:=⟨j - 1,by omega⟩
   refine wx_more ((step n fs hi st r).mono fun e st' ⟨fs',r',q⟩=>?_)
   cases e with
   | normal =>
    obtain ⟨n',hn,hi'⟩:=q
    exact ih n' hn j fs' st' (by omega) hi' r'
   | _=>exact ⟨fs',r',q⟩
 exact fun st r=>wx_loop (key n k fs st hk h0 r)
inductive AtL (e:Env):List (Nat×AV)→Prop where
 | nil:AtL e []
 | cons (i:Nat) (v:AV) (l:List (Nat×AV)) (h:e i=v) (t:AtL e l):AtL e ((i,v)::l)
theorem atn {e:Env}:AtL e []:=.nil
theorem atc {e:Env} {i:Nat} {v:AV} {l:List (Nat×AV)} (h:e i=v) (t:AtL e l):AtL e ((i,v)::l):=.cons i v l h t
theorem AtL.eq {e:Env} {l:List (Nat×AV)} (h:AtL e l):eputs e l=e:=by
 induction h with
 | nil=>rfl
 | cons i v l h t ih =>
  show eput (eputs e l) i v=e
  rw [ih]
  exact eput_self h
theorem fx_at {c:XC} {e:Env} {z:Mem} {H:List HA} {l:List (Nat×AV)} (h:AtL e l) (hx:∀ e',FX call k B c ⟨eputs e' l,z,H⟩ Q):FX call k B c ⟨e,z,H⟩ Q:=by
 have:=hx e
 rw [h.eq] at this
 exact this
end
open Go.RowKit
open Go.Eng (Od need need_pos need_some setL binV binBV)
def lenOf:AV→Option Nat
 | .c (.v (.slice none 0 0))=>some 0
 | .c (.sl _ _ n _)=>some n
 | .c .em=>some 0
 | _=>none
def fillSE (ev:Od→AV) (size:Nat):List C→List (Nat×Od)→Option (List C)
 | cs,[]=>some cs
 | cs,(i,x)::r=>match (ev x).cells? with
  | some ds=>need (ds.length=size∧i * size+size≤cs.length) (fillSE ev size (setL cs (i * size) ds) r)
  | none=>none
theorem fillS_eq (st:AS) (size:Nat) (cs:List C) (l:List (Nat×Od)):fillS st size cs l=fillSE st.ev size cs l:=by
 induction l generalizing cs with
 | nil=>rfl
 | cons p l ih =>
  obtain ⟨i,x⟩:=p
  simp only [fillS,fillSE]
  cases (st.ev x).cells? with
  | none=>rfl
  | some ds=>simp only [ih]
def fillCE (ev:Od→AV):List C→List (Nat×Nat×Od)→Option (List C)
 | cs,[]=>some cs
 | cs,(off,size,x)::r=>match (ev x).cells? with
  | some ds=>need (ds.length=size∧off+size≤cs.length) (fillCE ev (setL cs off ds) r)
  | none=>none
theorem fillC_eq (st:AS) (cs:List C) (l:List (Nat×Nat×Od)):fillC st cs l=fillCE st.ev cs l:=by
 induction l generalizing cs with
 | nil=>rfl
 | cons p l ih =>
  obtain ⟨i,j,x⟩:=p
  simp only [fillC,fillCE]
  cases (st.ev x).cells? with
  | none=>rfl
  | some ds=>simp only [ih]
def capsE (ev:Od→AV):List Od→Option (List (Bool×List C))
 | []=>some []
 | x::r=>match ev x,capsE ev r with
  | .c c,some l=>some ((false,[c])::l)
  | .agg cs,some l=>some ((true,cs)::l)
  | _,_=>none
theorem capsOf_eq (st:AS) (l:List Od):capsOf st l=capsE st.ev l:=by
 induction l with
 | nil=>rfl
 | cons x l ih =>
  simp only [capsOf,capsE,ih]
  cases st.ev x<;>cases capsE st.ev l<;>rfl
theorem Rf.evf {B:Base} {fs:Sf} {st:AS} (h:Rf B fs st):st.ev=fs.ev:=funext h.ev
theorem mem0 {a:HA} {l:List HA}:a∈a::l:=List.mem_cons_self ..
theorem memS {a x:HA} {l:List HA} (h:a∈l):a∈x::l:=List.mem_cons_of_mem _ h
theorem len1 {n m:Nat} (h:Nat.ble n m=true):n≤m:=Nat.le_of_ble_eq_true h
section
variable {call:Call'} {B:Base} {fs:Sf} {l:List I} {Q:Sf→Prop} {d:Nat}
theorem lN (h:Q fs):FL call B [] fs Q:=fun st r=>w_nil ⟨fs,r,h⟩
theorem fl_q {o:Ins} {v:AV} (hc:∀ st:AS,callee st o=none) (h:∀ st,Rf B fs st→stepQ o st=some v) (hw:FL call B l (fs.put d v) Q):FL call B (⟨some d,none,o⟩::l) fs Q:=fun st r=>w_of (i_q (hc st) (h st r)) (hw _ (r.put d v))
theorem lM {x:Od} {v:AV} (hx:fs.ev x=v) (hw:FL call B l (fs.put d v) Q):FL call B (⟨some d,none,.mv x⟩::l) fs Q:=fun st r=>w_mv ((r.ev x).trans hx) (hw _ (r.put d v))
theorem lB {op:BinOp} {x y:Od} {u v r:Value} (hx:fs.ev x=.c (.v u)) (hy:fs.ev y=.c (.v v)) (h:binW op u v=some r) (hw:FL call B l (fs.put d (.c (.v r))) Q):FL call B (⟨some d,none,.bin op x y⟩::l) fs Q:=
 fun st rf=>w_bin ((rf.ev x).trans hx) ((rf.ev y).trans hy) h (hw _ (rf.put _ _))
theorem fl_binB {op:BinOp} {x y:Od} {u v r:Value} (hx:fs.ev x=.c (.v u)) (hy:fs.ev y=.c (.v v)) (h:binBV op u v=some r) (hw:FL call B l (fs.put d (.c (.v r))) Q):FL call B (⟨some d,none,.binB op x y⟩::l) fs Q:=
 fl_q (fun _=>rfl) (fun st rf=>by simp only [stepQ,rf.ev,hx,hy,AV.val?,h];rfl) hw
theorem fl_un {op:UnOp} {x:Od} {u r:Value} (hx:fs.ev x=.c (.v u)) (h:unW op u=some r) (hw:FL call B l (fs.put d (.c (.v r))) Q):FL call B (⟨some d,none,.un op x⟩::l) fs Q:=fun st rf=>w_un ((rf.ev x).trans hx) h (hw _ (rf.put _ _))
theorem fl_cvi {k:IntKind} {x:Od} {k':IntKind} {n m:Int} (hx:fs.ev x=.c (.v (.int k' n))) (h:k.wrap n=m) (hw:FL call B l (fs.put d (.c (.v (.int k m)))) Q):FL call B (⟨some d,none,.cvi k x⟩::l) fs Q:=fun st rf=>w_cvi ((rf.ev x).trans hx) (by rw [h];exact hw _ (rf.put _ _))
theorem fl_len {x:Od} {v:AV} {n:Nat} (hx:fs.ev x=v) (h:lenOf v=some n) (hw:FL call B l (fs.put d (.c (.v (.int .i64 n)))) Q):FL call B (⟨some d,none,.len false x⟩::l) fs Q:=by
 refine fl_q (fun _=>rfl) (fun st rf=>?_) hw
 simp only [stepQ,rf.ev,hx]
 unfold lenOf at h
 split at h<;>first | (injection h with h;subst h;rfl) | cases h
theorem lF {off:Nat} {x:Od} {b o:Nat} (hx:fs.ev x=.c (.ptr b o)) (hw:FL call B l (fs.put d (.c (.ptr b (o+off)))) Q):FL call B (⟨some d,none,.fad off x⟩::l) fs Q:=fun st r=>w_fad ((r.ev x).trans hx) (hw _ (r.put _ _))
theorem fl_fld {agg:Bool} {size off:Nat} {x:Od} {cs:List C} {v:AV} (hx:fs.ev x=.agg cs) (hl:off+size≤cs.length) (hv:mkAV agg ((cs.drop off).take size)=v) (hw:FL call B l (fs.put d v) Q):FL call B (⟨some d,none,.fld agg size off x⟩::l) fs Q:=
 fl_q (fun _=>rfl) (fun st rf=>by simp only [stepQ,rf.ev,hx];rw [need_pos hl,hv]) hw
theorem fl_mkf {f:Nat} {first caps:List Od} {us cs:List (Bool×List C)} (h1:capsE fs.ev first=some us) (h2:capsE fs.ev caps=some cs) (hw:FL call B l (fs.put d (.c (.fn f us cs))) Q):FL call B (⟨some d,none,.mkf f first caps⟩::l) fs Q:=
 fl_q (fun _=>rfl) (fun st rf=>by simp only [stepQ,capsOf_eq,rf.evf,h1,h2]) hw
theorem fl_build {zero:List Value} {parts:List (Nat×Nat×Od)} {cs:List C} (h:fillCE fs.ev (zero.map fun v=>.v v) parts=some cs) (hw:FL call B l (fs.put d (.agg cs)) Q):FL call B (⟨some d,none,.build zero parts⟩::l) fs Q:=
 fl_q (fun _=>rfl) (fun st rf=>by simp only [stepQ,fillC_eq,rf.evf,h]) hw
theorem fl_nilck {x:Od} {b o:Nat} (hx:fs.ev x=.c (.ptr b o)) (hw:FL call B l (fs.put d (.c (.ptr b o))) Q):FL call B (⟨some d,none,.nilck x⟩::l) fs Q:=
 fl_q (fun _=>rfl) (fun st rf=>by simp only [stepQ,rf.ev,hx]) hw
theorem fl_mx {mn:Bool} {x y:Od} {k:IntKind} {a b m:Int} (hx:fs.ev x=.c (.v (.int k a))) (hy:fs.ev y=.c (.v (.int k b))) (hm:(match mn with | false=>if b > a then b else a | true=>if b<a then b else a)=m) (hw:FL call B l (fs.put d (.c (.v (.int k m)))) Q):FL call B (⟨some d,none,.mx mn x y⟩::l) fs Q:=
 fl_q (fun _=>rfl) (fun st rf=>by simp only [stepQ,rf.ev,hx,hy,AV.val?];rw [need_pos trivial];subst hm;cases mn<;>rfl) hw
theorem fl_iad {size:Nat} {x i:Od} {b o n:Nat} {kd:IntKind} {z:Int} (hx:fs.ev x=.c (.sl b o n size)) (hi:fs.ev i=.c (.v (.int kd z))) (j:Nat) (hj:z=(j:Int)) (h:j<n) (hw:FL call B l (fs.put d (.c (.ptr b (o+j * size)))) Q):FL call B (⟨some d,none,.iad size x i⟩::l) fs Q:=
 fun st r=>w_iad ((r.ev x).trans hx) ((r.ev i).trans (by rw [hi,hj])) h (hw _ (r.put _ _))
theorem fl_ld {agg:Bool} {size:Nat} {x:Od} {b o ty:Nat} {cs:List C} {v:AV} (hx:fs.ev x=.c (.ptr b o)) (hm:HA.blk b (.cells ty cs)∈fs.H) (hl:o+size≤cs.length) (hv:mkAV agg ((cs.drop o).take size)=v) (hw:FL call B l (fs.put d v) Q):FL call B (⟨some d,none,.load agg size x⟩::l) fs Q:=
 fun st r=>w_of (i_load ((r.ev x).trans hx) (r.hold.h _ hm) hl) (by rw [hv];exact hw _ (r.put _ _))
theorem fl_new {o:Ins} {k:Blk} {w:Nat→AV} (hc:∀ st:AS,callee st o=none) (hq:∀ st,stepQ o st=none) (he:∀ st,Rf B fs st→stepE o st=some (st.new k,w st.nx)) (hw:∀ b,FL call B l (fs.own d (w b) (.blk b k)) Q):FL call B (⟨some d,none,o⟩::l) fs Q:=fun st r=>by
 refine w_of (i_e (hc st) (hq st) (he st r)) ?_
 have r1:=r.new (a:=.blk st.nx k) (m':=(st.new k).mem) (by show (st.new k).mem.get st.nx=some k;rw [new_mem,if_pos rfl]) rfl (fun b hb=>by rw [new_mem,if_neg fun e=>hb e.symm])
 exact hw st.nx _ (r1.put d (w st.nx))
theorem fl_box {ty:Nat} {x:Od} {v:AV} {cs:List C} (hx:fs.ev x=v) (hv:v.cells? = some cs) (hw:∀ b,FL call B l (fs.own d (.c (.ptr b 0)) (.blk b (.cells ty cs))) Q):FL call B (⟨some d,none,.box ty x⟩::l) fs Q:=
 fl_new (w:=fun b=>.c (.ptr b 0)) (fun _=>rfl) (fun _=>rfl) (fun st r=>by simp only [stepE,r.ev,hx,hv]) hw
theorem fl_alloc {ty:Nat} {zero:List Value} (hw:∀ b,FL call B l (fs.own d (.c (.ptr b 0)) (.blk b (.cells ty (zero.map fun v=>.v v)))) Q):FL call B (⟨some d,none,.alloc ty zero⟩::l) fs Q:=
 fl_new (w:=fun b=>.c (.ptr b 0)) (fun _=>rfl) (fun _=>rfl) (fun st r=>rfl) hw
theorem fl_bslice {ty size len:Nat} {zero:List Value} {parts:List (Nat×Od)} {cs:List C} (h:fillSE fs.ev size (repl len (zero.map fun v=>.v v)) parts=some cs) (hw:∀ b,FL call B l (fs.own d (.c (.sl b 0 len size)) (.blk b (.cells ty cs))) Q):FL call B (⟨some d,none,.bslice ty size len zero parts⟩::l) fs Q:=
 fl_new (w:=fun b=>.c (.sl b 0 len size)) (fun _=>rfl) (fun _=>rfl) (fun st r=>by simp only [stepE,fillS_eq,r.evf,h]) hw
theorem fl_st {size:Nat} {x y:Od} {b o ty:Nat} {cs ds:List C} {v:AV} {H':List HA} (hx:fs.ev x=.c (.ptr b o)) (hy:fs.ev y=v) (hv:v.cells? = some ds) (hr:Rep1 fs.H (.blk b (.cells ty cs)) (.blk b (.cells ty (setL cs o ds))) H') (hs:ds.length=size) (h:o+size≤cs.length)
  (hw:FL call B l (fs.heap H') Q):FL call B (⟨none,none,.store size x y⟩::l) fs Q:=fun st r=>by
 refine w_store ((r.ev x).trans hx) ((r.ev y).trans hy) hv (r.hold.h _ hr.mem) hs h ?_
 exact hw _ (r.rep hr (Nat.le_refl _) (by show (st.setB b _).mem.get b=_;rw [setB_mem,if_pos rfl]) (fun c hc=>.inl hc) (by simp [HA.fp]) (fun c _ hc=>by show (st.setB b _).mem.get c=_;rw [setB_mem,if_neg fun e=>hc (by simp [HA.fp,e])]))
def Src (z:Mem) (H:List HA) (size:Nat) (v:AV) (m:Nat) (news:List C):Prop:=∀ (st:AS) (nx:Nat),Hold z H st.mem nx→st.row size v=some (m,news)
theorem src_blk {z:Mem} {H:List HA} {size b o m ty:Nat} {cs ds:List C} (hm:HA.blk b (.cells ty cs)∈H) (hl:o+m * size≤cs.length) (hd:(cs.drop o).take (m * size)=ds):Src z H size (.c (.sl b o m size)) m ds:=fun st nx h=>by
 rw [row_sl (h.h _ hm) hl,hd]
theorem ap_app {st:AS} (r:Rf B fs st) {ty size bytes n m:Nat} {zero:List Value} {x y:Od} {u v:AV} {cs news:List C} {H':AV→List HA} (hx:fs.ev x=u) (hy:fs.ev y=v) (hrow:st.row size v=some (m,news)) (hr:∀ u',Rep1 fs.H (.row u ty size n cs) (.row u' ty size (n+m) (cs++news)) (H' u')) (hl:news.length=m * size) (hb:(n+m) * bytes≤140737488355328) (hn:n+m≤9223372036854775807)
    (hw:∀ c':C,sameC c' c'=true→FL call B l (fs.res d (.c c') fs.z (H' (.c c'))) Q):Wp (evL call (⟨some d,none,.app ty size bytes zero x y⟩::l) st) fun st'=>∃ fs',Rf B fs' st'∧Q fs':=by
  obtain ⟨g1,g2⟩:=r.hold.h _ (hr nilv).mem
  have hx':=(r.ev x).trans hx
  have hy':=(r.ev y).trans hy
  cases m with
  | zero =>
    have e:news=[]:=List.eq_nil_of_length_eq_zero (by omega)
    subst e
    refine w_appN (u:=u) hx' ?_ hy' hrow ?_
    · rcases g2 with ⟨_, rfl⟩ | ⟨b, rfl, _⟩
      · exact .inr rfl
      · exact .inl ⟨_,_,_,_,rfl⟩
    · have h1:=hr u
      rw [List.append_nil,Nat.add_zero] at h1
      obtain ⟨c0,hc0,hs0⟩:∃ c0,u=.c c0∧sameC c0 c0=true:=by rcases g2 with ⟨_,rfl⟩ | ⟨b,rfl,_⟩<;>exact ⟨_,rfl,by simp [sameC,sameV]⟩
      subst hc0
      exact hw c0 hs0 _ ((r.rep h1 (Nat.le_refl _) (r.hold.h _ h1.mem) (fun b hb=>.inl hb) (by rcases g2 with ⟨_,h⟩ | ⟨b,h,_⟩<;>injection h with h<;>subst h<;>simp [HA.fp]) (fun _ _ _=>rfl)).put d (.c c0))
  | succ m =>
    rcases g2 with ⟨rfl,rfl⟩ | ⟨b,rfl,h3⟩
    · have e : cs = [] := List.eq_nil_of_length_eq_zero (by omega)
      subst e
      refine w_app0 hx' hy' hrow (by simpa using hb) (by omega) ?_
      have h1:=hr (.c (.sl st.nx 0 (m+1) size))
      rw [List.nil_append,Nat.zero_add] at h1
      exact hw _ (by simp [sameC]) _ ((r.rep (m':=(st.new (.cells ty news)).mem) (nx':=st.nx+1) h1 (by omega) ⟨hl,.inr ⟨st.nx,rfl,by rw [new_mem,if_pos rfl]⟩⟩ (fun c hc=>.inr (by simp [HA.fp] at hc;omega)) (by simp [HA.fp]) (fun c hc _=>by rw [new_mem,if_neg (by omega)])).put d _)
    · refine w_app hx' hy' hrow h3 (by omega) (by simpa using hb) (by omega) ?_
      have h1:=hr (.c (.sl st.nx 0 (n+(m+1)) size))
      have hb2:b<st.nx:=r.hold.lt b (mem_fps.2 ⟨_,h1.mem,by simp [HA.fp]⟩)
      refine hw _ (by simp [sameC]) _ ((r.rep (m':=(st.moveB b (.cells ty (cs.drop 0++news))).mem) (nx':=st.nx+1) h1 (by omega) ⟨by rw [List.length_append,g1,hl,← Nat.add_mul],.inr ⟨st.nx,rfl,by rw [moveB_mem,if_pos rfl];rfl⟩⟩ (fun c hc=>.inr (by simp [HA.fp] at hc;omega)) (by simp [HA.fp]) (fun c hc hc2=>?_)).put d _)
      rw [moveB_mem,if_neg (by omega),if_neg fun e=>hc2 (by simp [HA.fp,e])]
theorem fl_app {ty size bytes n m:Nat} {zero:List Value} {x y:Od} {u v:AV} {cs news:List C} {H':AV→List HA} (hx:fs.ev x=u) (hy:fs.ev y=v) (hs:Src fs.z fs.H size v m news) (hr:∀ u',Rep1 fs.H (.row u ty size n cs) (.row u' ty size (n+m) (cs++news)) (H' u')) (hl:news.length=m * size) (hb:(n+m) * bytes≤140737488355328) (hn:n+m≤9223372036854775807)
  (hw:∀ c':C,sameC c' c'=true→FL call B l (fs.res d (.c c') fs.z (H' (.c c'))) Q):FL call B (⟨some d,none,.app ty size bytes zero x y⟩::l) fs Q:=fun st r=>ap_app r hx hy (hs st st.nx r.hold) hr hl hb hn hw
theorem fl_frz {a:HA} {p q:List HA} {b:Nat} {k:Blk} (e:fs.H=p++a::q) (hfp:a.fp=[b]) (ha:∀ m,a.ok m→m.get b=some k) (hw:∀ z',zle fs.z z'→z' b k→FL call B l (fs.frz z' (p++q)) Q):FL call B l fs Q:=fun st r =>
 hw _ ⟨fun _ _ h=>.inl h⟩ (.inr ⟨rfl,rfl⟩) st (r.frz e hfp ha)
theorem lD {dd:Option Nat} {s:Nat} {want:Bool} {o:Ins} (h:fs.e s=.c (.v (.bool want))) (hw:FL call B (⟨dd,none,o⟩::l) fs Q):FL call B (⟨dd,some (s,want),o⟩::l) fs Q:=fun st r=>w_gd ((r.env s).trans h) (hw st r)
theorem lX {s:Nat} {want:Bool} {o:Ins} (h:fs.e s=.c (.v (.bool (!want)))) (hw:FL call B l (fs.put d (.tup [])) Q):FL call B (⟨some d,some (s,want),o⟩::l) fs Q:=fun st r=>w_gx ((r.env s).trans h) (hw _ (r.put _ _))
theorem fl_gt {s:Nat} {want:Bool} {o:Ins} (h:fs.e s=.tup []) (hw:FL call B l (fs.put d (.tup [])) Q):FL call B (⟨some d,some (s,want),o⟩::l) fs Q:=fun st r=>w_gt ((r.env s).trans h) (hw _ (r.put _ _))
theorem fl_splitB (s:Nat) {t:Bool} (h:fs.e s=.c (.v (.bool t))) (h1:t=true→FL call B l (fs.put s (.c (.v (.bool true)))) Q) (h2:t=false→FL call B l (fs.put s (.c (.v (.bool false)))) Q):FL call B l fs Q:=by
 have e:fs.put s (.c (.v (.bool t)))=fs:=by
  cases fs;simp only [Sf.put];rw [eput_self h]
 cases t with
 | true=>have:=h1 rfl;rw [e] at this;exact this
 | false=>have:=h2 rfl;rw [e] at this;exact this
theorem fl_splitD (s:Nat) {P:Prop} [Decidable P] (h:fs.e s=.c (.v (.bool (decide P)))) (h1:P→FL call B l (fs.put s (.c (.v (.bool true)))) Q) (h2:¬ P→FL call B l (fs.put s (.c (.v (.bool false)))) Q):FL call B l fs Q:=
 fl_splitB s h (fun h=>h1 (of_decide_eq_true h)) (fun h=>h2 (of_decide_eq_false h))
theorem fl_splitN (s:Nat) {P:Prop} [Decidable P] (h:fs.e s=.c (.v (.bool (!decide P)))) (h1:¬ P→FL call B l (fs.put s (.c (.v (.bool true)))) Q) (h2:P→FL call B l (fs.put s (.c (.v (.bool false)))) Q):FL call B l fs Q:=
 fl_splitB s h (fun h=>h1 (by simpa using h)) (fun h=>h2 (by simpa using h))
end
theorem wi64 {z:Int} (h : -9223372036854775808≤z∧z<9223372036854775808):IntKind.i64.wrap z=z:=wrap_in h.1 h.2
theorem wu32 {z:Int} (h:0≤z∧z<4294967296):IntKind.u32.wrap z=z:=by
 simp [IntKind.wrap,IntKind.bits,IntKind.signed];omega
theorem wu64 {z:Int} (h:0≤z∧z<18446744073709551616):IntKind.u64.wrap z=z:=by
 simp [IntKind.wrap,IntKind.bits,IntKind.signed];omega
theorem wu8 {z:Int} (h:0≤z∧z<256):IntKind.u8.wrap z=z:=by
 simp [IntKind.wrap,IntKind.bits,IntKind.signed];omega
theorem wu32m (z:Int):IntKind.u32.wrap z=z % 4294967296:=by
 simp [IntKind.wrap,IntKind.bits,IntKind.signed]
theorem wu64m (z:Int):IntKind.u64.wrap z=z % 18446744073709551616:=by
 simp [IntKind.wrap,IntKind.bits,IntKind.signed]
theorem b_quo' {k:IntKind} {a b r:Int} (ha:0≤a) (hb:0<b) (h:k.wrap (a / b)=r):binW .quo (.int k a) (.int k b)=some (.int k r):=by
 have:a.tdiv b=a / b:=Int.tdiv_eq_ediv_of_nonneg ha
 simp [binW,binV,need,show b≠0 by omega,this,h]
theorem b_rem' {k:IntKind} {a b r:Int} (ha:0≤a) (hb:0<b) (h:a % b=r):binW .rem (.int k a) (.int k b)=some (.int k r):=by
 have:a.tmod b=a % b:=Int.tmod_eq_emod_of_nonneg ha
 simp [binW,binV,need,show b≠0 by omega,this,h]
theorem b_add' {k:IntKind} {a b r:Int} (h:k.wrap (a+b)=r):binW .add (.int k a) (.int k b)=some (.int k r):=by rw [b_add,h]
theorem b_sub' {k:IntKind} {a b r:Int} (h:k.wrap (a - b)=r):binW .sub (.int k a) (.int k b)=some (.int k r):=by rw [b_sub,h]
theorem b_mul' {k:IntKind} {a b r:Int} (h:k.wrap (a * b)=r):binW .mul (.int k a) (.int k b)=some (.int k r):=by rw [b_mul,h]
open Go.RowKit
open Go.Eng (Od need need_pos need_some setL binV binBV)
def FCt (call:Call') (f:Nat) (args:List AV) (z:Mem) (H:List HA) (Post:AV→Mem→List HA→Prop):Prop:=
 ∀ mem nx,Hold z H mem nx→∃ v mem' nx' z' H',call f args mem nx=some (v,mem',nx')∧nx≤nx'∧(∀ b,b<nx→b ∉ fps H→mem'.get b=mem.get b)∧Hold z' H' mem' nx'∧zle z z' ∧
  (∀ b k,z' b k→z b k∨nx≤b∨b∈fps H)∧(∀ b,b∈fps H'→nx≤b∨b∈fps H)∧Post v z' H'
def FC (call:Call') (f:Nat) (args:List AV) (z:Mem) (Post:AV→Mem→Prop):Prop:=FCt call f args z [] fun v z' H'=>H'=[]∧Post v z'
theorem FCt.mono {call:Call'} {f:Nat} {args:List AV} {z:Mem} {H:List HA} {P Q:AV→Mem→List HA→Prop} (h:FCt call f args z H P) (g:∀ v z' H',zle z z'→P v z' H'→Q v z' H'):FCt call f args z H Q:=fun mem nx hh=>by
 obtain ⟨v,mem',nx',z',H',h1,h2,h3,h4,h5,h6,h7,h8⟩:=h mem nx hh
 exact ⟨v,mem',nx',z',H',h1,h2,h3,h4,h5,h6,h7,g v z' H' h5 h8⟩
theorem FC.mono {call:Call'} {f:Nat} {args:List AV} {z:Mem} {P Q:AV→Mem→Prop} (h:FC call f args z P) (g:∀ v z',zle z z'→P v z'→Q v z'):FC call f args z Q:=FCt.mono h fun v z' H' hz ⟨h1,h2⟩=>⟨h1,g v z' hz h2⟩
theorem Hold.left {z:Mem} {Hs Hr:List HA} {m:Tr Blk} {nx:Nat} (h:Hold z (Hs++Hr) m nx):Hold z Hs m nx:=by
 refine ⟨fun b k hb=>?_,fun a ha=>h.h a (by simp [ha]),fun b hb=>h.lt b (by rw [fps_app];simp [hb]),?_⟩
 ·obtain ⟨h1,h2,h3⟩:=h.z b k hb
  exact ⟨h1,h2,fun h4=>h3 (by rw [fps_app];simp [h4])⟩
 have:=h.nd
 rw [fps_app] at this
 exact (List.nodup_append.1 this).1
theorem Rf.callR {B:Base} {fs:Sf} {st:AS} (r:Rf B fs st) {Hs Hr H':List HA} (e:fs.H=Hs++Hr) {mem':Tr Blk} {nx':Nat} {z':Mem} (hn:st.nx≤nx') (hm:∀ b,b<st.nx→b ∉ fps Hs→mem'.get b=st.mem.get b) (hh:Hold z' H' mem' nx') (hz:CE.zle fs.z z')
    (hin:∀ b k,z' b k→fs.z b k∨st.nx≤b∨b∈fps Hs) (hown:∀ b,b∈fps H'→st.nx≤b∨b∈fps Hs):Rf B ⟨fs.e,z',H'++Hr⟩ ⟨st.env,mem',nx'⟩:=by
  have hH:=r.hold
  rw [e] at hH
  have ho:=r.own
  rw [e] at ho
  have hnd:=hH.nd
  rw [fps_app] at hnd
  obtain ⟨n1,n2,n3⟩:=List.nodup_append.1 hnd
  have hs:∀ b,b∈fps Hs→b∈fps (Hs++Hr):=fun b hb=>by rw [fps_app];simp [hb]
  have hr:∀ b,b∈fps Hr→b∈fps (Hs++Hr):=fun b hb=>by rw [fps_app];simp [hb]
  have hrl:∀ b,b∈fps Hr→b<st.nx∧b ∉ fps Hs:=fun b hb=>⟨hH.lt b (hr b hb),fun h4=>n3 b h4 b hb rfl⟩
  refine ⟨r.env,⟨fun b k hb=>?_,fun a ha=>?_,fun b hb=>?_,?_⟩,Nat.le_trans r.le hn,fun b hb hl=>?_,fun b hb=>?_,⟨fun b k hb=>hz b k (r.zle b k hb)⟩,fun b k hb=>?_⟩
  · obtain ⟨h1, h2, h3⟩ := hh.z b k hb
    refine ⟨h1,h2,?_⟩
    rw [fps_app]
    simp only [List.mem_append,not_or]
    refine ⟨h3,fun h4=>?_⟩
    have h5:=hrl b h4
    rcases hin b k hb with h6 | h6 | h6
    · exact (hH.z b k h6).2.2 (hr b h4)
    · omega
    · exact h5.2 h6
  · rcases List.mem_append.1 ha with ha | ha
    · exact hh.h a ha
    · refine HA.ok_of (hH.h a (by simp [ha])) fun b hb => ?_
      have h5:=hrl b (mem_fps.2 ⟨a,ha,hb⟩)
      exact hm b h5.1 h5.2
  · have hb:b∈fps (H'++Hr):=hb
    rw [fps_app] at hb
    rcases List.mem_append.1 hb with hb | hb
    · exact hh.lt b hb
    · exact Nat.lt_of_lt_of_le (hrl b hb).1 hn
  · rw [fps_app]
    refine List.nodup_append.2 ⟨hh.nd,n2,fun x hx y hy e=>?_⟩
    subst e
    have h5:=hrl x hy
    rcases hown x hx with h6 | h6
    · omega
    · exact h5.2 h6
  · refine (hm b (Nat.lt_of_lt_of_le hb r.le) fun h4=>?_).trans (r.old b hb hl)
    rcases ho b (hs b h4) with h5 | h5
    · omega
    · exact hl h5
  · have hb:b∈fps (H'++Hr):=hb
    rw [fps_app] at hb
    rcases List.mem_append.1 hb with hb | hb
    · rcases hown b hb with h6 | h6
      · exact .inl (Nat.le_trans r.le h6)
      · exact ho b (hs b h6)
    · exact ho b (hr b hb)
  · rcases hin b k hb with h6 | h6 | h6
    · exact r.zin b k h6
    · exact .inr (.inl (Nat.le_trans r.le h6))
    · exact .inr (ho b (hs b h6))
section
variable {call:Call'} {B:Base} {fs:Sf} {l:List I} {Q:Sf→Prop} {d:Nat}
theorem fl_callL {f:Nat} {args:List Od} {vs:List AV} {Hs Hr:List HA} {Post:AV→Mem→List HA→Prop} (ha:args.map fs.ev=vs) (e:fs.H=Hs++Hr) (hc:FCt call f vs fs.z Hs Post)
  (hw:∀ v z' H',zle fs.z z'→Post v z' H'→FL call B l (fs.res d v z' (H'++Hr)) Q):FL call B (⟨some d,none,.call f args⟩::l) fs Q:=fun st r=>by
 have hh:=r.hold
 rw [e] at hh
 obtain ⟨v,mem',nx',z',H',h1,h2,h3,h4,h5,h6,h7,h8⟩:=hc st.mem st.nx hh.left
 refine w_call (vs:=vs) (by rw [r.evf];exact ha) h1 ?_
 exact hw v z' H' h5 h8 _ ((r.callR e h2 h3 h4 h5 h6 h7).put d v)
theorem fl_call {f:Nat} {args:List Od} {vs:List AV} {Post:AV→Mem→Prop} (ha:args.map fs.ev=vs) (hc:FC call f vs fs.z Post)
  (hw:∀ v z',zle fs.z z'→Post v z'→FL call B l (fs.res d v z' fs.H) Q):FL call B (⟨some d,none,.call f args⟩::l) fs Q:=
 fl_callL (Hs:=[]) (Hr:=fs.H) ha rfl hc fun v z' H' hz ⟨h1,h2⟩=>by subst h1;exact hw v z' hz h2
theorem fl_callvL {t:Od} {f:Nat} {us cs:List (Bool×List C)} {args:List Od} {vs:List AV} {Hs Hr:List HA} {Post:AV→Mem→List HA→Prop} (ht:fs.ev t=.c (.fn f us cs)) (ha:AV.cs us++(args.map fs.ev++AV.cs cs)=vs) (e:fs.H=Hs++Hr) (hc:FCt call f vs fs.z Hs Post)
  (hw:∀ v z' H',zle fs.z z'→Post v z' H'→FL call B l (fs.res d v z' (H'++Hr)) Q):FL call B (⟨some d,none,.callv t args⟩::l) fs Q:=fun st r=>by
 have hh:=r.hold
 rw [e] at hh
 obtain ⟨v,mem',nx',z',H',h1,h2,h3,h4,h5,h6,h7,h8⟩:=hc st.mem st.nx hh.left
 refine w_of (i_of (v:=v) (mem:=mem') (nx:=nx') ?_) ?_
 ·simp only [evV,callee,r.ev,ht,r.evf,ha,h1]
 exact hw v z' H' h5 h8 _ ((r.callR e h2 h3 h4 h5 h6 h7).put d v)
theorem fl_callv {t:Od} {f:Nat} {us cs:List (Bool×List C)} {args:List Od} {vs:List AV} {Post:AV→Mem→Prop} (ht:fs.ev t=.c (.fn f us cs)) (ha:AV.cs us++(args.map fs.ev++AV.cs cs)=vs) (hc:FC call f vs fs.z Post)
  (hw:∀ v z',zle fs.z z'→Post v z'→FL call B l (fs.res d v z' fs.H) Q):FL call B (⟨some d,none,.callv t args⟩::l) fs Q:=
 fl_callvL (Hs:=[]) (Hr:=fs.H) ht ha rfl hc fun v z' H' hz ⟨h1,h2⟩=>by subst h1;exact hw v z' hz h2
end
def argE:List AV→Nat→AV
 | [],_=>.any
 | v::l,i=>match i with
  | 0=>v
  | i+1=>argE l i
theorem envOf_get:∀ (l:List AV) (k:Nat) (t:Tr AV) (mem:Tr Blk) (nx i:Nat),(⟨envOf k t l,mem,nx⟩:AS).get i=if k≤i∧i<k+l.length then argE l (i - k) else (⟨t,mem,nx⟩:AS).get i:=by
  intro l
  induction l with
  | nil =>
    intro k t mem nx i
    rw [if_neg (by simp only [List.length_nil];omega)]
    rfl
  | cons v l ih =>
    intro k t mem nx i
    have e:envOf k t (v::l)=envOf (k+1) (Tr.put (k+1) t k (some v)) l:=rfl
    rw [e,ih]
    have hg:(⟨Tr.put (k+1) t k (some v),mem,nx⟩:AS).get i=if k=i then v else (⟨t,mem,nx⟩:AS).get i:=get_put ⟨t,mem,nx⟩ k i v
    by_cases h:k+1≤i∧i<k+1+l.length
    · rw [if_pos h, if_pos (by simp; omega)]
      obtain ⟨j,hj⟩:∃ j,i - k=j+1:=⟨i - k - 1,by omega⟩
      rw [hj]
      show argE l (i - (k+1))=argE l j
      congr 1
      omega
    · rw [if_neg h,hg]
      by_cases h2:k=i
      · subst h2
        rw [if_pos rfl,if_pos (by simp),Nat.sub_self]
        rfl
      · rw [if_neg h2,if_neg (by simp;omega)]
theorem argE_get (args:List AV) (mem:Tr Blk) (nx i:Nat):(⟨envOf 0 .nil args,mem,nx⟩:AS).get i=argE args i:=by
  rw [envOf_get]
  by_cases h:i<args.length
  · rw [if_pos (by omega)];rfl
  · rw [if_neg (by omega)]
    have:∀ (l:List AV) (i:Nat),l.length≤i→argE l i=.any:=by
      intro l
      induction l with
      | nil=>intro i _;rfl
      | cons v l ih =>
        intro i hi
        cases i with
        | zero=>simp at hi
        | succ i=>exact ih i (by simpa using hi)
    rw [this args i (by omega)]
    simp [AS.get,Tr.get_nil]
inductive Res1 (fs:Sf):RR→AV→Prop where
 | t (i:Nat) (v:AV) (h:fs.e i=v):Res1 fs (.t i) v
 | c (i:Nat) (g:Bool) (s b o ty:Nat) (cs:List C) (v:AV) (hp:fs.e i=.c (.ptr b o)) (hm:HA.blk b (.cells ty cs)∈fs.H) (hl:o+s≤cs.length) (hv:mkAV g ((cs.drop o).take s)=v):Res1 fs (.c i g s) v
inductive ResL (fs:Sf):List RR→List AV→Prop where
 | nil:ResL fs [] []
 | cons (r:RR) (v:AV) (rs:List RR) (vs:List AV) (h:Res1 fs r v) (t:ResL fs rs vs):ResL fs (r::rs) (v::vs)
theorem rn {fs:Sf}:ResL fs [] []:=.nil
theorem rt {fs:Sf} {i:Nat} {v:AV} {rs:List RR} {vs:List AV} (h:fs.e i=v) (t:ResL fs rs vs):ResL fs (.t i::rs) (v::vs):=.cons _ _ _ _ (.t i v h) t
theorem rc {fs:Sf} {i:Nat} {g:Bool} {s b o ty:Nat} {cs:List C} {v:AV} {rs:List RR} {vs:List AV} (hp:fs.e i=.c (.ptr b o)) (hm:HA.blk b (.cells ty cs)∈fs.H) (hl:o+s≤cs.length) (hv:mkAV g ((cs.drop o).take s)=v) (t:ResL fs rs vs):ResL fs (.c i g s::rs) (v::vs):=.cons _ _ _ _ (.c i g s b o ty cs v hp hm hl hv) t
def packR:List AV→AV
 | [v]=>v
 | vs=>.tup vs
theorem resL_of {B:Base} {fs:Sf} {st:AS} (r:Rf B fs st) {ts:List RR} {vs:List AV} (h:ResL fs ts vs):resL st ts=some vs:=by
 induction h with
 | nil=>rfl
 | cons q v rs vs h t ih =>
  have h1:res1 st q=some v:=by
   cases h with
   | t i v h=>simp only [res1,r.env,h]
   | c i g s b o ty cs v hp hm hl hv =>
    have:=r.hold.h _ hm
    simp only [HA.ok] at this
    simp only [res1,r.env,hp,AS.read,AS.blk,this]
    rw [need_pos hl]
    simp only [hv]
  simp only [resL,h1,ih]
theorem resAV_of {B:Base} {fs:Sf} {st:AS} (r:Rf B fs st) {ts:List RR} {vs:List AV} (h:ResL fs ts vs):resAV st ts=some (packR vs):=by
 unfold resAV
 rw [resL_of r h]
 match vs with
 | []=>rfl
 | [v]=>rfl
 | _::_::_=>rfl
theorem fps_sub {H H':List HA} (h:H'.Sublist H):(fps H').Sublist (fps H):=by
 induction h with
 | slnil=>exact List.Sublist.refl _
 | cons a h ih=>rw [fps_cons];exact ih.trans (List.sublist_append_right _ _)
 | cons_cons a h ih=>rw [fps_cons,fps_cons];exact (List.Sublist.refl _).append ih
theorem Hold.sub {z:Mem} {H H':List HA} {m:Tr Blk} {nx:Nat} (h:Hold z H m nx) (hs:H'.Sublist H):Hold z H' m nx:=
 ⟨fun b k hb=>⟨(h.z b k hb).1,(h.z b k hb).2.1,fun h4=>(h.z b k hb).2.2 ((fps_sub hs).subset h4)⟩,fun a ha=>h.h a (hs.subset ha),fun b hb=>h.lt b ((fps_sub hs).subset hb),h.nd.sublist (fps_sub hs)⟩
def RetQ (ts:List RR) (Post:AV→Mem→List HA→Prop):Exit→Sf→Prop:=fun x fs=>(x=.ret∨x=.normal)∧∃ vs H',ResL fs ts vs∧H'.Sublist fs.H∧Post (packR vs) fs.z H'
theorem fct_of {T:Tr FE} {hand:Call'} {k0 k f:Nat} {e:FE} {args:List AV} {z:Mem} {H:List HA} {Post:AV→Mem→List HA→Prop} (hT:T.get f=some e) (hk:1≤k) (hl:args.length≤e.n)
  (h:∀ B j,k=j+1→FX (evF T hand k0 j) k0 B e.x ⟨argE args,z,H⟩ (RetQ e.ts Post)):FCt (evF T hand k0 k) f args z H Post:=fun mem nx hh=>by
 obtain ⟨j,rfl⟩:∃ j,k=j+1:=⟨k - 1,by omega⟩
 have r0:Rf ⟨mem,nx,z,fps H⟩ ⟨argE args,z,H⟩ ⟨envOf 0 .nil args,mem,nx⟩:=
  ⟨fun i=>argE_get args mem nx i,hh,Nat.le_refl _,fun b _ _=>rfl,fun b hb=>.inr hb,⟨fun _ _ h=>h⟩,fun b k hb=>.inl hb⟩
 have:=h _ j rfl _ r0
 simp only [evF,hT,Nat.ble_eq_true_of_le hl]
 cases he:evX (evF T hand k0 j) k0 e.x ⟨envOf 0 .nil args,mem,nx⟩ with
 | none=>rw [he] at this;exact this.elim
 | some p =>
  obtain ⟨x,st⟩:=p
  rw [he] at this
  obtain ⟨fs,r,hx,vs,H',h1,h2,h3⟩:=this
  have hf:fin e st=some (packR vs,st.mem,st.nx):=by simp only [fin,resAV_of r h1]
  refine ⟨packR vs,st.mem,st.nx,fs.z,H',?_,r.le,r.old,r.hold.sub h2,r.zle,r.zin,fun b hb=>r.own b ((fps_sub h2).subset hb),h3⟩
  rcases hx with rfl | rfl<;>exact hf
theorem fc_of {T:Tr FE} {hand:Call'} {k0 k f:Nat} {e:FE} {args:List AV} {z:Mem} {Post:AV→Mem→Prop} (hT:T.get f=some e) (hk:1≤k) (hl:args.length≤e.n)
  (h:∀ B j,k=j+1→FX (evF T hand k0 j) k0 B e.x ⟨argE args,z,[]⟩ (RetQ e.ts fun v z' H'=>H'=[]∧Post v z')):FC (evF T hand k0 k) f args z Post:=fct_of hT hk hl h
theorem rQ {fs:Sf} {ts:List RR} {vs:List AV} {x:Exit} {Post:AV→Mem→Prop} (hx:x=.ret∨x=.normal) (h:ResL fs ts vs) (hp:Post (packR vs) fs.z):RetQ ts (fun v z' H'=>H'=[]∧Post v z') x fs:=⟨hx,vs,[],h,List.nil_sublist _,rfl,hp⟩
open Go.RowKit
open Go.Eng (Od need need_pos need_some setL binV binBV)
def Blk.cs:Blk→Option (List C)
 | .cells _ cs=>some cs
 | .ro cs=>some cs
 | _=>none
def At (z:Mem) (b p:Nat) (cs:List C):Prop:=∃ k full,z b k∧k.cs=some full∧p+cs.length≤full.length∧(full.drop p).take cs.length=cs
theorem At.mono {z z':Mem} {b p:Nat} {cs:List C} (h:At z b p cs) (hz:zle z z'):At z' b p cs:=by
 obtain ⟨k,full,h1,h2⟩:=h
 exact ⟨k,full,hz _ _ h1,h2⟩
abbrev RT (α:Type):=Mem→List C→α→Prop
class RMono {α:Type} (R:RT α):Prop where
 mono:∀ {z z':Mem} {cs:List C} {a:α},zle z z'→R z cs a→R z' cs a
inductive SZ {α:Type} (size:Nat) (R:RT α) (z:Mem):AV→List α→Prop where
 | nil:SZ size R z nilv []
 | em:SZ size R z (.c .em) []
 | sl (b o n:Nat) (k:Blk) (full:List C) (l:List α) (hl:l.length=n) (hm:n≤9223372036854775807) (hz:z b k) (hk:k.cs=some full) (hf:o+n * size≤full.length) (h:∀ (i:Nat) (a:α),l[i]? = some a→R z ((full.drop (o+i * size)).take size) a):SZ size R z (.c (.sl b o n size)) l
section
variable {α:Type} {size:Nat} {R:RT α} [RMono R] {z z':Mem} {v:AV} {l:List α}
theorem SZ.mono (h:SZ size R z v l) (hz:zle z z'):SZ size R z' v l:=by
 cases h with
 | nil=>exact .nil
 | em=>exact .em
 | sl b o n k full l hl hm hz' hk hf h=>exact .sl b o n k full l hl hm (hz _ _ hz') hk hf fun i a hi=>RMono.mono hz (h i a hi)
theorem SZ.len {α:Type} {size:Nat} {R:RT α} {z:Mem} {v:AV} {l:List α} (h:SZ size R z v l):lenOf v=some l.length:=by cases h with
 | nil=>rfl
 | em=>rfl
 | sl b o n k full l hl hm hz' hk hf h=>rw [hl];rfl
theorem SZ.le {α:Type} {size:Nat} {R:RT α} {z:Mem} {v:AV} {l:List α} (h:SZ size R z v l):l.length≤9223372036854775807:=by cases h with
 | nil=>simp
 | em=>simp
 | sl b o n k full l hl hm hz' hk hf h=>omega
theorem SZ.one {α:Type} {size:Nat} {R:RT α} {z:Mem} {v:AV} {l:List α} (h:SZ size R z v l):∃ c,v=.c c∧sameC c c=true:=by cases h with
 | nil=>exact ⟨_,rfl,by simp [sameC]⟩
 | em=>exact ⟨_,rfl,by simp [sameC]⟩
 | sl b o n k full l hl hm hz' hk hf h=>exact ⟨_,rfl,by simp [sameC]⟩
end
theorem sameV_int (k:IntKind) (n:Int):sameV (.int k n) (.int k n)=true:=by simp [sameV]
theorem sameV_str (s:ByteArray):sameV (.string s) (.string s)=true:=by
 simp [sameV]
theorem sameC_nil:sameC (.v (.slice none 0 0)) (.v (.slice none 0 0))=true:=by simp [sameC]
def CZ {α:Type} (size:Nat) (R:RT α) (z:Mem) (c:C) (l:List α):Prop:=SZ size R z (.c c) l
theorem CZ.mono {α:Type} {size:Nat} {R:RT α} [RMono R] {z z':Mem} {c:C} {l:List α} (h:CZ size R z c l) (hz:zle z z'):CZ size R z' c l:=SZ.mono h hz
theorem CZ.le {α:Type} {size:Nat} {R:RT α} {z:Mem} {c:C} {l:List α} (h:CZ size R z c l):l.length≤9223372036854775807:=SZ.le h
theorem blk_of {st:AS} {b:Nat} {k:Blk} {full:List C} (h:st.mem.get b=some k) (hk:k.cs=some full):st.blk b=some full:=by
 unfold AS.blk
 rw [h]
 cases k with
 | cells ty cs=>exact hk
 | ro cs=>exact hk
 | sit _ _=>cases hk
 | mp _ _=>cases hk
 | mit _ _ _ _=>cases hk
 | mcur _ _ _=>cases hk
theorem at_read {st:AS} {z:Mem} (hz:∀ b k,z b k→st.mem.get b=some k) {b p:Nat} {cs:List C} (h:At z b p cs) {off size:Nat} (hl:off+size≤cs.length):st.read b (p+off) size=some ((cs.drop off).take size):=by
 obtain ⟨k,full,h1,h2,h3,h4⟩:=h
 unfold AS.read
 rw [blk_of (hz _ _ h1) h2]
 simp only
 rw [need_pos (by omega)]
 congr 1
 rw [← h4,List.drop_take,List.take_take,List.drop_drop]
 congr 1
 omega
section
variable {call:Call'} {B:Base} {fs:Sf} {l:List I} {Q:Sf→Prop} {d:Nat}
theorem fl_iadS {α:Type} {size:Nat} {R:RT α} {zz:Mem} {x i:Od} {v:AV} {r:List α} {kd:IntKind} {n:Int} (hx:fs.ev x=v) (hi:fs.ev i=.c (.v (.int kd n))) (hr:SZ size R zz v r) (j:Nat) (hj:n=(j:Int)) (a:α) (h:r[j]? = some a)
  (hw:∀ b p cs,At zz b p cs→R zz cs a→FL call B l (fs.put d (.c (.ptr b p))) Q):FL call B (⟨some d,none,.iad size x i⟩::l) fs Q:=by
 have hlt:=(List.getElem?_eq_some_iff.1 h).1
 cases hr with
 | nil=>simp at hlt
 | em=>simp at hlt
 | sl b o n k full l hl hm hz' hk hf hh =>
   have hle:o+j * size+size≤full.length:=by
    have:(j+1) * size≤n * size:=Nat.mul_le_mul_right _ (by omega)
    rw [Nat.add_mul,Nat.one_mul] at this
    omega
   have hcl:((full.drop (o+j * size)).take size).length=size:=by simp;omega
   exact fl_iad hx hi j hj (by omega) (hw b (o+j * size) _ ⟨k,full,hz',hk,by rw [hcl];exact hle,by rw [hcl]⟩ (hh j a h))
theorem fl_ldA {agg:Bool} {size:Nat} {x:Od} {b q p off:Nat} {cs:List C} {v:AV} (hx:fs.ev x=.c (.ptr b q)) (ha:At fs.z b p cs) (hq:q=p+off) (hl:off+size≤cs.length) (hv:mkAV agg ((cs.drop off).take size)=v) (hw:FL call B l (fs.put d v) Q):FL call B (⟨some d,none,.load agg size x⟩::l) fs Q:=
  fl_q (fun _ => rfl) (fun st r => by
    subst hq
    simp only [stepQ,r.ev,hx]
    rw [at_read (fun b k hb=>(r.hold.z b k hb).1) ha hl]
    simp only [hv]) hw
theorem fl_lens {x:Od} {s:ByteArray} (hx:fs.ev x=.c (.v (.string s))) (hw:FL call B l (fs.put d (.c (.v (.int .i64 s.size)))) Q):FL call B (⟨some d,none,.len true x⟩::l) fs Q:=
 fl_q (fun _=>rfl) (fun st r=>by simp only [stepQ,r.ev,hx];rfl) hw
theorem fl_lenS {α:Type} {size:Nat} {R:RT α} {zz:Mem} {x:Od} {v:AV} {r:List α} (hx:fs.ev x=v) (hr:SZ size R zz v r) (hw:FL call B l (fs.put d (.c (.v (.int .i64 r.length)))) Q):FL call B (⟨some d,none,.len false x⟩::l) fs Q:=fl_len hx hr.len hw
end
def CL {α:Type} (size:Nat) (R:RT α) (z:Mem) (cs:List C) (l:List α):Prop:=cs.length=l.length * size∧∀ (i:Nat) (a:α),l[i]? = some a→((cs.drop (i * size)).take size).length=size∧R z ((cs.drop (i * size)).take size) a
section
variable {α:Type} {size:Nat} {R:RT α} {z z':Mem} {cs c:List C} {l:List α} {a:α}
theorem CL.nil:CL size R z [] ([]:List α):=⟨by simp,fun i a h=>by simp at h⟩
theorem CL.mono [RMono R] (h:CL size R z cs l) (hz:zle z z'):CL size R z' cs l:=⟨h.1,fun i a hi=>⟨(h.2 i a hi).1,RMono.mono hz (h.2 i a hi).2⟩⟩
theorem CL.append {cs':List C} {l':List α} (h:CL size R z cs l) (g:CL size R z cs' l'):CL size R z (cs++cs') (l++l'):=by
 refine ⟨by rw [List.length_append,List.length_append,h.1,g.1,Nat.add_mul],fun i a hi=>?_⟩
 rw [List.getElem?_append] at hi
 split at hi
 ·rename_i hlt
  have h1:=h.2 i a hi
  have h2:i * size+size≤cs.length:=by
   rw [h.1]
   have:(i+1) * size≤l.length * size:=Nat.mul_le_mul_right _ hlt
   rw [Nat.add_mul,Nat.one_mul] at this
   exact this
  have e:((cs++cs').drop (i * size)).take size=(cs.drop (i * size)).take size:=by
   rw [List.drop_append_of_le_length (by omega),List.take_append_of_le_length (by rw [List.length_drop];omega)]
  rw [e]
  exact h1
 rename_i hlt
 have h1:=g.2 _ a hi
 have e:(cs++cs').drop (i * size)=cs'.drop ((i - l.length) * size):=by
  rw [List.drop_append,h.1]
  have h3:l.length * size≤i * size:=Nat.mul_le_mul_right _ (by omega)
  rw [List.drop_eq_nil_of_le (by rw [h.1];exact h3),List.nil_append,Nat.sub_mul]
 rw [e]
 exact h1
theorem CL.one (hc:c.length=size) (h:R z c a):CL size R z c [a]:=by
 refine ⟨by simp [hc],fun i a' hi=>?_⟩
 cases i with
 | zero =>
  simp at hi
  subst hi
  have e:(c.drop (0 * size)).take size=c:=by simp [← hc]
  rw [e]
  exact ⟨hc,h⟩
 | succ i=>simp at hi
theorem CL.sz {b ty n:Nat} (h:CL size R z cs l) (hn:l.length=n) (hm:n≤9223372036854775807) (hz:z b (.cells ty cs)):SZ size R z (.c (.sl b 0 n size)) l:=by
 refine .sl b 0 n (.cells ty cs) cs l hn hm hz rfl (by rw [h.1,hn];omega) fun i a hi=>?_
 rw [Nat.zero_add]
 exact (h.2 i a hi).2
theorem SZ.src {v:AV} {zz:Mem} {st:AS} (hz:∀ b k,zz b k→st.mem.get b=some k) (h:SZ size R zz v l):∃ news,st.row size v=some (l.length,news)∧CL size R zz news l:=by
 cases h with
 | nil=>exact ⟨[],rfl,CL.nil⟩
 | em=>exact ⟨[],rfl,CL.nil⟩
 | sl b o n k full l hl hm hz' hk hf hh =>
  refine ⟨(full.drop o).take (n * size),?_,?_,fun i a hi=>?_⟩
  ·simp only [AS.row,AS.read,blk_of (hz _ _ hz') hk]
   rw [need_pos hf]
   simp only
   rw [need_pos trivial,hl]
  ·rw [List.length_take,List.length_drop,hl];omega
  have hlt:=(List.getElem?_eq_some_iff.1 hi).1
  have hle:i * size+size≤n * size:=by
   have:(i+1) * size≤n * size:=Nat.mul_le_mul_right _ (by omega)
   rw [Nat.add_mul,Nat.one_mul] at this
   exact this
  have e:((((full.drop o).take (n * size)).drop (i * size)).take size)=(full.drop (o+i * size)).take size:=by
   rw [List.drop_take,List.take_take,List.drop_drop]
   congr 1
   omega
  rw [e]
  refine ⟨?_,hh i a hi⟩
  rw [List.length_take,List.length_drop]
  omega
end
section
variable {call:Call'} {B:Base} {fs:Sf} {l:List I} {Q:Sf→Prop} {d:Nat}
theorem fl_appS {α:Type} {R:RT α} {ty size bytes n:Nat} {zero:List Value} {x y:Od} {u v:AV} {cs:List C} {r:List α} {H':AV→List C→List HA} (hx:fs.ev x=u) (hy:fs.ev y=v) (hs:SZ size R fs.z v r) (hr:∀ u' news,Rep1 fs.H (.row u ty size n cs) (.row u' ty size (n+r.length) (cs++news)) (H' u' news))
  (hb:(n+r.length) * bytes≤140737488355328) (hn:n+r.length≤9223372036854775807) (hw:∀ (c':C) (_:sameC c' c'=true) news,CL size R fs.z news r→FL call B l (fs.res d (.c c') fs.z (H' (.c c') news)) Q):FL call B (⟨some d,none,.app ty size bytes zero x y⟩::l) fs Q:=fun st rf=>by
 obtain ⟨news,h1,h2⟩:=hs.src (st:=st) fun b k hb=>(rf.hold.z b k hb).1
 exact ap_app rf hx hy h1 (fun u'=>hr u' news) h2.1 hb hn (fun c' hc=>hw c' hc news h2)
theorem fl_appB {ty ty' size bytes n b:Nat} {zero:List Value} {x y:Od} {u:AV} {cs news:List C} {m:Nat} {H':AV→List HA} (hx:fs.ev x=u) (hy:fs.ev y=.c (.sl b 0 m size)) (hm:HA.blk b (.cells ty' news)∈fs.H) (hl:news.length=m * size) (hr:∀ u',Rep1 fs.H (.row u ty size n cs) (.row u' ty size (n+m) (cs++news)) (H' u'))
  (hb:(n+m) * bytes≤140737488355328) (hn:n+m≤9223372036854775807) (hw:∀ c':C,sameC c' c'=true→FL call B l (fs.res d (.c c') fs.z (H' (.c c'))) Q):FL call B (⟨some d,none,.app ty size bytes zero x y⟩::l) fs Q:=
 fl_app hx hy (src_blk hm (by omega) (by rw [← hl];simp)) hr hl hb hn hw
theorem fx_sub {k:Nat} {c:XC} {Q:Exit→Sf→Prop} {H':List HA} (hs:H'.Sublist fs.H) (hw:FX call k B c (fs.heap H') Q):FX call k B c fs Q:=fun st rf =>
 hw st ⟨rf.env,rf.hold.sub hs,rf.le,rf.old,fun b hb=>rf.own b ((fps_sub hs).subset hb),rf.zle,rf.zin⟩
theorem fl_stE {size:Nat} {x y:Od} {b o ty:Nat} {cs ds cs':List C} {v:AV} {H':List HA} (hx:fs.ev x=.c (.ptr b o)) (hy:fs.ev y=v) (hv:v.cells? = some ds) (hr:Rep1 fs.H (.blk b (.cells ty cs)) (.blk b (.cells ty cs')) H') (he:setL cs o ds=cs') (hs:ds.length=size) (h:o+size≤cs.length)
  (hw:FL call B l (fs.heap H') Q):FL call B (⟨none,none,.store size x y⟩::l) fs Q:=by
 subst he
 exact fl_st hx hy hv hr hs h hw
theorem Rf.row0 {st:AS} (h:Rf B fs st) (ty size:Nat):Rf B (fs.heap (.row nilv ty size 0 []::fs.H)) st:=by
 have e:fps (HA.row nilv ty size 0 []::fs.H)=fps fs.H:=by rw [fps_cons];rfl
 refine ⟨h.env,⟨fun b k hb=>?_,fun a ha=>?_,fun b hb=>?_,?_⟩,h.le,h.old,fun b hb=>?_,h.zle,h.zin⟩
 ·show _∧_∧b ∉ fps (HA.row nilv ty size 0 []::fs.H)
  rw [e];exact h.hold.z b k hb
 ·rcases List.mem_cons.1 ha with rfl | ha
  ·exact ⟨by simp,.inl ⟨rfl,rfl⟩⟩
  exact h.hold.h a ha
 ·have hb:b∈fps (HA.row nilv ty size 0 []::fs.H):=hb
  rw [e] at hb;exact h.hold.lt b hb
 ·show (fps (HA.row nilv ty size 0 []::fs.H)).Nodup
  rw [e];exact h.hold.nd
 have hb:b∈fps (HA.row nilv ty size 0 []::fs.H):=hb
 rw [e] at hb;exact h.own b hb
theorem fl_row0 (ty size:Nat) (hw:FL call B l (fs.heap (.row nilv ty size 0 []::fs.H)) Q):FL call B l fs Q:=fun st r=>hw st (r.row0 ty size)
theorem fx_row0 {k:Nat} {c:XC} {Q:Exit→Sf→Prop} (ty size:Nat) (hw:FX call k B c (fs.heap (.row nilv ty size 0 []::fs.H)) Q):FX call k B c fs Q:=fun st r=>hw st (r.row0 ty size)
theorem Rf.asrow {st:AS} (h:Rf B fs st) {b ty n size:Nat} {cs:List C} {p q:List HA} (e:fs.H=p++.blk b (.cells ty cs)::q) (hl:cs.length=n * size):Rf B (fs.heap (p++.row (.c (.sl b 0 n size)) ty size n cs::q)) st:=by
 have e2:fps (p++.row (.c (.sl b 0 n size)) ty size n cs::q)=fps fs.H:=by rw [e,fps_app,fps_app,fps_cons,fps_cons];rfl
 have hb0:=h.hold.h (.blk b (.cells ty cs)) (by rw [e];simp)
 refine ⟨h.env,⟨fun b k hb=>?_,fun a ha=>?_,fun b hb=>?_,?_⟩,h.le,h.old,fun b hb=>?_,h.zle,h.zin⟩
 ·show _∧_∧b ∉ fps (p++.row _ ty size n cs::q)
  rw [e2];exact h.hold.z b k hb
 ·have ha:a∈p++.row (.c (.sl b 0 n size)) ty size n cs::q:=ha
  rcases List.mem_append.1 ha with ha | ha
  ·exact h.hold.h a (by rw [e];simp [ha])
  rcases List.mem_cons.1 ha with rfl | ha
  ·exact ⟨hl,.inr ⟨b,rfl,hb0⟩⟩
  exact h.hold.h a (by rw [e];simp [ha])
 ·have hb:b∈fps (p++.row (.c (.sl _ 0 n size)) ty size n cs::q):=hb
  rw [e2] at hb;exact h.hold.lt b hb
 ·show (fps (p++.row _ ty size n cs::q)).Nodup
  rw [e2];exact h.hold.nd
 have hb:b∈fps (p++.row (.c (.sl _ 0 n size)) ty size n cs::q):=hb
 rw [e2] at hb;exact h.own b hb
theorem fl_asrow {b ty n size:Nat} {cs:List C} {p q:List HA} (e:fs.H=p++.blk b (.cells ty cs)::q) (hl:cs.length=n * size) (hw:FL call B l (fs.heap (p++.row (.c (.sl b 0 n size)) ty size n cs::q)) Q):FL call B l fs Q:=fun st r=>hw st (r.asrow e hl)
end
open Go.RowKit
open Go.Eng (Od need need_pos need_some setL binV binBV)
structure DS where
 fs:Sf
 T:Mem
 tag:Nat
 last:Nat
 pj:List Nat
 lj:List Nat
def Acc.hd (a:Acc):Tr Blk:=match a.mems with
 | (_,m)::_=>m
 | []=>.nil
def Acc.seq (a:Acc):AS:=⟨a.env,ovl a.hd a.pend,a.nx⟩
structure DRf (B:Base) (D:DS) (a:Acc):Prop where
 rf:Rf B D.fs a.seq
 hd:∃ m ml,a.mems=(D.tag,m)::ml
 t0:∀ p,p∈a.mems→∀ b k,D.T b k→p.2.get b=some k
 tlt:∀ b k,D.T b k→b<a.nx
 np:∀ p,p∈a.pend→∀ k,¬ D.T p.2.1 k
 fl:∀ p,p∈a.fl→p.1∈D.lj∧∀ m:Tr Blk,(∀ b k,D.T b k→m.get b=some k)→stepQ p.2.1 ⟨p.2.2.1,m,0⟩=some p.2.2.2∧sameA p.2.2.2 p.2.2.2=true
 last:a.last=D.last
 pj:a.pend.map (·.1)=D.pj
 plt:∀ p,p∈a.pend→p.2.1<a.nx
def FD (call:Call') (B:Base) (an:List Nat) (j:Nat) (l:List D) (D:DS) (Q:Sf→Prop):Prop:=∀ a,DRf B D a→Wd (dRun call an j l a) fun a'=>∃ fs',Rf B fs' a'.fin∧Q fs'
def tz (z:Mem) (H:List HA):Mem:=fun b k=>z b k∨HA.blk b k∈H
def GK (fs:Sf) (i:I):Prop:=match i.g with
 | none=>True
 | some (s,want)=>fs.e s=.c (.v (.bool want))
section
variable {call:Call'} {B:Base} {an:List Nat} {j:Nat} {l:List D} {D:DS} {Q:Sf→Prop} {a:Acc}
theorem DRf.seqget (h:DRf B D a) {m:Tr Blk} {ml:List (Nat×Tr Blk)} (hm:a.mems=(D.tag,m)::ml):a.hd=m:=by simp only [Acc.hd,hm]
theorem fin_seq (h:DRf B D a):a.fin=a.seq:=by
 obtain ⟨m,ml,hm⟩:=h.hd
 simp only [Acc.fin,Acc.seq,Acc.hd,hm]
theorem fd_nil (h:Q D.fs):FD call B an j [] D Q:=fun a r=>wd_nil ⟨D.fs,by rw [fin_seq r];exact r.rf,h⟩
theorem fx_draw {k:Nat} {fs:Sf} {ds:List CE.D} {Q:Exit→Sf→Prop} (h:FD call B an 0 ds ⟨fs,tz fs.z fs.H,0,0,[],[]⟩ (Q .normal)):FX call k B (.draw ds an) fs Q:=fun st r=>by
  refine wx_draw ?_
  refine h _ ⟨r,⟨_,_,rfl⟩,fun p hp b kk hb=>?_,fun b kk hb=>?_,fun p hp=>by simp at hp,fun p hp=>by simp at hp,rfl,rfl,fun p hp=>by simp at hp⟩
  · have : p = (0, st.mem) := by simpa using hp
    subst this
    rcases hb with hb | hb
    · exact (r.hold.z b kk hb).1
    · exact r.hold.h _ hb
  · rcases hb with hb | hb
    · exact (r.hold.z b kk hb).2.1
    · exact r.hold.lt b (mem_fps.2 ⟨_,hb,by simp [HA.fp]⟩)
theorem fx_drawS {k:Nat} {fs:Sf} {ds:List CE.D} {c:XC} {Q:Exit→Sf→Prop} (h:FD call B an 0 ds ⟨fs,tz fs.z fs.H,0,0,[],[]⟩ (fun fs'=>FX call k B c fs' Q)):FX call k B (.seq (.draw ds an) c) fs Q:=fx_seq (fx_draw h)
theorem see_get {d:CE.D} {q:Nat} (h:q∈d.sl):(a.see d).get q=a.seq.get q:=by
 simp only [AS.get,Acc.see,Acc.seq]
 rw [restr_in h]
theorem gk_ok (r:Rf B D.fs a.seq) {d:CE.D} (hg:GK D.fs d.i):gOk d.i (a.see d)=some true:=by
 unfold GK at hg
 unfold gOk
 split at hg
 ·rename_i h;rw [h]
 rename_i s want h
 rw [h]
 simp only
 rw [see_get (by simp only [CE.D.sl,h];exact List.mem_cons_self ..),r.env,hg]
 simp [gd]
theorem gk_off (r:Rf B D.fs a.seq) {d:CE.D} {s:Nat} {want:Bool} (h:d.i.g=some (s,want)) (hg:D.fs.e s=.c (.v (.bool (!want)))∨D.fs.e s=.tup []):gOk d.i (a.see d)=some false:=by
 unfold gOk
 rw [h]
 simp only
 rw [see_get (by simp only [CE.D.sl,h];exact List.mem_cons_self ..),r.env]
 rcases hg with hg | hg<;>rw [hg]<;>simp [gd]
theorem sl_sub {d:CE.D} {q:Nat} (h:q∈d.i.o.sl):q∈d.sl:=by
 unfold CE.D.sl
 split
 ·exact List.mem_cons_of_mem _ h
 exact h
def pureO:Ins→Bool
 | .mv _ | .pick _ _ _ | .bin _ _ _ | .binB _ _ _ | .un _ _ | .cvi _ _ | .fad _ _ | .fld _ _ _ _ | .iad _ _ _ | .ext _ _ | .len _ _ | .build _ _ | .mkf _ _ _ | .nilck _ | .binA _ _ _ _=>true
 | _=>false
theorem ev_sub {env:Tr AV} {ls:List Nat} {m m':Tr Blk} {n n':Nat} {x:Od} (h:∀ q,q∈Od.sl x→q∈ls):(⟨restr env ls,m,n⟩:AS).ev x=(⟨env,m',n'⟩:AS).ev x:=by
 cases x with
 | t i=>simp only [AS.ev,AS.get];rw [restr_in (h i (by simp [Od.sl]))]
 | _=>rfl
theorem pure_eq {o:Ins} (hp:pureO o=true) {env:Tr AV} {ls:List Nat} {m m':Tr Blk} {n n':Nat} (h:∀ q,q∈o.sl→q∈ls):stepQ o ⟨restr env ls,m,n⟩=stepQ o ⟨env,m',n'⟩:=by
 have hev:∀ x,(∀ q,q∈Od.sl x→q∈o.sl)→(⟨restr env ls,m,n⟩:AS).ev x=(⟨env,m',n'⟩:AS).ev x:=fun x hx=>ev_sub fun q hq=>h q (hx q hq)
 cases o<;>simp only [pureO,Bool.false_eq_true] at hp
 case mv x=>simp only [stepQ,hev x (fun q hq=>hq)]
 case pick c x y=>simp only [stepQ,hev c (fun q hq=>by simp [Ins.sl,hq]),hev x (fun q hq=>by simp [Ins.sl,hq]),hev y (fun q hq=>by simp [Ins.sl,hq])]
 case bin op x y=>simp only [stepQ,hev x (fun q hq=>by simp [Ins.sl,hq]),hev y (fun q hq=>by simp [Ins.sl,hq])]
 case binB op x y=>simp only [stepQ,hev x (fun q hq=>by simp [Ins.sl,hq]),hev y (fun q hq=>by simp [Ins.sl,hq])]
 case binA ne ks x y=>simp only [stepQ,hev x (fun q hq=>by simp [Ins.sl,hq]),hev y (fun q hq=>by simp [Ins.sl,hq])]
 case un op x=>simp only [stepQ,hev x (fun q hq=>hq)]
 case nilck x=>simp only [stepQ,hev x (fun q hq=>hq)]
 case cvi k x=>simp only [stepQ,hev x (fun q hq=>hq)]
 case fad off x=>simp only [stepQ,hev x (fun q hq=>hq)]
 case fld g s off x=>simp only [stepQ,hev x (fun q hq=>hq)]
 case iad s x y=>simp only [stepQ,hev x (fun q hq=>by simp [Ins.sl,hq]),hev y (fun q hq=>by simp [Ins.sl,hq])]
 case ext x i=>simp only [stepQ,hev x (fun q hq=>hq)]
 case len s x=>cases s<;>simp only [stepQ,hev x (fun q hq=>hq)]
 case build zero parts =>
  have key:∀ (l:List (Nat×Nat×Od)) (cs:List C),(∀ p∈l,∀ q∈Od.sl p.2.2,q∈ls)→fillC (⟨restr env ls,m,n⟩:AS) cs l=fillC (⟨env,m',n'⟩:AS) cs l:=by
   intro l
   induction l with
   | nil=>intro cs _;rfl
   | cons p l ih =>
    intro cs hl
    obtain ⟨i,k,x⟩:=p
    simp only [fillC]
    rw [ev_sub (m':=m') (n':=n') (fun q hq=>hl _ (List.mem_cons_self ..) q hq)]
    cases ((⟨env,m',n'⟩:AS).ev x).cells? with
    | none=>rfl
    | some ds=>simp only [ih _ fun p hp=>hl p (List.mem_cons_of_mem _ hp)]
  simp only [stepQ]
  rw [key parts _ fun p hp q hq=>h q ?_]
  simp only [Ins.sl,Od.sls,List.mem_flatMap,List.mem_map]
  exact ⟨p.2.2,⟨p,hp,rfl⟩,hq⟩
 case mkf f xs ys =>
  have key:∀ (l:List Od),(∀ x∈l,∀ q∈Od.sl x,q∈ls)→capsOf (⟨restr env ls,m,n⟩:AS) l=capsOf (⟨env,m',n'⟩:AS) l:=by
   intro l
   induction l with
   | nil=>intro _;rfl
   | cons x l ih =>
    intro hl
    simp only [capsOf]
    rw [ev_sub (m':=m') (n':=n') (fun q hq=>hl _ (List.mem_cons_self ..) q hq),ih fun p hp=>hl p (List.mem_cons_of_mem _ hp)]
  simp only [stepQ]
  rw [key xs fun x hx q hq=>h q (by simp only [Ins.sl,Od.sls,List.mem_append,List.mem_flatMap];exact .inl ⟨x,hx,hq⟩),key ys fun x hx q hq=>h q (by simp only [Ins.sl,Od.sls,List.mem_append,List.mem_flatMap];exact .inr ⟨x,hx,hq⟩)]
theorem pure_noE {o:Ins} (hp:pureO o=true) (st:AS):stepE o st=none∧callee st o=none:=by
 cases o<;>simp only [pureO,Bool.false_eq_true] at hp<;>exact ⟨rfl,rfl⟩
theorem fd_pure {i:I} {d:Nat} {af:List Nat} (hd:i.d=some d) (hp:pureO i.o=true) (hg:GK D.fs i) (h:FL call B [⟨some d,none,i.o⟩] D.fs fun fs'=>FD call B an (j+1) l ⟨fs',D.T,D.tag,D.last,D.pj,D.lj⟩ Q):FD call B an j (⟨i,af⟩::l) D Q:=fun a r=>by
 have h1:=h a.seq r.rf
 simp only [evL,evI,gOk,evV,(pure_noE hp a.seq).2] at h1
 cases hq:stepQ i.o a.seq with
 | none =>
  rw [hq,(pure_noE hp a.seq).1] at h1
  exact h1.elim
 | some v =>
  rw [hq] at h1
  have hq':stepQ i.o (a.see ⟨i,af⟩)=some v:=by
   rw [← hq]
   exact pure_eq hp fun q hq=>sl_sub (d:=⟨i,af⟩) hq
  have hgo:=gk_ok (d:=⟨i,af⟩) r.rf hg
  refine wd_go (a':=⟨putE a.env i.d v,a.nx,a.mems,a.pend,a.fl,a.last⟩) ?_ ?_
  ·simp only [Acc.see] at hgo hq'
   simp only [dStep]
   rw [show gOk i ⟨restr a.env (CE.D.sl ⟨i,af⟩),.nil,a.nx⟩=some true from hgo]
   simp only [hq']
  obtain ⟨fs',r',hn⟩:=h1
  rw [hd]
  exact hn _ ⟨r',r.hd,r.t0,r.tlt,r.np,r.fl,r.last,r.pj,r.plt⟩
theorem fd_off {i:I} {d s:Nat} {want:Bool} {af:List Nat} (hd:i.d=some d) (hg:i.g=some (s,want)) (hs:D.fs.e s=.c (.v (.bool (!want)))∨D.fs.e s=.tup []) (hw:FD call B an (j+1) l ⟨D.fs.put d (.tup []),D.T,D.tag,D.last,D.pj,D.lj⟩ Q):FD call B an j (⟨i,af⟩::l) D Q:=fun a r=>by
 have hgo:=gk_off (d:=⟨i,af⟩) r.rf hg hs
 refine wd_go (a':=⟨putE a.env i.d (.tup []),a.nx,a.mems,a.pend,a.fl,a.last⟩) ?_ ?_
 ·simp only [dStep]
  rw [show gOk i ⟨restr a.env (CE.D.sl ⟨i,af⟩),.nil,a.nx⟩=some false from hgo]
 rw [hd]
 exact hw _ ⟨r.rf.put d _,r.hd,r.t0,r.tlt,r.np,r.fl,r.last,r.pj,r.plt⟩
theorem rdAll_t {o:Ins} {re:Tr AV} {bits:Nat} {v:AV} (hs:sameA v v=true):∀ {ml:List (Nat×Tr Blk)},(∀ p,p∈ml→stepQ o ⟨re,p.2,0⟩=some v)→rdAll o re bits v ml=true:=by
 intro ml
 induction ml with
 | nil=>intro _;rfl
 | cons p ml ih =>
  intro h
  obtain ⟨x,m⟩:=p
  simp only [rdAll,h (x,m) (List.mem_cons_self ..),hs,Bool.true_and]
  cases x with
  | zero=>rfl
  | succ y=>simp only [ih fun p hp=>h p (List.mem_cons_of_mem _ hp),Bool.or_true]
theorem fd_load {i:I} {d:Nat} {agg:Bool} {size:Nat} {x:Od} {b o:Nat} {k:Blk} {full:List C} {v:AV} {af:List Nat} (hi:i.o=.load agg size x) (hd:i.d=some d) (hg:GK D.fs i) (hx:D.fs.ev x=.c (.ptr b o)) (hT:D.T b k) (hk:k.cs=some full) (hl:o+size≤full.length) (hv:mkAV agg ((full.drop o).take size)=v)
  (hs:sameA v v=true) (hw:FD call B an (j+1) l ⟨D.fs.put d v,D.T,D.tag,D.last,D.pj,j::D.lj⟩ Q):FD call B an j (⟨i,af⟩::l) D Q:=fun a r=>by
 have hgo:=gk_ok (d:=⟨i,af⟩) r.rf hg
 have hev:∀ m n,(⟨restr a.env (CE.D.sl ⟨i,af⟩),m,n⟩:AS).ev x=.c (.ptr b o):=fun m n=>by
  rw [ev_sub (m':=a.seq.mem) (n':=a.seq.nx) fun q hq=>sl_sub (d:=⟨i,af⟩) (by rw [hi];exact hq)]
  exact (r.rf.ev x).trans hx
 have hst:∀ (m:Tr Blk) (n:Nat),(∀ b k,D.T b k→m.get b=some k)→stepQ (.load agg size x) ⟨restr a.env (CE.D.sl ⟨i,af⟩),m,n⟩=some v:=fun m n hm=>by
  simp only [stepQ,hev,AS.read,blk_of (st:=⟨restr a.env (CE.D.sl ⟨i,af⟩),m,n⟩) (hm _ _ hT) hk]
  rw [need_pos hl]
  simp only [hv]
 have h0:stepQ (.load agg size x) ⟨restr a.env (CE.D.sl ⟨i,af⟩),.nil,a.nx⟩=none:=by
  simp only [stepQ,hev,AS.read,AS.blk,Tr.get_nil]
 obtain ⟨m,ml,hm⟩:=r.hd
 have hm0:∀ b k,D.T b k→m.get b=some k:=r.t0 (D.tag,m) (by rw [hm];exact List.mem_cons_self ..)
 have hrd:rdAll (.load agg size x) (restr a.env (CE.D.sl ⟨i,af⟩)) (an.getD j 0) v ((D.tag,m)::ml)=true:=rdAll_t hs fun p hp=>hst p.2 0 (r.t0 p (by rw [hm];exact hp))
 refine wd_go (a':=⟨putE a.env i.d v,a.nx,a.mems,a.pend,(j,i.o,restr a.env (CE.D.sl ⟨i,af⟩),v)::a.fl,a.last⟩) ?_ ?_
 ·simp only [dStep]
  rw [show gOk i ⟨restr a.env (CE.D.sl ⟨i,af⟩),.nil,a.nx⟩=some true from hgo]
  simp only [hi,h0,isLoad,hm,hst m 0 hm0,hrd]
 rw [hd]
 refine hw _ ⟨r.rf.put d _,⟨m,ml,hm⟩,r.t0,r.tlt,r.np,fun p hp=>?_,r.last,r.pj,r.plt⟩
 rcases List.mem_cons.1 hp with rfl | hp
 ·exact ⟨List.mem_cons_self ..,fun m' hm'=>⟨by rw [hi];exact hst m' 0 hm',hs⟩⟩
 exact ⟨List.mem_cons_of_mem _ (r.fl p hp).1,(r.fl p hp).2⟩
theorem fd_ldA {i:I} {d:Nat} {agg:Bool} {size:Nat} {x:Od} {b q p off:Nat} {cs:List C} {v:AV} {af:List Nat} {z:Mem} (hi:i.o=.load agg size x) (hd:i.d=some d) (hg:GK D.fs i) (hx:D.fs.ev x=.c (.ptr b q)) (ha:At z b p cs) (hz:∀ b k,z b k→D.T b k) (hq:q=p+off) (hl:off+size≤cs.length) (hv:mkAV agg ((cs.drop off).take size)=v)
  (hs:sameA v v=true) (hw:FD call B an (j+1) l ⟨D.fs.put d v,D.T,D.tag,D.last,D.pj,j::D.lj⟩ Q):FD call B an j (⟨i,af⟩::l) D Q:=by
 obtain ⟨k,full,h1,h2,h3,h4⟩:=ha
 subst hq
 refine fd_load hi hd hg hx (hz _ _ h1) h2 (by omega) ?_ hs hw
 rw [← hv,← h4,List.drop_take,List.take_take,List.drop_drop]
 congr 2
 omega
theorem flOk_some {bits:Nat} {m:Tr Blk}:∀ {l:List (Nat×Ins×Tr AV×AV)},(∀ p,p∈l→stepQ p.2.1 ⟨p.2.2.1,m,0⟩=some p.2.2.2∧sameA p.2.2.2 p.2.2.2=true)→∃ l',flOk bits m l=some l'∧∀ p,p∈l'→p∈l:=by
 intro l
 induction l with
 | nil=>intro _;exact ⟨[],rfl,fun p hp=>hp⟩
 | cons p l ih =>
  intro h
  obtain ⟨q,o,re,v⟩:=p
  obtain ⟨l',h1,h2⟩:=ih fun p hp=>h p (List.mem_cons_of_mem _ hp)
  obtain ⟨h3,h4⟩:=h (q,o,re,v) (List.mem_cons_self ..)
  simp only [flOk,h1]
  cases bits.testBit q with
  | true=>exact ⟨l',rfl,fun p hp=>List.mem_cons_of_mem _ (h2 p hp)⟩
  | false =>
   simp only at h3 h4
   simp only [h3,h4]
   refine ⟨_,rfl,fun p hp=>?_⟩
   rcases List.mem_cons.1 hp with rfl | hp
   ·exact List.mem_cons_self ..
   exact List.mem_cons_of_mem _ (h2 p hp)
theorem allB {bits:Nat} {ls:List Nat} (h:(ls.all fun q=>bits.testBit q)=true) {q:Nat} (hq:q∈ls):bits.testBit q=true:=by
 rw [List.all_eq_true] at h
 exact h q hq
theorem pend_all {bits:Nat} {l:List (Nat×Nat×Blk)} (h:((l.map (·.1)).all fun q=>bits.testBit q)=true):(l.filter fun p=>bits.testBit p.1)=l∧(l.filter fun p=>!bits.testBit p.1)=[]:=by
 constructor
 ·refine List.filter_eq_self.2 fun p hp=>allB h (List.mem_map.2 ⟨p,hp,rfl⟩)
 refine List.filter_eq_nil_iff.2 fun p hp=>?_
 rw [allB h (List.mem_map.2 ⟨p,hp,rfl⟩)]
 simp
theorem ovl_keep {m:Tr Blk}:∀ {l:List (Nat×Nat×Blk)} {b:Nat} {k:Blk},(∀ p,p∈l→p.2.1≠b)→m.get b=some k→(ovl m l).get b=some k:=by
 intro l
 induction l with
 | nil=>intro b k _ h;exact h
 | cons p l ih =>
  intro b k hp h
  obtain ⟨A,id,k0⟩:=p
  simp only [ovl]
  rw [Tr.get_put _ _ _ _ _ (by omega),if_neg (hp _ (List.mem_cons_self ..))]
  exact ih (fun p hp'=>hp p (List.mem_cons_of_mem _ hp')) h
theorem fd_call {i:I} {d f:Nat} {args:List Od} {vs:List AV} {af:List Nat} {Post:AV→Mem→Prop} (hi:i.o=.call f args) (hd:i.d=some d) (hg:GK D.fs i) (hbits:Nat.beq (an.getD j 0 ||| D.last) (an.getD j 0)=true) (hpj:(D.pj.all fun q=>(an.getD j 0).testBit q)=true)
    (ha:args.map D.fs.ev=vs) (hc:FC call f vs D.fs.z Post) (hw:∀ v z',zle D.fs.z z'→Post v z'→FD call B an (j+1) l ⟨⟨eput D.fs.e d v,z',D.fs.H⟩,D.T,j+1,an.getD j 0 ||| (1 <<< j),[],D.lj⟩ Q):FD call B an j (⟨i,af⟩::l) D Q:=fun a r=>by
  have hgo:=gk_ok (d:=⟨i,af⟩) r.rf hg
  obtain ⟨m,ml,hm⟩:=r.hd
  have hhd:=r.seqget hm
  obtain ⟨v, mem', nx', z', H', h1, h2, h3, h4, h5, h6, h7, h8, h9⟩ := hc (ovl m a.pend) a.nx (by
    have:=r.rf.hold
    simp only [Acc.seq,hhd] at this
    exact Hold.left (Hs:=[]) (Hr:=D.fs.H) this)
  subst h8
  have hev:∀ m n,args.map (⟨restr a.env (CE.D.sl ⟨i,af⟩),m,n⟩:AS).ev=vs:=fun m n=>by
    rw [← ha]
    refine List.map_congr_left fun x hx=>?_
    rw [ev_sub (m':=a.seq.mem) (n':=a.seq.nx) fun q hq=>sl_sub (d:=⟨i,af⟩) (by rw [hi];simp only [Ins.sl,Od.sls,List.mem_flatMap];exact ⟨x,hx,hq⟩)]
    exact r.rf.ev x
  have hp:=pend_all (bits:=an.getD j 0) (l:=a.pend) (by rw [r.pj];exact hpj)
  have hT:∀ b k,D.T b k→mem'.get b=some k:=fun b k hb=>by
    rw [h3 b (r.tlt b k hb) (by simp [fps])]
    exact ovl_keep (fun p hp' e=>r.np p hp' k (e ▸ hb)) (r.t0 (D.tag,m) (by rw [hm];exact List.mem_cons_self ..) b k hb)
  obtain ⟨fl',hf1,hf2⟩:=flOk_some (bits:=an.getD j 0) (m:=mem') (l:=a.fl) fun p hp=>(r.fl p hp).2 mem' hT
  refine wd_go (a':=⟨putE a.env i.d v,nx',(j+1,mem')::a.mems,a.pend.filter (fun p=>!(an.getD j 0).testBit p.1),fl',(an.getD j 0) ||| (1 <<< j)⟩) ?_ ?_
  · simp only [dStep]
    rw [show gOk i ⟨restr a.env (CE.D.sl ⟨i,af⟩),.nil,a.nx⟩=some true from hgo]
    simp only [hi,stepQ,isLoad,stepE,hm,hp.1,evV,callee,hev,h1,r.last,hbits,hf1]
  · rw [hd,hp.2]
    refine hw v z' h5 h9 _ ⟨?_,⟨mem',a.mems,rfl⟩,fun p hp' b k hb=>?_,fun b k hb=>Nat.lt_of_lt_of_le (r.tlt b k hb) h2,fun p hp=>by simp at hp,fun p hp=>r.fl p (hf2 p hp),rfl,rfl,fun p hp=>by simp at hp⟩
    · have := r.rf.callR (Hs := []) (Hr := D.fs.H) rfl (mem' := mem') (nx' := nx') (z' := z') (H' := []) h2 (fun b hb hb2 => by
        rw [h3 b hb hb2];simp only [Acc.seq,hhd]) h4 h5 h6 h7
      exact this.put d v
    · rcases List.mem_cons.1 hp' with rfl | hp'
      · exact hT b k hb
      · exact r.t0 p hp' b k hb
theorem fd_callO {i:I} {d f:Nat} {args:List Od} {vs:List AV} {af:List Nat} {Post:AV→Mem→List HA→Prop} (hi:i.o=.call f args) (hd:i.d=some d) (hg:GK D.fs i) (hbits:Nat.beq (an.getD j 0 ||| D.last) (an.getD j 0)=true) (hpj:(D.pj.all fun q=>(an.getD j 0).testBit q)=true)
    (ha:args.map D.fs.ev=vs) (hc:FCt call f vs D.fs.z [] Post) (hw:∀ v z' H',zle D.fs.z z'→Post v z' H'→FD call B an (j+1) l ⟨⟨eput D.fs.e d v,z',H'++D.fs.H⟩,D.T,j+1,an.getD j 0 ||| (1 <<< j),[],D.lj⟩ Q):FD call B an j (⟨i,af⟩::l) D Q:=fun a r=>by
  have hgo:=gk_ok (d:=⟨i,af⟩) r.rf hg
  obtain ⟨m,ml,hm⟩:=r.hd
  have hhd:=r.seqget hm
  obtain ⟨v, mem', nx', z', H', h1, h2, h3, h4, h5, h6, h7, h9⟩ := hc (ovl m a.pend) a.nx (by
    have:=r.rf.hold
    simp only [Acc.seq,hhd] at this
    exact Hold.left (Hs:=[]) (Hr:=D.fs.H) this)
  have hev:∀ m n,args.map (⟨restr a.env (CE.D.sl ⟨i,af⟩),m,n⟩:AS).ev=vs:=fun m n=>by
    rw [← ha]
    refine List.map_congr_left fun x hx=>?_
    rw [ev_sub (m':=a.seq.mem) (n':=a.seq.nx) fun q hq=>sl_sub (d:=⟨i,af⟩) (by rw [hi];simp only [Ins.sl,Od.sls,List.mem_flatMap];exact ⟨x,hx,hq⟩)]
    exact r.rf.ev x
  have hp:=pend_all (bits:=an.getD j 0) (l:=a.pend) (by rw [r.pj];exact hpj)
  have hT:∀ b k,D.T b k→mem'.get b=some k:=fun b k hb=>by
    rw [h3 b (r.tlt b k hb) (by simp [fps])]
    exact ovl_keep (fun p hp' e=>r.np p hp' k (e ▸ hb)) (r.t0 (D.tag,m) (by rw [hm];exact List.mem_cons_self ..) b k hb)
  obtain ⟨fl',hf1,hf2⟩:=flOk_some (bits:=an.getD j 0) (m:=mem') (l:=a.fl) fun p hp=>(r.fl p hp).2 mem' hT
  refine wd_go (a':=⟨putE a.env i.d v,nx',(j+1,mem')::a.mems,a.pend.filter (fun p=>!(an.getD j 0).testBit p.1),fl',(an.getD j 0) ||| (1 <<< j)⟩) ?_ ?_
  · simp only [dStep]
    rw [show gOk i ⟨restr a.env (CE.D.sl ⟨i,af⟩),.nil,a.nx⟩=some true from hgo]
    simp only [hi,stepQ,isLoad,stepE,hm,hp.1,evV,callee,hev,h1,r.last,hbits,hf1]
  · rw [hd,hp.2]
    refine hw v z' H' h5 h9 _ ⟨?_,⟨mem',a.mems,rfl⟩,fun p hp' b k hb=>?_,fun b k hb=>Nat.lt_of_lt_of_le (r.tlt b k hb) h2,fun p hp=>by simp at hp,fun p hp=>r.fl p (hf2 p hp),rfl,rfl,fun p hp=>by simp at hp⟩
    · have := r.rf.callR (Hs := []) (Hr := D.fs.H) rfl (mem' := mem') (nx' := nx') (z' := z') (H' := H') h2 (fun b hb hb2 => by
        rw [h3 b hb hb2];simp only [Acc.seq,hhd]) h4 h5 h6 h7
      exact this.put d v
    · rcases List.mem_cons.1 hp' with rfl | hp'
      · exact hT b k hb
      · exact r.t0 p hp' b k hb
theorem filt_none {bits:Nat} {l:List (Nat×Nat×Blk)} (h:((l.map (·.1)).all fun q=>!bits.testBit q)=true):(l.filter fun p=>bits.testBit p.1)=[]∧(l.filter fun p=>!bits.testBit p.1)=l:=by
 have hq:∀ p,p∈l→bits.testBit p.1=false:=fun p hp=>by
  rw [List.all_eq_true] at h
  simpa using h p.1 (List.mem_map.2 ⟨p,hp,rfl⟩)
 constructor
 ·refine List.filter_eq_nil_iff.2 fun p hp=>?_
  rw [hq p hp];simp
 refine List.filter_eq_self.2 fun p hp=>?_
 rw [hq p hp];rfl
theorem ovl_both {m m':Tr Blk}:∀ {l:List (Nat×Nat×Blk)} {b:Nat},((∀ p,p∈l→p.2.1≠b)→m'.get b=m.get b)→(ovl m' l).get b=(ovl m l).get b:=by
 intro l
 induction l with
 | nil=>intro b h;exact h fun p hp=>by cases hp
 | cons p l ih =>
  intro b h
  obtain ⟨A,id,k0⟩:=p
  simp only [ovl]
  rw [Tr.get_put _ _ _ _ _ (by omega),Tr.get_put _ _ _ _ _ (by omega)]
  split
  ·rfl
  rename_i hne
  exact ih fun hp=>h fun p hp'=>by
   rcases List.mem_cons.1 hp' with rfl | hp'
   ·exact hne
   exact hp p hp'
theorem fd_callP {i:I} {d f:Nat} {args:List Od} {vs:List AV} {af:List Nat} {Post:AV→Mem→Prop} (hi:i.o=.call f args) (hd:i.d=some d) (hg:GK D.fs i) (hbits:Nat.beq (an.getD j 0 ||| D.last) (an.getD j 0)=true) (hpj:(D.pj.all fun q=>!(an.getD j 0).testBit q)=true) (hzT:∀ b k,D.fs.z b k→D.T b k)
    (ha:args.map D.fs.ev=vs) (hc:FC call f vs D.fs.z Post) (hw:∀ v z',zle D.fs.z z'→Post v z'→FD call B an (j+1) l ⟨⟨eput D.fs.e d v,z',D.fs.H⟩,D.T,j+1,an.getD j 0 ||| (1 <<< j),D.pj,D.lj⟩ Q):FD call B an j (⟨i,af⟩::l) D Q:=fun a r=>by
  have hgo:=gk_ok (d:=⟨i,af⟩) r.rf hg
  obtain ⟨m,ml,hm⟩:=r.hd
  have hhd:=r.seqget hm
  obtain ⟨v,mem',nx',z',H',h1,h2,h3,h4,h5,h6,h7,h8,h9⟩:=hc m a.nx ⟨fun b k hb=>⟨r.t0 (D.tag,m) (by rw [hm];exact List.mem_cons_self ..) b k (hzT b k hb),(r.rf.hold.z b k hb).2.1,by simp [fps]⟩,fun a ha=>(by cases ha),fun b hb=>(by simp [fps] at hb),by simp [fps]⟩
  subst h8
  have hev:∀ m n,args.map (⟨restr a.env (CE.D.sl ⟨i,af⟩),m,n⟩:AS).ev=vs:=fun m n=>by
    rw [← ha]
    refine List.map_congr_left fun x hx=>?_
    rw [ev_sub (m':=a.seq.mem) (n':=a.seq.nx) fun q hq=>sl_sub (d:=⟨i,af⟩) (by rw [hi];simp only [Ins.sl,Od.sls,List.mem_flatMap];exact ⟨x,hx,hq⟩)]
    exact r.rf.ev x
  have hp:=filt_none (bits:=an.getD j 0) (l:=a.pend) (by rw [r.pj];exact hpj)
  have hT:∀ b k,D.T b k→mem'.get b=some k:=fun b k hb=>by
    rw [h3 b (r.tlt b k hb) (by simp [fps])]
    exact r.t0 (D.tag,m) (by rw [hm];exact List.mem_cons_self ..) b k hb
  obtain ⟨fl',hf1,hf2⟩:=flOk_some (bits:=an.getD j 0) (m:=mem') (l:=a.fl) fun p hp=>(r.fl p hp).2 mem' hT
  refine wd_go (a':=⟨putE a.env i.d v,nx',(j+1,mem')::a.mems,a.pend.filter (fun p=>!(an.getD j 0).testBit p.1),fl',(an.getD j 0) ||| (1 <<< j)⟩) ?_ ?_
  · simp only [dStep]
    rw [show gOk i ⟨restr a.env (CE.D.sl ⟨i,af⟩),.nil,a.nx⟩=some true from hgo]
    simp only [hi,stepQ,isLoad,stepE,hm,hp.1,ovl,evV,callee,hev,h1,r.last,hbits,hf1]
  · rw [hd,hp.2]
    refine hw v z' h5 h9 _ ⟨?_,⟨mem',a.mems,rfl⟩,fun p hp' b k hb=>?_,fun b k hb=>Nat.lt_of_lt_of_le (r.tlt b k hb) h2,fun p hp'=>r.np p hp',fun p hp=>r.fl p (hf2 p hp),rfl,r.pj,fun p hp'=>Nat.lt_of_lt_of_le (r.plt p hp') h2⟩
    · have hnp:∀ b k,z' b k→∀ p,p∈a.pend→p.2.1≠b:=fun b k hb p hp' e=>by
        rcases h6 b k hb with g | g | g
        · exact r.np p hp' k (hzT _ _ (e ▸ g))
        · have:=r.plt p hp';omega
        · simp [fps] at g
      have := r.rf.callR (Hs := []) (Hr := D.fs.H) rfl (mem' := ovl mem' a.pend) (nx' := nx') (z' := z') (H' := []) h2 (fun b hb hb2 => by
        simp only [Acc.seq,hhd]
        exact ovl_both fun _=>h3 b hb hb2) ⟨fun b k hb=>⟨ovl_keep (hnp b k hb) (h4.z b k hb).1,(h4.z b k hb).2⟩,fun a ha=>(by cases ha),fun b hb=>(by simp [fps] at hb),by simp [fps]⟩ h5 h6 (fun b hb=>by simp [fps] at hb)
      exact this.put d v
    · rcases List.mem_cons.1 hp' with rfl | hp'
      · exact hT b k hb
      · exact r.t0 p hp' b k hb
theorem fd_own {i:I} {d:Nat} {af:List Nat} {k:Blk} {w:Nat→AV} (hd:i.d=some d) (hg:GK D.fs i) (hl:isLoad i.o=false) (hq:∀ st:AS,stepQ i.o st=none) (he:∀ st:AS,(∀ q,q∈i.o.sl→st.get q=D.fs.e q)→stepE i.o st=some (st.new k,w st.nx))
  (hw:∀ b,(∀ k,¬ D.T b k)→FD call B an (j+1) l ⟨⟨eput D.fs.e d (w b),D.fs.z,.blk b k::D.fs.H⟩,D.T,D.tag,D.last,j::D.pj,D.lj⟩ Q):FD call B an j (⟨i,af⟩::l) D Q:=fun a r=>by
 have hgo:=gk_ok (d:=⟨i,af⟩) r.rf hg
 have he':stepE i.o ⟨restr a.env (CE.D.sl ⟨i,af⟩),.nil,a.nx⟩=some ((⟨restr a.env (CE.D.sl ⟨i,af⟩),.nil,a.nx⟩:AS).new k,w a.nx):=he _ fun q hq=>by
  have:=see_get (a:=a) (d:=⟨i,af⟩) (sl_sub (d:=⟨i,af⟩) hq)
  exact this.trans (r.rf.env q)
 have h1:((⟨restr a.env (CE.D.sl ⟨i,af⟩),.nil,a.nx⟩:AS).new k).mem.get a.nx=some k:=by rw [new_mem,if_pos rfl]
 have h2:Nat.beq ((⟨restr a.env (CE.D.sl ⟨i,af⟩),.nil,a.nx⟩:AS).new k).nx (a.nx+1)=true:=Nat.beq_refl _
 refine wd_go (a':=⟨putE a.env i.d (w a.nx),a.nx+1,a.mems,(j,a.nx,k)::a.pend,a.fl,a.last⟩) ?_ ?_
 ·simp only [dStep]
  rw [show gOk i ⟨restr a.env (CE.D.sl ⟨i,af⟩),.nil,a.nx⟩=some true from hgo]
  simp only [hq,hl,he',h1,h2]
 rw [hd]
 have r1:=r.rf.new (a:=.blk a.nx k) (m':=(a.seq.new k).mem) (by show (a.seq.new k).mem.get a.seq.nx=some k;rw [new_mem,if_pos rfl]) rfl (fun b hb=>by rw [new_mem,if_neg fun e=>hb e.symm])
 refine hw a.nx (fun k hb=>absurd (r.tlt _ _ hb) (Nat.lt_irrefl _)) _ ⟨r1.put d (w a.nx),r.hd,r.t0,fun b k' hb=>Nat.lt_succ_of_lt (r.tlt b k' hb),fun p hp k' hb=>?_,r.fl,r.last,?_,fun p hp=>?_⟩
 ·rcases List.mem_cons.1 hp with rfl | hp
  ·exact absurd (r.tlt _ _ hb) (Nat.lt_irrefl _)
  exact r.np p hp k' hb
 ·simp only [List.map_cons,r.pj]
 rcases List.mem_cons.1 hp with rfl | hp
 ·exact Nat.lt_succ_self _
 exact Nat.lt_succ_of_lt (r.plt p hp)
theorem fd_chg {i:I} {af:List Nat} (hg:GK D.fs i) (hl:isLoad i.o=false) (hbits:Nat.beq (an.getD j 0 ||| D.last) (an.getD j 0)=true) (hpj:(D.pj.all fun q=>(an.getD j 0).testBit q)=true) (hlj:(D.lj.all fun q=>(an.getD j 0).testBit q)=true)
    (hq:∀ st:AS,stepQ i.o st=none) (he:∀ st:AS,(∀ q,q∈i.o.sl→st.get q=D.fs.e q)→st.mem=.nil→stepE i.o st=none) (hev:∀ (env:Tr AV) (ls:List Nat) (m:Tr Blk) (n:Nat),(∀ q,q∈i.o.sl→q∈ls)→evV call i.o ⟨restr env ls,m,n⟩=evV call i.o ⟨env,m,n⟩)
    (h:FL call B [⟨i.d,none,i.o⟩] D.fs fun fs'=>FD call B an (j+1) l ⟨fs',fun _ _=>False,j+1,an.getD j 0 ||| (1 <<< j),[],[]⟩ Q):FD call B an j (⟨i,af⟩::l) D Q:=fun a r=>by
  have hgo:=gk_ok (d:=⟨i,af⟩) r.rf hg
  obtain ⟨m,ml,hm⟩:=r.hd
  have hhd:=r.seqget hm
  have hp:=pend_all (bits:=an.getD j 0) (l:=a.pend) (by rw [r.pj];exact hpj)
  have h1:=h a.seq r.rf
  simp only [evL,evI,gOk] at h1
  cases hv:evV call i.o a.seq with
  | none=>rw [hv] at h1;exact h1.elim
  | some q =>
    obtain ⟨v,mem',nx'⟩:=q
    rw [hv] at h1
    have hv':evV call i.o ⟨restr a.env (CE.D.sl ⟨i,af⟩),ovl m a.pend,a.nx⟩=some (v,mem',nx'):=by
      rw [hev _ _ _ _ fun q hq=>sl_sub (d:=⟨i,af⟩) hq,← hv]
      simp only [Acc.seq,hhd]
    have he' : stepE i.o ⟨restr a.env (CE.D.sl ⟨i, af⟩), .nil, a.nx⟩ = none := he _ (fun q hq => by
      have:=see_get (a:=a) (d:=⟨i,af⟩) (sl_sub (d:=⟨i,af⟩) hq)
      exact this.trans (r.rf.env q)) rfl
    have hf:=flOk_all (bits:=an.getD j 0) (m:=mem') (l:=a.fl) fun p hp=>allB hlj (r.fl p hp).1
    refine wd_go (a':=⟨putE a.env i.d v,nx',(j+1,mem')::a.mems,a.pend.filter (fun p=>!(an.getD j 0).testBit p.1),[],(an.getD j 0) ||| (1 <<< j)⟩) ?_ ?_
    · simp only [dStep]
      rw [show gOk i ⟨restr a.env (CE.D.sl ⟨i,af⟩),.nil,a.nx⟩=some true from hgo]
      simp only [hq,hl,he',hm,hp.1,hv',r.last,hbits,hf]
    · rw [hp.2]
      obtain ⟨fs',r',hn⟩:=h1
      refine hn _ ⟨?_,⟨mem',a.mems,rfl⟩,fun p _ b k hb=>hb.elim,fun b k hb=>hb.elim,fun p hp=>by simp at hp,fun p hp=>by simp at hp,rfl,rfl,fun p hp=>by simp at hp⟩
      cases hdd:i.d with
      | none=>rw [hdd] at r';exact r'
      | some d=>rw [hdd] at r';exact r'
theorem fd_chgT {i:I} {af:List Nat} (hg:GK D.fs i) (hl:isLoad i.o=false) (hbits:Nat.beq (an.getD j 0 ||| D.last) (an.getD j 0)=true) (hpj:(D.pj.all fun q=>(an.getD j 0).testBit q)=true)
    (hq:∀ st:AS,stepQ i.o st=none) (he:∀ st:AS,(∀ q,q∈i.o.sl→st.get q=D.fs.e q)→st.mem=.nil→stepE i.o st=none) (hev:∀ (env:Tr AV) (ls:List Nat) (m:Tr Blk) (n:Nat),(∀ q,q∈i.o.sl→q∈ls)→evV call i.o ⟨restr env ls,m,n⟩=evV call i.o ⟨env,m,n⟩)
    (hk:∀ (st:AS) v m' n',Rf B D.fs st→evV call i.o st=some (v,m',n')→st.nx≤n'∧∀ b k,D.T b k→st.mem.get b=some k→m'.get b=some k)
    (h:FL call B [⟨i.d,none,i.o⟩] D.fs fun fs'=>FD call B an (j+1) l ⟨fs',D.T,j+1,an.getD j 0 ||| (1 <<< j),[],D.lj⟩ Q):FD call B an j (⟨i,af⟩::l) D Q:=fun a r=>by
  have hgo:=gk_ok (d:=⟨i,af⟩) r.rf hg
  obtain ⟨m,ml,hm⟩:=r.hd
  have hhd:=r.seqget hm
  have hp:=pend_all (bits:=an.getD j 0) (l:=a.pend) (by rw [r.pj];exact hpj)
  have h1:=h a.seq r.rf
  simp only [evL,evI,gOk] at h1
  cases hv:evV call i.o a.seq with
  | none=>rw [hv] at h1;exact h1.elim
  | some q =>
    obtain ⟨v,mem',nx'⟩:=q
    rw [hv] at h1
    obtain ⟨hn,hkk⟩:=hk _ _ _ _ r.rf hv
    have hT:∀ b k,D.T b k→mem'.get b=some k:=fun b k hb=>by
      refine hkk b k hb ?_
      show (ovl a.hd a.pend).get b=some k
      rw [hhd]
      exact ovl_keep (fun p hp' e=>r.np p hp' k (e ▸ hb)) (r.t0 (D.tag,m) (by rw [hm];exact List.mem_cons_self ..) b k hb)
    obtain ⟨fl',hf1,hf2⟩:=flOk_some (bits:=an.getD j 0) (m:=mem') (l:=a.fl) fun p hp=>(r.fl p hp).2 mem' hT
    have hv':evV call i.o ⟨restr a.env (CE.D.sl ⟨i,af⟩),ovl m a.pend,a.nx⟩=some (v,mem',nx'):=by
      rw [hev _ _ _ _ fun q hq=>sl_sub (d:=⟨i,af⟩) hq,← hv]
      simp only [Acc.seq,hhd]
    have he' : stepE i.o ⟨restr a.env (CE.D.sl ⟨i, af⟩), .nil, a.nx⟩ = none := he _ (fun q hq => by
      have:=see_get (a:=a) (d:=⟨i,af⟩) (sl_sub (d:=⟨i,af⟩) hq)
      exact this.trans (r.rf.env q)) rfl
    refine wd_go (a':=⟨putE a.env i.d v,nx',(j+1,mem')::a.mems,a.pend.filter (fun p=>!(an.getD j 0).testBit p.1),fl',(an.getD j 0) ||| (1 <<< j)⟩) ?_ ?_
    · simp only [dStep]
      rw [show gOk i ⟨restr a.env (CE.D.sl ⟨i,af⟩),.nil,a.nx⟩=some true from hgo]
      simp only [hq,hl,he',hm,hp.1,hv',r.last,hbits,hf1]
    · rw [hp.2]
      obtain ⟨fs',r',hnn⟩:=h1
      refine hnn _ ⟨?_,⟨mem',a.mems,rfl⟩,fun p hp' b k hb=>?_,fun b k hb=>Nat.lt_of_lt_of_le (r.tlt b k hb) hn,fun p hp=>by simp at hp,fun p hp=>r.fl p (hf2 p hp),rfl,rfl,fun p hp=>by simp at hp⟩
      · cases hdd:i.d with
        | none=>rw [hdd] at r';exact r'
        | some d=>rw [hdd] at r';exact r'
      · rcases List.mem_cons.1 hp' with rfl | hp'
        · exact hT b k hb
        · exact r.t0 p hp' b k hb
theorem evV_restr {o:Ins} (hs:(∃ s x y,o=.store s x y)∨∃ ty s b zr x y,o=.app ty s b zr x y) (env:Tr AV) (ls:List Nat) (m:Tr Blk) (n:Nat) (h:∀ q,q∈o.sl→q∈ls):evV call o ⟨restr env ls,m,n⟩=evV call o ⟨env,m,n⟩:=by
  have hev:∀ x,(∀ q,q∈Od.sl x→q∈o.sl)→(⟨restr env ls,m,n⟩:AS).ev x=(⟨env,m,n⟩:AS).ev x:=fun x hx=>ev_sub fun q hq=>h q (hx q hq)
  rcases hs with ⟨s,x,y,rfl⟩ | ⟨ty,s,b1,zr,x,y,rfl⟩
  · simp only [evV, callee, stepQ, stepE, hev x (fun q hq => by simp [Ins.sl, hq]), hev y (fun q hq => by simp [Ins.sl, hq])]
    cases (⟨env,m,n⟩:AS).ev x with
    | c c =>
      cases c with
      | ptr b o =>
        cases ((⟨env,m,n⟩:AS).ev y).cells? with
        | none=>rfl
        | some ds =>
          simp only
          cases m.get b with
          | none=>rfl
          | some k =>
            cases k with
            | cells ty cs =>
              simp only [need]
              by_cases hc:ds.length=s∧o+s≤cs.length
              · rw [if_pos hc,if_pos hc];rfl
              · rw [if_neg hc,if_neg hc]
            | _=>rfl
      | _=>rfl
    | _=>rfl
  · have hrow:∀ v,(⟨restr env ls,m,n⟩:AS).row s v=(⟨env,m,n⟩:AS).row s v:=fun v=>by
      cases v with
      | c c=>cases c<;>rfl
      | _=>rfl
    simp only [evV,callee,stepQ,stepE,hev x (fun q hq=>by simp [Ins.sl,hq]),hev y (fun q hq=>by simp [Ins.sl,hq]),hrow]
    cases (⟨env,m,n⟩:AS).row s ((⟨env,m,n⟩:AS).ev y) with
    | none=>rfl
    | some p =>
      obtain ⟨c,news⟩:=p
      cases c with
      | zero =>
        simp only
        cases (⟨env,m,n⟩:AS).ev x with
        | c c =>
          cases c with
          | v x =>
            cases x with
            | slice A l c =>
              cases A with
              | none=>cases l<;>cases c<;>rfl
              | some A=>rfl
            | _=>rfl
          | _=>rfl
        | _=>rfl
      | succ c =>
        simp only
        cases (⟨env,m,n⟩:AS).ev x with
        | c c' =>
          cases c' with
          | v x =>
            cases x with
            | slice A l cc =>
              cases A with
              | none =>
                cases l with
                | zero =>
                  cases cc with
                  | zero =>
                    simp only [need]
                    by_cases hc:(c+1) * b1≤140737488355328∧c+1≤9223372036854775807∧0<c+1
                    · rw [if_pos hc,if_pos hc];rfl
                    · rw [if_neg hc,if_neg hc]
                  | succ _=>rfl
                | succ _=>rfl
              | some A=>rfl
            | _=>rfl
          | sl b o n' s' =>
            simp only
            cases m.get b with
            | none=>rfl
            | some k =>
              cases k with
              | cells ty' cs =>
                simp only [need]
                by_cases hc:o+n' * s'=cs.length∧ty'=ty∧s'=s∧(n'+(c+1)) * b1≤140737488355328∧n'+(c+1)≤9223372036854775807
                · rw [if_pos hc,if_pos hc];rfl
                · rw [if_neg hc,if_neg hc]
              | _=>rfl
          | _=>rfl
        | _=>rfl
theorem fd_splitB (s:Nat) {t:Bool} (h:D.fs.e s=.c (.v (.bool t))) (h1:t=true→FD call B an j l ⟨D.fs.put s (.c (.v (.bool true))),D.T,D.tag,D.last,D.pj,D.lj⟩ Q) (h2:t=false→FD call B an j l ⟨D.fs.put s (.c (.v (.bool false))),D.T,D.tag,D.last,D.pj,D.lj⟩ Q):FD call B an j l D Q:=by
 obtain ⟨fs,T,tag,last,pj,lj⟩:=D
 have e:fs.put s (.c (.v (.bool t)))=fs:=by
  cases fs;simp only [Sf.put];rw [eput_self h]
 cases t with
 | true=>have:=h1 rfl;simp only [e] at this;exact this
 | false=>have:=h2 rfl;simp only [e] at this;exact this
theorem fd_store {i:I} {s:Nat} {x y:Od} {b o:Nat} {af:List Nat} (hi:i.o=.store s x y) (hg:GK D.fs i) (hbits:Nat.beq (an.getD j 0 ||| D.last) (an.getD j 0)=true) (hpj:(D.pj.all fun q=>(an.getD j 0).testBit q)=true) (hlj:(D.lj.all fun q=>(an.getD j 0).testBit q)=true) (hx:D.fs.ev x=.c (.ptr b o))
  (h:FL call B [⟨i.d,none,.store s x y⟩] D.fs fun fs'=>FD call B an (j+1) l ⟨fs',fun _ _=>False,j+1,an.getD j 0 ||| (1 <<< j),[],[]⟩ Q):FD call B an j (⟨i,af⟩::l) D Q:=by
 refine fd_chg hg (by rw [hi];rfl) hbits hpj hlj (fun st=>by rw [hi];rfl) (fun st hst hm=>?_) (by rw [hi];exact evV_restr (.inl ⟨_,_,_,rfl⟩)) (by rw [hi];exact h)
 rw [hi]
 have:st.ev x=.c (.ptr b o):=by
  rw [← hx]
  cases x with
  | t q=>exact hst q (by rw [hi];simp [Ins.sl,Od.sl])
  | _=>rfl
 simp only [stepE,this,hm,Tr.get_nil]
 cases (st.ev y).cells?<;>rfl
theorem fd_storeT {i:I} {s:Nat} {x y:Od} {b o:Nat} {af:List Nat} (hi:i.o=.store s x y) (hg:GK D.fs i) (hbits:Nat.beq (an.getD j 0 ||| D.last) (an.getD j 0)=true) (hpj:(D.pj.all fun q=>(an.getD j 0).testBit q)=true) (hx:D.fs.ev x=.c (.ptr b o)) (hT:∀ k,¬ D.T b k)
  (h:FL call B [⟨i.d,none,.store s x y⟩] D.fs fun fs'=>FD call B an (j+1) l ⟨fs',D.T,j+1,an.getD j 0 ||| (1 <<< j),[],D.lj⟩ Q):FD call B an j (⟨i,af⟩::l) D Q:=by
 refine fd_chgT hg (by rw [hi];rfl) hbits hpj (fun st=>by rw [hi];rfl) (fun st hst hm=>?_) (by rw [hi];exact evV_restr (.inl ⟨_,_,_,rfl⟩)) (fun st v m' n' r hv=>?_) (by rw [hi];exact h)
 ·rw [hi]
  have:st.ev x=.c (.ptr b o):=by
   rw [← hx]
   cases x with
   | t q=>exact hst q (by rw [hi];simp [Ins.sl,Od.sl])
   | _=>rfl
  simp only [stepE,this,hm,Tr.get_nil]
  cases (st.ev y).cells?<;>rfl
 rw [hi] at hv
 simp only [evV,callee,stepQ,stepE,r.ev,hx] at hv
 cases hc:(D.fs.ev y).cells? with
 | none=>rw [hc] at hv;cases hv
 | some ds =>
  rw [hc] at hv
  simp only at hv
  cases hm:st.mem.get b with
  | none=>rw [hm] at hv;cases hv
  | some k0 =>
   rw [hm] at hv
   cases k0 with
   | cells ty cs =>
    simp only [need] at hv
    by_cases hcc:ds.length=s∧o+s≤cs.length
    ·rw [if_pos hcc] at hv
     injection hv with hv
     obtain ⟨_,hv⟩:=Prod.mk.inj hv
     obtain ⟨h1,h2⟩:=Prod.mk.inj hv
     subst h1 h2
     refine ⟨Nat.le_refl _,fun b' k' hb hg=>?_⟩
     rw [setB_mem,if_neg fun e=>hT k' (by rw [e];exact hb)]
     exact hg
    rw [if_neg hcc] at hv;cases hv
   | ro _=>cases hv
   | sit _ _=>cases hv
   | mp _ _=>cases hv
   | mit _ _ _ _=>cases hv
   | mcur _ _ _=>cases hv
theorem fd_app {i:I} {ty s bytes:Nat} {zr:List Value} {x y:Od} {b o n:Nat} {af:List Nat} (hi:i.o=.app ty s bytes zr x y) (hg:GK D.fs i) (hbits:Nat.beq (an.getD j 0 ||| D.last) (an.getD j 0)=true) (hpj:(D.pj.all fun q=>(an.getD j 0).testBit q)=true) (hlj:(D.lj.all fun q=>(an.getD j 0).testBit q)=true) (hy:D.fs.ev y=.c (.sl b o n s))
  (h:FL call B [⟨i.d,none,.app ty s bytes zr x y⟩] D.fs fun fs'=>FD call B an (j+1) l ⟨fs',fun _ _=>False,j+1,an.getD j 0 ||| (1 <<< j),[],[]⟩ Q):FD call B an j (⟨i,af⟩::l) D Q:=by
 refine fd_chg hg (by rw [hi];rfl) hbits hpj hlj (fun st=>by rw [hi];rfl) (fun st hst hm=>?_) (by rw [hi];exact evV_restr (.inr ⟨_,_,_,_,_,_,rfl⟩)) (by rw [hi];exact h)
 rw [hi]
 have:st.ev y=.c (.sl b o n s):=by
  rw [← hy]
  cases y with
  | t q=>exact hst q (by rw [hi];simp [Ins.sl,Od.sl])
  | _=>rfl
 simp only [stepE,this,AS.row,AS.read,AS.blk,hm,Tr.get_nil]
end
def FG (call:Call') (B:Base) (an:List Nat) (j:Nat) (l:List CE.D) (fs:Sf) (T:Mem) (tag last:Nat) (pj lj:List Nat) (Q:Sf→Prop):Prop:=FD call B an j l ⟨fs,T,tag,last,pj,lj⟩ Q
section
variable {call:Call'} {B:Base} {an:List Nat} {j:Nat} {l:List CE.D} {fs:Sf} {T:Mem} {tag last:Nat} {pj lj:List Nat} {Q:Sf→Prop}
theorem fg_nil (h:Q fs):FG call B an j [] fs T tag last pj lj Q:=fd_nil (D:=⟨fs,T,tag,last,pj,lj⟩) h
theorem fx_drw {k:Nat} {ds:List CE.D} {Q:Exit→Sf→Prop} (h:FG call B an 0 ds fs (tz fs.z fs.H) 0 0 [] [] (Q .normal)):FX call k B (.draw ds an) fs Q:=fx_draw h
theorem fx_drwS {k:Nat} {ds:List CE.D} {c:XC} {Q:Exit→Sf→Prop} (h:FG call B an 0 ds fs (tz fs.z fs.H) 0 0 [] [] (fun fs'=>FX call k B c fs' Q)):FX call k B (.seq (.draw ds an) c) fs Q:=fx_drawS h
theorem gP {i:I} {d:Nat} {af:List Nat} (hd:i.d=some d) (hp:pureO i.o=true) (hg:GK fs i) (h:FL call B [⟨some d,none,i.o⟩] fs fun fs'=>FG call B an (j+1) l fs' T tag last pj lj Q):FG call B an j (⟨i,af⟩::l) fs T tag last pj lj Q:=fd_pure (D:=⟨fs,T,tag,last,pj,lj⟩) hd hp hg h
theorem fg_off {i:I} {d s:Nat} {want:Bool} {af:List Nat} (hd:i.d=some d) (hg:i.g=some (s,want)) (hs:fs.e s=.c (.v (.bool (!want)))∨fs.e s=.tup []) (hw:FG call B an (j+1) l (fs.put d (.tup [])) T tag last pj lj Q):FG call B an j (⟨i,af⟩::l) fs T tag last pj lj Q:=fd_off (D:=⟨fs,T,tag,last,pj,lj⟩) hd hg hs hw
theorem fg_load {i:I} {d:Nat} {agg:Bool} {size:Nat} {x:Od} {b o:Nat} {k:Blk} {full:List C} {v:AV} {af:List Nat} (hi:i.o=.load agg size x) (hd:i.d=some d) (hg:GK fs i) (hx:fs.ev x=.c (.ptr b o)) (hT:T b k) (hk:k.cs=some full) (hl:o+size≤full.length) (hv:mkAV agg ((full.drop o).take size)=v)
  (hs:sameA v v=true) (hw:FG call B an (j+1) l (fs.put d v) T tag last pj (j::lj) Q):FG call B an j (⟨i,af⟩::l) fs T tag last pj lj Q:=fd_load (D:=⟨fs,T,tag,last,pj,lj⟩) hi hd hg hx hT hk hl hv hs hw
theorem fg_ldA {i:I} {d:Nat} {agg:Bool} {size:Nat} {x:Od} {b q p off:Nat} {cs:List C} {v:AV} {af:List Nat} {z:Mem} (hi:i.o=.load agg size x) (hd:i.d=some d) (hg:GK fs i) (hx:fs.ev x=.c (.ptr b q)) (ha:At z b p cs) (hz:∀ b k,z b k→T b k) (hq:q=p+off) (hl:off+size≤cs.length) (hv:mkAV agg ((cs.drop off).take size)=v)
  (hs:sameA v v=true) (hw:FG call B an (j+1) l (fs.put d v) T tag last pj (j::lj) Q):FG call B an j (⟨i,af⟩::l) fs T tag last pj lj Q:=fd_ldA (D:=⟨fs,T,tag,last,pj,lj⟩) hi hd hg hx ha hz hq hl hv hs hw
theorem fg_call {i:I} {d f:Nat} {args:List Od} {vs:List AV} {af:List Nat} {Post:AV→Mem→Prop} (hi:i.o=.call f args) (hd:i.d=some d) (hg:GK fs i) (hbits:Nat.beq (an.getD j 0 ||| last) (an.getD j 0)=true) (hpj:(pj.all fun q=>(an.getD j 0).testBit q)=true)
  (ha:args.map fs.ev=vs) (hc:FC call f vs fs.z Post) (hw:∀ v z',zle fs.z z'→Post v z'→FG call B an (j+1) l (fs.res d v z' fs.H) T (j+1) (an.getD j 0 ||| (1 <<< j)) [] lj Q):FG call B an j (⟨i,af⟩::l) fs T tag last pj lj Q:=fd_call (D:=⟨fs,T,tag,last,pj,lj⟩) hi hd hg hbits hpj ha hc hw
theorem fg_own {i:I} {d:Nat} {af:List Nat} {k:Blk} {w:Nat→AV} (hd:i.d=some d) (hg:GK fs i) (hl:isLoad i.o=false) (hq:∀ st:AS,stepQ i.o st=none) (he:∀ st:AS,(∀ q,q∈i.o.sl→st.get q=fs.e q)→stepE i.o st=some (st.new k,w st.nx))
  (hw:∀ b,(∀ k,¬ T b k)→FG call B an (j+1) l (fs.own d (w b) (.blk b k)) T tag last (j::pj) lj Q):FG call B an j (⟨i,af⟩::l) fs T tag last pj lj Q:=fd_own (D:=⟨fs,T,tag,last,pj,lj⟩) hd hg hl hq he hw
theorem fg_splitB (s:Nat) {t:Bool} (h:fs.e s=.c (.v (.bool t))) (h1:t=true→FG call B an j l (fs.put s (.c (.v (.bool true)))) T tag last pj lj Q) (h2:t=false→FG call B an j l (fs.put s (.c (.v (.bool false)))) T tag last pj lj Q):FG call B an j l fs T tag last pj lj Q:=fd_splitB (D:=⟨fs,T,tag,last,pj,lj⟩) s h h1 h2
theorem fg_store {i:I} {s:Nat} {x y:Od} {b o:Nat} {af:List Nat} (hi:i.o=.store s x y) (hg:GK fs i) (hbits:Nat.beq (an.getD j 0 ||| last) (an.getD j 0)=true) (hpj:(pj.all fun q=>(an.getD j 0).testBit q)=true) (hlj:(lj.all fun q=>(an.getD j 0).testBit q)=true) (hx:fs.ev x=.c (.ptr b o))
  (h:FL call B [⟨i.d,none,.store s x y⟩] fs fun fs'=>FG call B an (j+1) l fs' (fun _ _=>False) (j+1) (an.getD j 0 ||| (1 <<< j)) [] [] Q):FG call B an j (⟨i,af⟩::l) fs T tag last pj lj Q:=fd_store (D:=⟨fs,T,tag,last,pj,lj⟩) hi hg hbits hpj hlj hx h
theorem fg_storeT {i:I} {s:Nat} {x y:Od} {b o:Nat} {af:List Nat} (hi:i.o=.store s x y) (hg:GK fs i) (hbits:Nat.beq (an.getD j 0 ||| last) (an.getD j 0)=true) (hpj:(pj.all fun q=>(an.getD j 0).testBit q)=true) (hx:fs.ev x=.c (.ptr b o)) (hT:∀ k,¬ T b k)
  (h:FL call B [⟨i.d,none,.store s x y⟩] fs fun fs'=>FG call B an (j+1) l fs' T (j+1) (an.getD j 0 ||| (1 <<< j)) [] lj Q):FG call B an j (⟨i,af⟩::l) fs T tag last pj lj Q:=fd_storeT (D:=⟨fs,T,tag,last,pj,lj⟩) hi hg hbits hpj hx hT h
theorem fg_app {i:I} {ty s bytes:Nat} {zr:List Value} {x y:Od} {b o n:Nat} {af:List Nat} (hi:i.o=.app ty s bytes zr x y) (hg:GK fs i) (hbits:Nat.beq (an.getD j 0 ||| last) (an.getD j 0)=true) (hpj:(pj.all fun q=>(an.getD j 0).testBit q)=true) (hlj:(lj.all fun q=>(an.getD j 0).testBit q)=true) (hy:fs.ev y=.c (.sl b o n s))
  (h:FL call B [⟨i.d,none,.app ty s bytes zr x y⟩] fs fun fs'=>FG call B an (j+1) l fs' (fun _ _=>False) (j+1) (an.getD j 0 ||| (1 <<< j)) [] [] Q):FG call B an j (⟨i,af⟩::l) fs T tag last pj lj Q:=fd_app (D:=⟨fs,T,tag,last,pj,lj⟩) hi hg hbits hpj hlj hy h
end
open Go.RowKit
open Go.Eng (Od need need_pos need_some setL binV binBV setL_length setL_get)
def zd (z0 z:Mem):Mem:=fun b k=>z b k∧(∀ k',¬ z0 b k')∧k.isRo=false
theorem zd_le {z0 z:Mem}:zle (zd z0 z) z:=⟨fun _ _ h=>h.1⟩
instance zlm {z a b:Mem} [h:Zl a b]:Zl (zd z a) b:=⟨zd_le.trans h.h⟩
theorem zd_mono {z0 z z':Mem} (h:zle z z'):zle (zd z0 z) (zd z0 z'):=⟨fun b k g=>⟨h b k g.1,g.2⟩⟩
theorem zAq {z0 z1 z:Mem} (h:zle z0 z1):zle (zd z1 z) (zd z0 z):=⟨fun b k g=>⟨g.1,fun k' h'=>g.2.1 k' (h b k' h'),g.2.2⟩⟩
section
variable {call:Call'} {B:Base} {fs:Sf} {l:List I} {Q:Sf→Prop} {d:Nat}
theorem fx_frzN {α:Type} {size:Nat} {R:RT α} [RMono R] {k:Nat} {c:XC} {Q:Exit→Sf→Prop} {u:AV} {ty n:Nat} {cs:List C} {r:List α} {p q:List HA} {z0:Mem} (e:fs.H=p++.row u ty size n cs::q) (hz0:zle z0 fs.z) (hc:CL size R (zd z0 fs.z) cs r) (hn:r.length=n) (hm:n≤9223372036854775807)
    (hw:∀ z',zle fs.z z'→SZ size R (zd z0 z') u r→FX call k B c (fs.frz z' (p++q)) Q):FX call k B c fs Q:=fun st rf=>by
  obtain ⟨g1,g2⟩:=rf.hold.h (.row u ty size n cs) (by rw [e];simp)
  rcases g2 with ⟨h0,rfl⟩ | ⟨b,rfl,h3⟩
  · have hr0 : r = [] := List.eq_nil_of_length_eq_zero (by omega)
    subst hr0
    refine hw fs.z (zle.refl _) .nil st ?_
    have hsub:(p++q).Sublist fs.H:=by rw [e];exact (List.Sublist.refl p).append (List.sublist_cons_self _ _)
    exact ⟨rf.env,rf.hold.sub hsub,rf.le,rf.old,fun b hb=>rf.own b ((fps_sub hsub).subset hb),rf.zle,rf.zin⟩
  · have h1 := rf.frz (p := p) (q := q) (b := b) (k := .cells ty cs) (a := .row (.c (.sl b 0 n size)) ty size n cs) e rfl (fun m hm => by
      obtain ⟨_,hm⟩:=hm
      rcases hm with ⟨_,hm⟩ | ⟨b',hb',hm⟩
      · cases hm
      · injection hb' with hb';injection hb' with hb';subst hb';exact hm)
    have hnb:∀ k',¬ z0 b k':=fun k' hb=>(rf.hold.z b k' (hz0 b k' hb)).2.2 (by rw [e,fps_app,fps_cons];simp [HA.fp])
    exact hw _ ⟨fun _ _ h=>.inl h⟩ ((hc.mono (zd_mono ⟨fun _ _ h=>.inl h⟩)).sz hn hm ⟨.inr ⟨rfl,rfl⟩,hnb,rfl⟩) st h1
theorem fl_cmpn {k:NK} {ne:Bool} {x y:Od} {u v:AV} {a b r:Bool} (hx:fs.ev x=u) (hy:fs.ev y=v) (ha:isNil k u=some a) (hb:isNil k v=some b) (hab:(a || b)=true) (hr:((a && b) != ne)=r) (hw:FL call B l (fs.put d (.c (.v (.bool r)))) Q):FL call B (⟨some d,none,.cmpn k ne x y⟩::l) fs Q:=
  fl_q (fun _ => rfl) (fun st rf => by
    simp only [stepQ,rf.ev,hx,hy,ha,hb,hab,hr];rfl) hw
theorem Rf.asblk {st:AS} (h:Rf B fs st) {u:AV} {b ty n size:Nat} {cs:List C} {p q:List HA} (e:fs.H=p++.row u ty size n cs::q) (hu:u=.c (.sl b 0 n size)) (hb0:st.mem.get b=some (.cells ty cs)):Rf B (fs.heap (p++.blk b (.cells ty cs)::q)) st:=by
 subst hu
 have e2:fps (p++.blk b (.cells ty cs)::q)=fps fs.H:=by rw [e,fps_app,fps_app,fps_cons,fps_cons];rfl
 refine ⟨h.env,⟨fun x k hb=>?_,fun a ha=>?_,fun x hb=>?_,?_⟩,h.le,h.old,fun x hb=>?_,h.zle,h.zin⟩
 ·show _∧_∧x ∉ fps (p++.blk b (.cells ty cs)::q)
  rw [e2];exact h.hold.z x k hb
 ·have ha:a∈p++.blk b (.cells ty cs)::q:=ha
  rcases List.mem_append.1 ha with ha | ha
  ·exact h.hold.h a (by rw [e];simp [ha])
  rcases List.mem_cons.1 ha with rfl | ha
  ·exact hb0
  exact h.hold.h a (by rw [e];simp [ha])
 ·have hb:x∈fps (p++.blk b (.cells ty cs)::q):=hb
  rw [e2] at hb;exact h.hold.lt x hb
 ·show (fps (p++.blk b (.cells ty cs)::q)).Nodup
  rw [e2];exact h.hold.nd
 have hb:x∈fps (p++.blk b (.cells ty cs)::q):=hb
 rw [e2] at hb;exact h.own x hb
theorem fl_rowC {u:AV} {ty n size:Nat} {cs:List C} {p q:List HA} (e:fs.H=p++.row u ty size n cs::q) (hn:0<n) (h1:∀ b,u=.c (.sl b 0 n size)→FL call B l (fs.heap (p++.blk b (.cells ty cs)::q)) Q):FL call B l fs Q:=fun st r=>by
 obtain ⟨g1,g2⟩:=r.hold.h (.row u ty size n cs) (by rw [e];simp)
 rcases g2 with ⟨h0,_⟩ | ⟨b,hu,h3⟩
 ·omega
 exact h1 b hu st (r.asblk e hu h3)
theorem fl_lenR {x:Od} {u:AV} {ty n size:Nat} {cs:List C} (hx:fs.ev x=u) (hm:HA.row u ty size n cs∈fs.H) (hw:FL call B l (fs.put d (.c (.v (.int .i64 n)))) Q):FL call B (⟨some d,none,.len false x⟩::l) fs Q:=fun st r=>by
 obtain ⟨g1,g2⟩:=r.hold.h _ hm
 have hl:lenOf u=some n:=by
  rcases g2 with ⟨h0,rfl⟩ | ⟨b,rfl,h3⟩
  ·rw [h0];rfl
  rfl
 exact fl_len hx hl hw st r
theorem setL_at {α:Type} (l:List α) (j:Nat) (x:List α) (h:j+x.length≤l.length) (i:Nat):(setL l j x)[i]? = if j≤i∧i<j+x.length then x[i - j]? else l[i]?:=by
 rw [setL_get l j x h]
 by_cases h1:i<j
 ·rw [if_pos h1,if_neg (by omega)]
 rw [if_neg h1]
 by_cases h2:i<j+x.length
 ·rw [if_pos h2,if_pos (by omega)]
 rw [if_neg h2,if_neg (by omega)]
end
theorem ret_h {fs:Sf} {ts:List RR} {vs:List AV} {x:Exit} {Post:AV→Mem→List HA→Prop} {H':List HA} (hx:x=.ret∨x=.normal) (h:ResL fs ts vs) (hs:H'.Sublist fs.H) (hp:Post (packR vs) fs.z H'):RetQ ts Post x fs:=⟨hx,vs,H',h,hs,hp⟩
def cloneX (ty size bytes:Nat) (zero:List Value):XC:=.seq (.region [⟨some 2,none,.mv (.k (.slice none 0 0))⟩])
  (.seq (.seq (.region [⟨some 3, none, .mv (.t 0)⟩, ⟨some 4, none, .cmpn .sl false (.t 3) (.k (.slice none 0 0))⟩]) (.cond (.t 4) (.seq (.region [⟨some 2, none, .mv (.k (.slice none 0 0))⟩]) .ret) .skip))
  (.seq (.region [⟨some 5,none,.bslice ty size 0 zero []⟩,⟨some 6,none,.mv (.t 0)⟩,⟨some 7,none,.app ty size bytes zero (.t 5) (.t 6)⟩,⟨some 2,none,.mv (.t 7)⟩]) .ret))
def ClonePost {α:Type} (ty size:Nat) (R:RT α) (z:Mem) (l:List α) (v:AV) (z':Mem) (H':List HA):Prop:=∃ cs,H'=[.row v ty size l.length cs]∧CL size R z' cs l∧z'=z∧∃ c,v=.c c∧sameC c c=true
theorem clone_fc {T:Tr FE} {hand:Call'} {k0 k f ty size bytes:Nat} {zero:List Value} {α:Type} {R:RT α} [RMono R] {z:Mem} {v:AV} {l:List α} (hT:T.get f=some ⟨8,cloneX ty size bytes zero,[.t 2]⟩) (hk:1≤k) (hv:SZ size R z v l) (hb:l.length * bytes≤140737488355328) :
    FCt (evF T hand k0 k) f [v] z [] (ClonePost ty size R z l):=by
  refine fct_of hT hk (by show 1≤8;omega) fun B j hj=>?_
  have hle:=hv.le
  refine xR (lM rfl (lN ?_))
  refine fx_ss (xR (lM rfl ?_))
  have key : isNil .sl v = some false → FL (evF T hand k0 j) B [⟨some 4, none, .cmpn .sl false (.t 3) (.k (.slice none 0 0))⟩] (((⟨argE [v], z, []⟩ : Sf).put 2 nilv).put 3 v) fun fs' => FX (evF T hand k0 j) k0 B (.seq (.cond (.t 4) (.seq (.region [⟨some 2, none, .mv (.k (.slice none 0 0))⟩]) .ret) .skip)
      (.seq (.region [⟨some 5,none,.bslice ty size 0 zero []⟩,⟨some 6,none,.mv (.t 0)⟩,⟨some 7,none,.app ty size bytes zero (.t 5) (.t 6)⟩,⟨some 2,none,.mv (.t 7)⟩]) .ret)) fs' (RetQ [.t 2] (ClonePost ty size R z l)):=fun hn=>by
    refine fl_cmpn (a:=false) (b:=true) rfl rfl hn rfl rfl rfl (lN ?_)
    refine fx_cseq (fx_condF rfl (fx_kseq (xR ?_)))
    refine fl_bslice rfl fun b=>?_
    refine lM rfl ?_
    refine fl_asrow (p:=[]) (n:=0) (cs:=repl 0 (zero.map fun v=>.v v)) (size:=size) (b:=b) (ty:=ty) (q:=[]) rfl (by simp [repl]) ?_
    refine fl_appS rfl rfl hv (fun _ _=>rep0) (by rw [Nat.zero_add];exact hb) (by omega) fun c' hc' news hnews=>?_
    refine lM rfl (lN (xT ?_))
    refine ret_h (.inl rfl) (rt rfl rn) (List.Sublist.refl _) ⟨news,?_,hnews,rfl,c',rfl,hc'⟩
    simp only [List.nil_append,Nat.zero_add,repl]
    rfl
  cases hv with
  | nil =>
    refine fl_cmpn (a:=true) (b:=true) rfl rfl rfl rfl rfl rfl (lN ?_)
    refine fx_cseq (fx_condT rfl (fx_ss (xR (lM rfl (fl_row0 ty size (lN (fx_rseq ?_)))))))
    exact ret_h (.inl rfl) (rt rfl rn) (List.Sublist.refl _) ⟨[],rfl,CL.nil,rfl,_,rfl,sameC_nil⟩
  | em=>exact key rfl
  | sl b o n k full l hl hm hz hk hf hh=>exact key rfl
theorem FCt.clone {call:Call'} {f ty size:Nat} {α:Type} {R:RT α} {z:Mem} {v:AV} {l:List α} (h:FCt call f [v] z [] (ClonePost ty size R z l)) (hR:∀ {z1 z2:Mem} {cs:List C} {a:α},R z1 cs a→R z2 cs a) (hm:l.length≤9223372036854775807):FC call f [v] z fun v' z'=>SZ size R (zd z z') v' l:=fun mem nx hh=>by
  obtain ⟨w,mem',nx',z',H',h1,h2,h3,h4,h5,h6,h7,cs,e1,hcl,e2,c,e3,hc⟩:=h mem nx hh
  subst e1 e2 e3
  obtain ⟨g1,g2⟩:=h4.h _ (List.mem_singleton.2 rfl)
  rcases g2 with ⟨h0,hw⟩ | ⟨b,hw,h8⟩
  · have e : l = [] := List.eq_nil_of_length_eq_zero (by omega)
    subst e
    injection hw with hw
    subst hw
    exact ⟨_,mem',nx',z',[],h1,h2,h3,h4.sub (List.nil_sublist _),h5,h6,fun b hb=>by simp [fps] at hb,rfl,.nil⟩
  · injection hw with hw
    subst hw
    have hfb:b∈fps [HA.row (.c (.sl b 0 l.length size)) ty size l.length cs]:=by simp [fps,HA.fp]
    refine ⟨_,mem',nx',fun x y=>z' x y∨(x=b∧y=.cells ty cs),[],h1,h2,h3,⟨fun x k hx=>?_,fun a ha=>by simp at ha,fun x hx=>by simp [fps] at hx,by simp [fps]⟩,⟨fun _ _ hx=>.inl hx⟩,fun x k hx=>?_,fun x hx=>by simp [fps] at hx,rfl,?_⟩
    · rcases hx with hx | ⟨rfl,rfl⟩
      · obtain ⟨k1, k2, _⟩ := h4.z x k hx
        exact ⟨k1,k2,by simp [fps]⟩
      · exact ⟨h8,h4.lt _ hfb,by simp [fps]⟩
    · rcases hx with hx | ⟨rfl,rfl⟩
      · exact .inl hx
      · rcases h7 _ hfb with k | k
        · exact .inr (.inl k)
        · simp [fps] at k
    · refine CL.sz (ty:=ty) (cs:=cs) ⟨hcl.1,fun i a hi=>⟨(hcl.2 i a hi).1,hR (hcl.2 i a hi).2⟩⟩ rfl hm ⟨.inr ⟨rfl,rfl⟩,fun k' hb=>(h4.z b k' hb).2.2 hfb,rfl⟩
section
variable {call:Call'} {k:Nat} {B:Base} {c:XC} {fs:Sf} {Q:Exit→Sf→Prop}
theorem fx_base (h:zle B.z fs.z→FX call k B c fs Q):FX call k B c fs Q:=fun st r=>h r.zle st r
def memH (H:List HA):Mem:=fun b k=>HA.blk b k∈H
def minus (z U:Mem):Mem:=fun b k=>z b k∧∀ k',¬ U b k'
open Classical in
noncomputable def listU (U:Mem) (n:Nat):List HA:=(List.range n).filterMap fun b=>if h:∃ k,U b k then some (.blk b (Classical.choose h)) else none
theorem listU_mem {U:Mem} {n b:Nat} {k:Blk} (hf:∀ b k k',U b k→U b k'→k=k') (hn:∀ b k,U b k→b<n):HA.blk b k∈listU U n↔U b k:=by
 unfold listU
 rw [List.mem_filterMap]
 constructor
 ·rintro ⟨a,ha,h⟩
  split at h
  ·rename_i hh
   injection h with h
   injection h with h1 h2
   subst h1;subst h2
   exact Classical.choose_spec hh
  cases h
 intro h
 refine ⟨b,List.mem_range.2 (hn b k h),?_⟩
 have hh:∃ k,U b k:=⟨k,h⟩
 rw [dif_pos hh,hf b _ _ (Classical.choose_spec hh) h]
theorem listU_blk {U:Mem} {n:Nat} {a:HA} (h:a∈listU U n):∃ b k,a=.blk b k∧U b k:=by
 unfold listU at h
 rw [List.mem_filterMap] at h
 obtain ⟨b,_,h⟩:=h
 split at h
 ·rename_i hh
  injection h with h
  exact ⟨b,_,h.symm,Classical.choose_spec hh⟩
 cases h
theorem listU_fps {U:Mem} {n:Nat}:(fps (listU U n)).Sublist (List.range n):=by
 unfold listU
 generalize List.range n=r
 induction r with
 | nil=>exact List.Sublist.refl _
 | cons b r ih =>
  rw [List.filterMap_cons]
  split
  ·exact ih.cons _
  rename_i a h
  split at h
  ·injection h with h
   subst h
   rw [fps_cons]
   exact ih.cons_cons _
  cases h
theorem Rf.thaw {st:AS} (r:Rf B fs st) {zA zB:Mem} (hA:CE.zle B.z zA) (hAB:CE.zle zA zB) (hB:CE.zle zB fs.z) :
  ∃ G:List HA,(∀ b k,memH G b k↔zd zA zB b k)∧(∀ a,a∈G→∃ b k,a=.blk b k)∧(∀ b k k',memH G b k→memH G b k'→k=k')∧Rf B ⟨fs.e,minus fs.z (zd zA zB),G++fs.H⟩ st:=by
 have hf:∀ b k k',zd zA zB b k→zd zA zB b k'→k=k':=fun b k k' h1 h2=>by
  have g1:=(r.hold.z b k (hB _ _ h1.1)).1
  have g2:=(r.hold.z b k' (hB _ _ h2.1)).1
  rw [g1] at g2
  injection g2
 have hn:∀ b k,zd zA zB b k→b<st.nx:=fun b k h=>(r.hold.z b k (hB _ _ h.1)).2.1
 have hfp:∀ b,b∈fps (listU (zd zA zB) st.nx)→∃ k,zd zA zB b k:=fun b hb=>by
  obtain ⟨a,ha,hb⟩:=mem_fps.1 hb
  obtain ⟨b',k,rfl,hk⟩:=listU_blk ha
  simp [HA.fp] at hb
  subst hb
  exact ⟨k,hk⟩
 refine ⟨listU (zd zA zB) st.nx,fun b k=>listU_mem hf hn,fun a ha=>(by obtain ⟨b,k,h,_⟩:=listU_blk ha;exact ⟨b,k,h⟩),fun b k k' h1 h2=>hf b k k' ((listU_mem hf hn).1 h1) ((listU_mem hf hn).1 h2),⟨r.env,⟨fun b k hb=>?_,fun a ha=>?_,fun b hb=>?_,?_⟩,r.le,r.old,fun b hb=>?_,⟨fun b k hb=>?_⟩,fun b k hb=>r.zin b k hb.1⟩⟩
 ·obtain ⟨g1,g2,g3⟩:=r.hold.z b k hb.1
  refine ⟨g1,g2,?_⟩
  rw [fps_app,List.mem_append]
  rintro (g4 | g4)
  ·obtain ⟨k',hk⟩:=hfp b g4
   exact hb.2 k' hk
  exact g3 g4
 ·rcases List.mem_append.1 ha with ha | ha
  ·obtain ⟨b,k,rfl,hk⟩:=listU_blk ha
   exact (r.hold.z b k (hB _ _ hk.1)).1
  exact r.hold.h a ha
 ·have hb:b∈fps (listU (zd zA zB) st.nx++fs.H):=hb
  rw [fps_app,List.mem_append] at hb
  rcases hb with hb | hb
  ·obtain ⟨k,hk⟩:=hfp b hb
   exact hn b k hk
  exact r.hold.lt b hb
 ·show (fps (listU (zd zA zB) st.nx++fs.H)).Nodup
  rw [fps_app]
  refine List.nodup_append.2 ⟨listU_fps.nodup List.nodup_range,r.hold.nd,fun x hx y hy e=>?_⟩
  subst e
  obtain ⟨k,hk⟩:=hfp x hx
  exact (r.hold.z x k (hB _ _ hk.1)).2.2 hy
 ·have hb:b∈fps (listU (zd zA zB) st.nx++fs.H):=hb
  rw [fps_app,List.mem_append] at hb
  rcases hb with hb | hb
  ·obtain ⟨k,hk⟩:=hfp b hb
   rcases r.zin b k (hB _ _ hk.1) with g | g
   ·exact absurd (hA b k g) (hk.2.1 k)
   exact g
  exact r.own b hb
 exact ⟨r.zle b k hb,fun k' hk=>hk.2.1 k (hA b k hb)⟩
theorem fl_thaw {l:List I} {Q:Sf→Prop} {zA zB:Mem} (hA:zle B.z zA) (hAB:zle zA zB) (hB:zle zB fs.z)
  (hw:∀ (G:List HA) (zt:Mem),(∀ b k,memH G b k↔zd zA zB b k)→(∀ a,a∈G→∃ b k,a=.blk b k)→(∀ b k k',memH G b k→memH G b k'→k=k')→zle zA zt→zle (zd zB fs.z) zt→FL call B l ⟨fs.e,zt,G++fs.H⟩ Q):FL call B l fs Q:=fun st r=>by
 obtain ⟨G,h1,h2,h3,h4⟩:=r.thaw hA hAB hB
 exact hw G _ h1 h2 h3 ⟨fun b k h=>⟨hB _ _ (hAB _ _ h),fun k' hk=>hk.2.1 k h⟩⟩ ⟨fun b k h=>⟨h.1,fun k' hk=>h.2.1 k' hk.1⟩⟩ st h4
end
open Go.RowKit
open Go.Eng (Od need need_pos need_some setL binV binBV setL_length)
theorem rep1_of {a a':HA}:∀ {l:List HA},a∈l→∃ l',Rep1 l a a' l'
 | x::l,h=>by
  rcases List.mem_cons.1 h with rfl | h
  ·exact ⟨_,rep0⟩
  obtain ⟨l',h'⟩:=rep1_of (a':=a') h
  exact ⟨_,repS h'⟩
section
variable {call:Call'} {B:Base} {fs:Sf} {l:List I} {Q:Sf→Prop} {d:Nat} {U:Mem} {G pre:List HA}
theorem fps_perm {H H':List HA} (h:H.Perm H'):(fps H).Perm (fps H'):=by
 induction h with
 | nil=>exact .refl _
 | cons a _ ih=>rw [fps_cons,fps_cons];exact ih.append_left _
 | swap a b l=>rw [fps_cons,fps_cons,fps_cons,fps_cons,← List.append_assoc,← List.append_assoc];exact List.perm_append_comm.append_right _
 | trans _ _ h1 h2=>exact h1.trans h2
theorem fl_perm {H':List HA} (hp:fs.H.Perm H') (hw:FL call B l (fs.heap H') Q):FL call B l fs Q:=fun st r=>by
 have hf:=fps_perm hp
 refine hw st ⟨r.env,⟨fun b k hb=>?_,fun a ha=>r.hold.h a (hp.mem_iff.2 ha),fun b hb=>r.hold.lt b (hf.mem_iff.2 hb),hf.nodup r.hold.nd⟩,r.le,r.old,fun b hb=>r.own b (hf.mem_iff.2 hb),r.zle,r.zin⟩
 obtain ⟨h1,h2,h3⟩:=r.hold.z b k hb
 exact ⟨h1,h2,fun h=>h3 (hf.mem_iff.2 h)⟩
end
theorem FC.lent {call:Call'} {f:Nat} {args:List AV} {z:Mem} {G:List HA} {Post:AV→Mem→Prop} (h:FC call f args (tz z G) Post) (hG:∀ a,a∈G→∃ b k,a=.blk b k) :
    FCt call f args z G fun v z' H'=>H'=G∧∃ z1,Post v z1∧zle (zd (tz z G) z1) z':=fun mem nx hh=>by
  have hfp:∀ b,b∈fps G↔∃ k,HA.blk b k∈G:=fun b=>by
    constructor
    · intro hb
      obtain ⟨a,ha,hb⟩:=mem_fps.1 hb
      obtain ⟨b',k,rfl⟩:=hG a ha
      simp [HA.fp] at hb
      subst hb
      exact ⟨k,ha⟩
    · rintro ⟨k,hk⟩
      exact mem_fps.2 ⟨_,hk,by simp [HA.fp]⟩
  obtain ⟨v, mem', nx', z1, H', h1, h2, h3, h4, h5, h6, h7, e, hp⟩ := h mem nx ⟨fun b k hb => by
    rcases hb with hb | hb
    · obtain ⟨g1, g2, _⟩ := hh.z b k hb
      exact ⟨g1,g2,by simp [fps]⟩
    · exact ⟨hh.h _ hb,hh.lt b ((hfp b).2 ⟨k,hb⟩),by simp [fps]⟩,fun a ha=>by simp at ha,fun b hb=>by simp [fps] at hb,by simp [fps]⟩
  subst e
  refine ⟨v,mem',nx',fun b k=>z1 b k∧b ∉ fps G,G,h1,h2,fun b hb hn=>h3 b hb (by simp [fps]),⟨fun b k hb=>?_,fun a ha=>?_,fun b hb=>Nat.lt_of_lt_of_le (hh.lt b hb) h2,hh.nd⟩,⟨fun b k hb=>⟨h5 b k (.inl hb),(hh.z b k hb).2.2⟩⟩,fun b k hb=>?_,fun b hb=>.inr hb,rfl,z1,hp,⟨fun b k hb=>⟨hb.1,fun hn=>?_⟩⟩⟩
  · obtain ⟨g1, g2, _⟩ := h4.z b k hb.1
    exact ⟨g1,g2,hb.2⟩
  · obtain ⟨b, k, rfl⟩ := hG a ha
    show mem'.get b=some k
    rw [h3 b (hh.lt b ((hfp b).2 ⟨k,ha⟩)) (by simp [fps])]
    exact hh.h _ ha
  · rcases h6 b k hb.1 with (g | g) | g | g
    · exact .inl g
    · exact .inr (.inr ((hfp b).2 ⟨k,g⟩))
    · exact .inr (.inl g)
    · simp [fps] at g
  · obtain ⟨k', hk⟩ := (hfp b).1 hn
    exact hb.2.1 k' (.inr hk)
open Go.RowKit
open Go.Eng (Od need need_pos need_some setL binV binBV setL_length setL_def)
open Go.Num (dig hdig)
abbrev eW (x:UInt32):Value:=.int .u32 (x.toNat:Nat)
abbrev eN (n:Nat):Value:=.int .i64 (n:Nat)
def RE {α:Type} (e:α→Value):RT α:=fun _ cs a=>cs=[.v (e a)]
abbrev RW:RT UInt32:=RE eW
abbrev RN:RT Nat:=RE eN
instance:RMono (RE eW):=⟨fun _ h=>h⟩
instance:RMono (RE eN):=⟨fun _ h=>h⟩
def cE {α:Type} (e:α→Value) (l:List α):List C:=l.map fun a=>.v (e a)
section
variable {α:Type} {e:α→Value} {l:List α}
theorem cE_len:(cE e l).length=l.length:=by simp [cE]
theorem cE_get {a:α} {j:Nat} (h:l[j]? = some a):(cE e l)[j]? = some (.v (e a)):=by simp [cE,h]
theorem cE_set {j:Nat} {a:α} (h:j<l.length):setL (cE e l) j [.v (e a)]=cE e (l.set j a):=by
 rw [setL_def,List.set_eq_take_append_cons_drop,if_pos h]
 simp [cE,List.map_take,List.map_drop]
theorem cE_rep (n:Nat) (a:α):repl n [.v (e a)]=cE e (List.replicate n a):=by
 induction n with
 | zero=>rfl
 | succ n ih=>rw [repl,ih,List.replicate_succ];rfl
theorem cE_app {r:List α}:cE e l++cE e r=cE e (l++r):=by simp [cE]
theorem cE_cl {z:Mem}:CL 1 (RE e) z (cE e l) l:=by
 refine ⟨by rw [cE_len,Nat.mul_one],fun i a h=>?_⟩
 have hlt:=(List.getElem?_eq_some_iff.1 h).1
 have:((cE e l).drop (i * 1)).take 1=[.v (e a)]:=by
  apply List.ext_getElem?
  intro q
  cases q with
  | zero=>rw [List.getElem?_take,if_pos (by omega),List.getElem?_drop,Nat.mul_one,Nat.add_zero,cE_get h];rfl
  | succ q=>rw [List.getElem?_eq_none (by rw [List.length_take];omega),List.getElem?_eq_none (by simp)]
 rw [this]
 exact ⟨rfl,rfl⟩
end
abbrev rowE {α:Type} (e:α→Value) (u:AV) (ty:Nat) (l:List α):HA:=.row u ty 1 l.length (cE e l)
abbrev blkE {α:Type} (e:α→Value) (b:Nat) (ty:Nat) (l:List α):HA:=.blk b (.cells ty (cE e l))
def PE (z:Mem) (p:AV) (w:Value):Prop:=∃ b o,p=.c (.ptr b o)∧At z b o [.v w]
theorem dig_at {r:List UInt32} {j:Nat} (h:j<r.length):eW r[j]=.int .u32 (dig r j:Nat):=by
 simp [eW,dig,List.getD_eq_getElem?_getD,List.getElem?_eq_getElem h]
theorem hdig_at {r:List Nat} {j:Nat} (h:j<r.length):eN r[j]=.int .i64 (hdig r j:Nat):=by
 simp [eN,hdig,List.getD_eq_getElem?_getD,List.getElem?_eq_getElem h]
section
variable {call:Call'} {B:Base} {fs:Sf} {l:List I} {Q:Sf→Prop} {d:Nat}
theorem fl_lenN {α:Type} {size n:Nat} {R:RT α} {zz:Mem} {x:Od} {v:AV} {r:List α} (hx:fs.ev x=v) (hr:SZ size R zz v r) (hn:r.length=n) (hw:FL call B l (fs.put d (.c (.v (.int .i64 (n:Nat))))) Q):FL call B (⟨some d,none,.len false x⟩::l) fs Q:=fl_len hx (by rw [← hn];exact hr.len) hw
theorem fl_iadE {α:Type} {e:α→Value} {zz:Mem} {x i:Od} {v:AV} {r:List α} {kd:IntKind} {z:Int} (hx:fs.ev x=v) (hi:fs.ev i=.c (.v (.int kd z))) (hr:SZ 1 (RE e) zz v r) (j:Nat) (hj:z=(j:Int)) (h:j<r.length)
  (hw:∀ p,PE zz p (e r[j])→FL call B l (fs.put d p) Q):FL call B (⟨some d,none,.iad 1 x i⟩::l) fs Q:=
 fl_iadS hx hi hr j hj r[j] (List.getElem?_eq_getElem h) fun b p cs ha hR=>hw _ ⟨b,p,rfl,by rw [← hR];exact ha⟩
theorem fl_iadW {zz:Mem} {x i:Od} {v:AV} {r:List UInt32} {kd:IntKind} {z:Int} (hx:fs.ev x=v) (hi:fs.ev i=.c (.v (.int kd z))) (hr:SZ 1 RW zz v r) (j:Nat) (hj:z=(j:Int)) (h:j<r.length)
  (hw:∀ p,PE zz p (.int .u32 (dig r j:Nat))→FL call B l (fs.put d p) Q):FL call B (⟨some d,none,.iad 1 x i⟩::l) fs Q:=fl_iadE hx hi hr j hj h (by rw [dig_at h];exact hw)
theorem fl_iadH {zz:Mem} {x i:Od} {v:AV} {r:List Nat} {kd:IntKind} {z:Int} (hx:fs.ev x=v) (hi:fs.ev i=.c (.v (.int kd z))) (hr:SZ 1 RN zz v r) (j:Nat) (hj:z=(j:Int)) (h:j<r.length)
  (hw:∀ p,PE zz p (.int .i64 (hdig r j:Nat))→FL call B l (fs.put d p) Q):FL call B (⟨some d,none,.iad 1 x i⟩::l) fs Q:=fl_iadE hx hi hr j hj h (by rw [hdig_at h];exact hw)
theorem fl_ldP {x:Od} {p:AV} {w:Value} (hx:fs.ev x=p) (hp:PE fs.z p w) (hw:FL call B l (fs.put d (.c (.v w))) Q):FL call B (⟨some d,none,.load false 1 x⟩::l) fs Q:=by
 obtain ⟨b,o,rfl,h⟩:=hp
 exact fl_ldA (off:=0) hx h rfl (by simp) rfl hw
theorem fl_ldOW {x:Od} {b p ty:Nat} {r:List UInt32} (j:Nat) (hx:fs.ev x=.c (.ptr b p)) (hm:blkE eW b ty r∈fs.H) (hj:p=j) (h:j<r.length) (hw:FL call B l (fs.put d (.c (.v (.int .u32 (dig r j:Nat))))) Q):FL call B (⟨some d,none,.load false 1 x⟩::l) fs Q:=fun st rf =>
 w_load1 ((rf.ev x).trans hx) (rf.hold.h _ hm) (by rw [hj,cE_get (List.getElem?_eq_getElem h),dig_at h]) (hw _ (rf.put _ _))
theorem fl_ldOH {x:Od} {b p ty:Nat} {r:List Nat} (j:Nat) (hx:fs.ev x=.c (.ptr b p)) (hm:blkE eN b ty r∈fs.H) (hj:p=j) (h:j<r.length) (hw:FL call B l (fs.put d (.c (.v (.int .i64 (hdig r j:Nat))))) Q):FL call B (⟨some d,none,.load false 1 x⟩::l) fs Q:=fun st rf =>
 w_load1 ((rf.ev x).trans hx) (rf.hold.h _ hm) (by rw [hj,cE_get (List.getElem?_eq_getElem h),hdig_at h]) (hw _ (rf.put _ _))
theorem fl_setW {x y:Od} {b p ty:Nat} {r:List UInt32} {z:Int} {H':List HA} (j n:Nat) (hx:fs.ev x=.c (.ptr b p)) (hy:fs.ev y=.c (.v (.int .u32 z))) (hr:Rep1 fs.H (blkE eW b ty r) (blkE eW b ty (r.set j (UInt32.ofNat n))) H') (hz:z=(n:Int)) (hn:n<4294967296) (hp:p=j) (hj:j<r.length)
  (hw:FL call B l (fs.heap H') Q):FL call B (⟨none,none,.store 1 x y⟩::l) fs Q:=by
 subst hz hp
 refine fl_st (ds:=[.v (eW (UInt32.ofNat n))]) hx hy ?_ (by rw [cE_set hj];exact hr) rfl (by rw [cE_len];omega) hw
 rw [eW,Go.Num.ofNat_toNat hn]
 rfl
theorem fl_setH {x y:Od} {b p ty:Nat} {r:List Nat} {z:Int} {H':List HA} (j n:Nat) (hx:fs.ev x=.c (.ptr b p)) (hy:fs.ev y=.c (.v (.int .i64 z))) (hr:Rep1 fs.H (blkE eN b ty r) (blkE eN b ty (r.set j n)) H') (hz:z=(n:Int)) (hp:p=j) (hj:j<r.length)
  (hw:FL call B l (fs.heap H') Q):FL call B (⟨none,none,.store 1 x y⟩::l) fs Q:=by
 subst hz hp
 exact fl_st (ds:=[.v (eN n)]) hx hy rfl (by rw [cE_set hj];exact hr) rfl (by rw [cE_len];omega) hw
theorem fl_mkW {ty bytes n:Nat} {lo c:Od} {kd kd':IntKind} {z:Int} (hl:fs.ev lo=.c (.v (.int kd z))) (hc:fs.ev c=.c (.v (.int kd' z))) (hz:z=(n:Int)) (h:n * bytes≤140737488355328) (hn:n≤9223372036854775807)
    (hw:∀ b,FL call B l (fs.own d (.c (.sl b 0 n 1)) (blkE eW b ty (List.replicate n 0))) Q):FL call B (⟨some d,none,.mksl ty 1 bytes [.int .u32 0] lo c⟩::l) fs Q:=
  fl_new (w := fun b => .c (.sl b 0 n 1)) (fun _ => rfl) (fun _ => rfl) (fun st r => by
    simp only [stepE,r.ev,hl,hc,AV.int?,hz]
    rw [need_pos ⟨by omega,by omega,prodI.2 h,by omega⟩]
    rw [← cE_rep];rfl) hw
theorem fl_mkH {ty bytes n:Nat} {lo c:Od} {kd kd':IntKind} {z:Int} (hl:fs.ev lo=.c (.v (.int kd z))) (hc:fs.ev c=.c (.v (.int kd' z))) (hz:z=(n:Int)) (h:n * bytes≤140737488355328) (hn:n≤9223372036854775807)
    (hw:∀ b,FL call B l (fs.own d (.c (.sl b 0 n 1)) (blkE eN b ty (List.replicate n 0))) Q):FL call B (⟨some d,none,.mksl ty 1 bytes [.int .i64 0] lo c⟩::l) fs Q:=
  fl_new (w := fun b => .c (.sl b 0 n 1)) (fun _ => rfl) (fun _ => rfl) (fun st r => by
    simp only [stepE,r.ev,hl,hc,AV.int?,hz]
    rw [need_pos ⟨by omega,by omega,prodI.2 h,by omega⟩]
    rw [← cE_rep];rfl) hw
theorem fl_push {α:Type} {e:α→Value} {d1 ty ty' bytes:Nat} {zero zero':List Value} {x y:Od} {u:AV} {r:List α} {w:Value} {a:α} {H':AV→List HA} (hy:fs.ev y=.c (.v w)) (hw0:w=e a) (hz:(repl 1 (zero.map fun v=>C.v v)).length=1)
    (hx:∀ b,(fs.own d1 (.c (.sl b 0 1 1)) (.blk b (.cells ty [.v w]))).ev x=u) (hr:∀ u',Rep1 fs.H (rowE e u ty' r) (rowE e u' ty' (r++[a])) (H' u')) (hb:(r.length+1) * bytes≤140737488355328) (hn:r.length+1≤9223372036854775807)
    (hw:∀ b (c:C),sameC c c=true→FL call B l ⟨eput (eput fs.e d1 (.c (.sl b 0 1 1))) d (.c c),fs.z,.blk b (.cells ty [.v w])::H' (.c c)⟩ Q) :
    FL call B (⟨some d1,none,.bslice ty 1 1 zero [(0,y)]⟩::⟨some d,none,.app ty' 1 bytes zero' x (.t d1)⟩::l) fs Q:=by
  subst hw0
  refine fl_bslice (cs:=[.v (e a)]) ?_ fun b=>?_
  · obtain ⟨c, hc⟩ := List.length_eq_one_iff.1 hz
    rw [hc]
    simp only [fillSE,hy,AV.cells?]
    rfl
  · refine fl_appB (m := 1) (cs := cE e r) (news := [.v (e a)]) (b := b) (H' := fun u' => .blk b (.cells ty [.v (e a)]) :: H' u') (hx b) (by show eput fs.e d1 _ d1 = _; rw [eput_get, if_pos rfl]) mem0 rfl (fun u' => repS ?_) hb hn fun c hc => hw b c hc
    have:Rep1 fs.H (rowE e u ty' r) (.row u' ty' 1 (r++[a]).length (cE e (r++[a]))) (H' u'):=hr u'
    rw [show cE e (r++[a])=cE e r++[.v (e a)] from cE_app.symm,show (r++[a]).length=r.length+1 by simp] at this
    exact this
def bndE (fs:Sf) (o:Option Od) (dflt i:Nat):Prop:=match o with
 | none=>i=dflt
 | some x=>∃ k,fs.ev x=.c (.v (.int k (i:Nat)))
theorem bnd_of {st:AS} (rf:Rf B fs st) {o:Option Od} {dflt i:Nat} (h:bndE fs o dflt i):bnd st o dflt=some (i:Int):=by
 cases o with
 | none=>simp only [bndE] at h;subst h;rfl
 | some x =>
  obtain ⟨k,h⟩:=h
  simp only [bnd,rf.ev,h]
  rfl
def subV (v:AV) (i j:Nat):AV:=match v with
 | .c (.sl b o n s)=>if i=0 then .c (.sl b o j s) else if i<n then .c (.sl b (o+i * s) (j - i) s) else .c .em
 | v=>v
theorem SZ.sub {α:Type} {size:Nat} {R:RT α} {zz:Mem} {v:AV} {r:List α} (h:SZ size R zz v r) {i j:Nat} (hij:i≤j) (hj:j≤r.length):SZ size R zz (subV v i j) ((r.take j).drop i):=by
  cases h with
  | nil => simp only [subV]; have : (([] : List α).take j).drop i = [] := by simp
           rw [this];exact .nil
  | em => simp only [subV]; have : (([] : List α).take j).drop i = [] := by simp
          rw [this];exact .em
  | sl b o n k full l hl hm hz hk hf h =>
    subst hl
    have hlen:((r.take j).drop i).length=j - i:=by rw [List.length_drop,List.length_take];omega
    have hget:∀ q a,((r.take j).drop i)[q]? = some a→r[i+q]? = some a:=fun q a hq=>by
      rw [List.getElem?_drop,List.getElem?_take] at hq
      split at hq
      · exact hq
      · cases hq
    have hjs:j * size≤r.length * size:=Nat.mul_le_mul_right _ hj
    have his:i * size+(j - i) * size=j * size:=by rw [← Nat.add_mul];congr 1;omega
    have key:SZ size R zz (.c (.sl b (o+i * size) (j - i) size)) ((r.take j).drop i):=by
      refine .sl b _ _ k full _ hlen (by omega) hz hk (by omega) fun q a hq=>?_
      have:=h (i+q) a (hget q a hq)
      rw [Nat.add_mul] at this
      rw [Nat.add_assoc]
      exact this
    simp only [subV]
    by_cases h0:i=0
    · subst h0
      rw [if_pos rfl]
      simpa using key
    · rw [if_neg h0]
      by_cases h1:i<r.length
      · rw [if_pos h1];exact key
      · rw [if_neg h1]
        have e:(r.take j).drop i=[]:=List.eq_nil_of_length_eq_zero (by omega)
        rw [e];exact .em
theorem fl_slcS {α:Type} {size:Nat} {R:RT α} {zz:Mem} {r:List α} {x:Od} {lo hi:Option Od} {v:AV} {i j:Nat} (hx:fs.ev x=v) (hr:SZ size R zz v r) (hlo:bndE fs lo 0 i) (hhi:bndE fs hi r.length j) (hij:i≤j) (hj:j≤r.length)
    (hw:FL call B l (fs.put d (subV v i j)) Q):FL call B (⟨some d,none,.slc size x lo hi⟩::l) fs Q:=
  fl_q (fun _ => rfl) (fun st rf => by
    have h1:=bnd_of rf hlo
    have h2:=bnd_of rf hhi
    simp only [stepQ,rf.ev,hx]
    cases hr with
    | nil => simp at hj; subst hj; have : i = 0 := by omega
             subst this;simp only [h1,List.length_nil] at h2 ⊢;simp only [h2];rfl
    | em => simp at hj; subst hj; have : i = 0 := by omega
            subst this;simp only [h1,List.length_nil] at h2 ⊢;simp only [h2];rfl
    | sl b o n k full _ hl hm hz hk hf h =>
      subst hl
      simp only [h1,h2]
      rw [need_pos (by refine ⟨?_,?_,?_,?_⟩<;>first | trivial | omega)]
      simp only [subV,Int.toNat_natCast]
      congr 1
      by_cases h0:i=0
      · subst h0;simp
      · rw [if_neg (by omega), if_neg h0]
        by_cases h3:i<r.length
        · rw [if_pos (by omega),if_pos h3]
        · rw [if_neg (by omega),if_neg h3]) hw
theorem fl_slcO {size b o n:Nat} {x:Od} {lo hi:Option Od} {i j:Nat} (hx:fs.ev x=.c (.sl b o n size)) (hlo:bndE fs lo 0 i) (hhi:bndE fs hi n j) (hij:i≤j) (hj:j≤n) (hin:i<n)
    (hw:FL call B l (fs.put d (.c (.sl b (o+i * size) (j - i) size))) Q):FL call B (⟨some d,none,.slc size x lo hi⟩::l) fs Q:=
  fl_q (fun _ => rfl) (fun st rf => by
    have h1:=bnd_of rf hlo
    have h2:=bnd_of rf hhi
    simp only [stepQ,rf.ev,hx,h1,h2]
    rw [need_pos (by refine ⟨?_,?_,?_,?_⟩<;>first | trivial | omega)]
    simp only [Int.toNat_natCast]
    congr 1
    by_cases h0:i=0
    · subst h0;simp
    · rw [if_neg (by omega),if_pos (by omega)]) hw
theorem fl_ixs {x i:Od} {s:ByteArray} {kd:IntKind} {z:Int} (hx:fs.ev x=.c (.v (.string s))) (hi:fs.ev i=.c (.v (.int kd z))) (j:Nat) (hj:z=(j:Int)) (h:j<s.size) (hw:FL call B l (fs.put d (.c (.v (.int .u8 ((Go.Eng.bget s j).toNat:Nat))))) Q):FL call B (⟨some d,none,.ixs x i⟩::l) fs Q:=
  fl_q (fun _ => rfl) (fun st rf => by
    subst hj
    simp only [stepQ,rf.ev,hx,hi,AV.val?,AV.int?]
    rw [need_pos ⟨by omega,by omega⟩,Int.toNat_natCast]
    rfl) hw
theorem fl_ld1 {x:Od} {b o ty:Nat} {cs:List C} {c:C} (hx:fs.ev x=.c (.ptr b o)) (hm:HA.blk b (.cells ty cs)∈fs.H) (h:cs[o]? = some c) (hw:FL call B l (fs.put d (.c c)) Q):FL call B (⟨some d,none,.load false 1 x⟩::l) fs Q:=
 fun st r=>w_load1 ((r.ev x).trans hx) (r.hold.h _ hm) h (hw _ (r.put _ _))
theorem fl_ld2 {x:Od} {b o ty:Nat} {cs:List C} {c0 c1:C} (hx:fs.ev x=.c (.ptr b o)) (hm:HA.blk b (.cells ty cs)∈fs.H) (h:(cs.drop o).take 2=[c0,c1]) (hw:FL call B l (fs.put d (.agg [c0,c1])) Q):FL call B (⟨some d,none,.load true 2 x⟩::l) fs Q:=by
 refine fl_ld hx hm ?_ (by rw [h];rfl) hw
 have:=congrArg List.length h
 rw [List.length_take,List.length_drop] at this
 simp at this;omega
theorem fl_ld4 {x:Od} {b o ty:Nat} {cs:List C} {c0 c1 c2 c3:C} (hx:fs.ev x=.c (.ptr b o)) (hm:HA.blk b (.cells ty cs)∈fs.H) (h:(cs.drop o).take 4=[c0,c1,c2,c3]) (hw:FL call B l (fs.put d (.agg [c0,c1,c2,c3])) Q):FL call B (⟨some d,none,.load true 4 x⟩::l) fs Q:=by
 refine fl_ld hx hm ?_ (by rw [h];rfl) hw
 have:=congrArg List.length h
 rw [List.length_take,List.length_drop] at this
 simp at this;omega
theorem fl_st2 {x y:Od} {b ty:Nat} {a0 a1 c0 c1:C} {H':List HA} (hx:fs.ev x=.c (.ptr b 0)) (hy:fs.ev y=.agg [c0,c1]) (hr:Rep1 fs.H (.blk b (.cells ty [a0,a1])) (.blk b (.cells ty [c0,c1])) H') (hw:FL call B l (fs.heap H') Q):FL call B (⟨none,none,.store 2 x y⟩::l) fs Q:=
 fl_stE hx hy rfl hr rfl rfl (by simp) hw
theorem fl_st4 {x y:Od} {b ty:Nat} {a0 a1 a2 a3 c0 c1 c2 c3:C} {H':List HA} (hx:fs.ev x=.c (.ptr b 0)) (hy:fs.ev y=.agg [c0,c1,c2,c3]) (hr:Rep1 fs.H (.blk b (.cells ty [a0,a1,a2,a3])) (.blk b (.cells ty [c0,c1,c2,c3])) H') (hw:FL call B l (fs.heap H') Q):FL call B (⟨none,none,.store 4 x y⟩::l) fs Q:=
 fl_stE hx hy rfl hr rfl rfl (by simp) hw
theorem fl_al2 {ty:Nat} {v0 v1:Value} (hw:∀ b,FL call B l (fs.own d (.c (.ptr b 0)) (.blk b (.cells ty [.v v0,.v v1]))) Q):FL call B (⟨some d,none,.alloc ty [v0,v1]⟩::l) fs Q:=fl_alloc hw
theorem fl_al4 {ty:Nat} {v0 v1 v2 v3:Value} (hw:∀ b,FL call B l (fs.own d (.c (.ptr b 0)) (.blk b (.cells ty [.v v0,.v v1,.v v2,.v v3]))) Q):FL call B (⟨some d,none,.alloc ty [v0,v1,v2,v3]⟩::l) fs Q:=fl_alloc hw
theorem fl_bx {ty:Nat} {x:Od} {cs:List C} (hx:fs.ev x=.agg cs) (hw:∀ b,FL call B l (fs.own d (.c (.ptr b 0)) (.blk b (.cells ty cs))) Q):FL call B (⟨some d,none,.box ty x⟩::l) fs Q:=fl_box hx rfl hw
theorem fl_bd {zero:List Value} {parts:List (Nat×Nat×Od)} {cs:List C} (h:fillCE fs.ev (zero.map fun v=>.v v) parts=some cs) (hw:FL call B l (fs.put d (.agg cs)) Q):FL call B (⟨some d,none,.build zero parts⟩::l) fs Q:=fl_build h hw
end
theorem fl_fld1 {x:Od} {off:Nat} {cs:List C} {c:C} {call:Call'} {B:Base} {fs:Sf} {l:List I} {Q:Sf→Prop} {d:Nat} (hx:fs.ev x=.agg cs) (h:cs[off]? = some c) (hw:FL call B l (fs.put d (.c c)) Q):FL call B (⟨some d,none,.fld false 1 off x⟩::l) fs Q:=by
 have hlt:=(List.getElem?_eq_some_iff.1 h).1
 refine fl_fld hx (by omega) ?_ hw
 have:(cs.drop off).take 1=[c]:=by
  apply List.ext_getElem?
  intro q
  cases q with
  | zero=>rw [List.getElem?_take,if_pos (by omega),List.getElem?_drop,Nat.add_zero,h];rfl
  | succ q=>rw [List.getElem?_eq_none (by rw [List.length_take];omega),List.getElem?_eq_none (by simp)]
 rw [this];rfl
theorem fl_fld2 {x:Od} {off:Nat} {cs:List C} {c0 c1:C} {call:Call'} {B:Base} {fs:Sf} {l:List I} {Q:Sf→Prop} {d:Nat} (hx:fs.ev x=.agg cs) (h:(cs.drop off).take 2=[c0,c1]) (hw:FL call B l (fs.put d (.agg [c0,c1])) Q):FL call B (⟨some d,none,.fld true 2 off x⟩::l) fs Q:=by
 refine fl_fld hx ?_ (by rw [h];rfl) hw
 have:=congrArg List.length h
 rw [List.length_take,List.length_drop] at this
 simp at this;omega
section
variable {call:Call'} {B:Base} {an:List Nat} {j:Nat} {l:List CE.D} {fs:Sf} {T:Mem} {tag last:Nat} {pj lj:List Nat} {Q:Sf→Prop} {i:I} {d:Nat} {x:Od} {af:List Nat}
theorem fg_ldP {p:AV} {zz:Mem} {k:IntKind} {n:Int} (hi:i.o=.load false 1 x) (hd:i.d=some d) (hg:GK fs i) (hx:fs.ev x=p) (hp:PE zz p (.int k n)) (hz:∀ b k,zz b k→T b k) (hw:FG call B an (j+1) l (fs.put d (.c (.v (.int k n)))) T tag last pj (j::lj) Q):FG call B an j (⟨i,af⟩::l) fs T tag last pj lj Q:=by
 obtain ⟨b,o,rfl,h⟩:=hp
 exact fg_ldA (v:=.c (.v (.int k n))) (off:=0) hi hd hg hx h hz rfl (by simp) rfl (by simp [sameA,sameC,sameV_int]) hw
theorem fg_ld1 {b o ty:Nat} {cs:List C} {c:C} (hi:i.o=.load false 1 x) (hd:i.d=some d) (hg:GK fs i) (hx:fs.ev x=.c (.ptr b o)) (hT:T b (.cells ty cs)) (h:cs[o]? = some c) (hs:sameA (.c c) (.c c)=true) (hw:FG call B an (j+1) l (fs.put d (.c c)) T tag last pj (j::lj) Q):FG call B an j (⟨i,af⟩::l) fs T tag last pj lj Q:=by
 have hlt:=(List.getElem?_eq_some_iff.1 h).1
 have e:(cs.drop o).take 1=[c]:=by
  apply List.ext_getElem?
  intro q
  cases q with
  | zero=>rw [List.getElem?_take,if_pos (by omega),List.getElem?_drop,Nat.add_zero,h];rfl
  | succ q=>rw [List.getElem?_eq_none (by rw [List.length_take];omega),List.getElem?_eq_none (by simp)]
 exact fg_load hi hd hg hx hT rfl (by omega) (by rw [e];rfl) hs hw
theorem fg_ld2 {b o ty:Nat} {cs:List C} {c0 c1:C} (hi:i.o=.load true 2 x) (hd:i.d=some d) (hg:GK fs i) (hx:fs.ev x=.c (.ptr b o)) (hT:T b (.cells ty cs)) (h:(cs.drop o).take 2=[c0,c1]) (hs:sameA (.agg [c0,c1]) (.agg [c0,c1])=true) (hw:FG call B an (j+1) l (fs.put d (.agg [c0,c1])) T tag last pj (j::lj) Q):FG call B an j (⟨i,af⟩::l) fs T tag last pj lj Q:=by
 refine fg_load hi hd hg hx hT rfl ?_ (by rw [h];rfl) hs hw
 have:=congrArg List.length h
 rw [List.length_take,List.length_drop] at this
 simp at this;omega
theorem fg_ld4 {b o ty:Nat} {cs:List C} {c0 c1 c2 c3:C} (hi:i.o=.load true 4 x) (hd:i.d=some d) (hg:GK fs i) (hx:fs.ev x=.c (.ptr b o)) (hT:T b (.cells ty cs)) (h:(cs.drop o).take 4=[c0,c1,c2,c3]) (hs:sameA (.agg [c0,c1,c2,c3]) (.agg [c0,c1,c2,c3])=true) (hw:FG call B an (j+1) l (fs.put d (.agg [c0,c1,c2,c3])) T tag last pj (j::lj) Q):FG call B an j (⟨i,af⟩::l) fs T tag last pj lj Q:=by
 refine fg_load hi hd hg hx hT rfl ?_ (by rw [h];rfl) hs hw
 have:=congrArg List.length h
 rw [List.length_take,List.length_drop] at this
 simp at this;omega
theorem fg_ldOW {b p ty:Nat} {r:List UInt32} (q:Nat) (hi:i.o=.load false 1 x) (hd:i.d=some d) (hg:GK fs i) (hx:fs.ev x=.c (.ptr b p)) (hT:T b (.cells ty (cE eW r))) (hq:p=q) (h:q<r.length) (hw:FG call B an (j+1) l (fs.put d (.c (.v (.int .u32 (dig r q:Nat))))) T tag last pj (j::lj) Q):FG call B an j (⟨i,af⟩::l) fs T tag last pj lj Q:=
 fg_ld1 hi hd hg hx hT (by rw [hq,cE_get (List.getElem?_eq_getElem h),dig_at h]) (by simp [sameA,sameC,sameV_int]) hw
theorem fg_splitD (s:Nat) {P:Prop} [Decidable P] (h:fs.e s=.c (.v (.bool (decide P)))) (h1:P→FG call B an j l (fs.put s (.c (.v (.bool true)))) T tag last pj lj Q) (h2:¬ P→FG call B an j l (fs.put s (.c (.v (.bool false)))) T tag last pj lj Q):FG call B an j l fs T tag last pj lj Q:=fg_splitB s h (fun h=>h1 (of_decide_eq_true h)) (fun h=>h2 (of_decide_eq_false h))
theorem fg_splitN (s:Nat) {P:Prop} [Decidable P] (h:fs.e s=.c (.v (.bool (!decide P)))) (h1:¬ P→FG call B an j l (fs.put s (.c (.v (.bool true)))) T tag last pj lj Q) (h2:P→FG call B an j l (fs.put s (.c (.v (.bool false)))) T tag last pj lj Q):FG call B an j l fs T tag last pj lj Q:=fg_splitB s h (fun h=>h1 (by simpa using h)) (fun h=>h2 (by simpa using h))
end
section
variable {call:Call'} {B:Base} {fs:Sf}
theorem frz_key {α:Type} {size:Nat} {R:RT α} [RMono R] {G:AS→Prop} {u:AV} {ty n:Nat} {cs:List C} {r:List α} {p q:List HA} {z0:Mem} (e:fs.H=p++.row u ty size n cs::q) (hz0:zle z0 fs.z) (hc:CL size R (zd z0 fs.z) cs r) (hn:r.length=n) (hm:n≤9223372036854775807)
    (hw:∀ z',zle fs.z z'→SZ size R (zd z0 z') u r→∀ st,Rf B (fs.frz z' (p++q)) st→G st):∀ st,Rf B fs st→G st:=fun st rf=>by
  obtain ⟨g1,g2⟩:=rf.hold.h (.row u ty size n cs) (by rw [e];simp)
  rcases g2 with ⟨h0,rfl⟩ | ⟨b,rfl,h3⟩
  · have hr0 : r = [] := List.eq_nil_of_length_eq_zero (by omega)
    subst hr0
    refine hw fs.z (zle.refl _) .nil st ?_
    have hsub:(p++q).Sublist fs.H:=by rw [e];exact (List.Sublist.refl p).append (List.sublist_cons_self _ _)
    exact ⟨rf.env,rf.hold.sub hsub,rf.le,rf.old,fun b hb=>rf.own b ((fps_sub hsub).subset hb),rf.zle,rf.zin⟩
  · have h1 := rf.frz (p := p) (q := q) (b := b) (k := .cells ty cs) (a := .row (.c (.sl b 0 n size)) ty size n cs) e rfl (fun m hm => by
      obtain ⟨_,hm⟩:=hm
      rcases hm with ⟨_,hm⟩ | ⟨b',hb',hm⟩
      · cases hm
      · injection hb' with hb';injection hb' with hb';subst hb';exact hm)
    have hnb:∀ k',¬ z0 b k':=fun k' hb=>(rf.hold.z b k' (hz0 b k' hb)).2.2 (by rw [e,fps_app,fps_cons];simp [HA.fp])
    exact hw _ ⟨fun _ _ h=>.inl h⟩ ((hc.mono (zd_mono ⟨fun _ _ h=>.inl h⟩)).sz hn hm ⟨.inr ⟨rfl,rfl⟩,hnb,rfl⟩) st h1
variable {α:Type} {e:α→Value} [RMono (RE e)]
theorem fl_frzR {l:List I} {Q:Sf→Prop} {u:AV} {ty:Nat} {r:List α} {p q:List HA} (z0:Mem) (h:fs.H=p++rowE e u ty r::q) (hz0:zle z0 fs.z) (hm:r.length≤9223372036854775807) (hw:∀ z',zle fs.z z'→SZ 1 (RE e) (zd z0 z') u r→FL call B l (fs.frz z' (p++q)) Q):FL call B l fs Q:=frz_key h hz0 cE_cl rfl hm hw
theorem fl_frzB {l:List I} {Q:Sf→Prop} {b ty n:Nat} {r:List α} {p q:List HA} (z0:Mem) (h:fs.H=p++blkE e b ty r::q) (hz0:zle z0 fs.z) (hn:r.length=n) (hm:n≤9223372036854775807) (hw:∀ z',zle fs.z z'→SZ 1 (RE e) (zd z0 z') (.c (.sl b 0 n 1)) r→FL call B l (fs.frz z' (p++q)) Q):FL call B l fs Q:=
 fl_asrow (n:=n) (size:=1) h (by rw [cE_len];omega) (frz_key (fs:=fs.heap _) (ty:=ty) (p:=p) (q:=q) (cs:=cE e r) rfl hz0 cE_cl hn hm hw)
end
theorem fl_rowE {call:Call'} {B:Base} {fs:Sf} {l:List I} {Q:Sf→Prop} {α:Type} {e:α→Value} {u:AV} {ty:Nat} {r:List α} {p q:List HA} (h:fs.H=p++rowE e u ty r::q) (hn:0<r.length) (h1:∀ b,u=.c (.sl b 0 r.length 1)→FL call B l (fs.heap (p++blkE e b ty r::q)) Q):FL call B l fs Q:=fl_rowC h hn h1
theorem fl_asrowE {call:Call'} {B:Base} {fs:Sf} {l:List I} {Q:Sf→Prop} {α:Type} {e:α→Value} {b ty n:Nat} {r:List α} {p q:List HA} (h:fs.H=p++blkE e b ty r::q) (hn:r.length=n) (hw:FL call B l (fs.heap (p++rowE e (.c (.sl b 0 n 1)) ty r::q)) Q):FL call B l fs Q:=by
 subst hn
 exact fl_asrow h (by rw [cE_len,Nat.mul_one]) hw
def LI (z0:Mem) (H:List HA) (ls:List (Nat×AV)) (fs:Sf):Prop:=∃ e z Hx,fs=⟨e,z,Hx++H⟩∧zle z0 z∧AtL e ls
theorem LI.mk {z0 z:Mem} {H:List HA} {ls:List (Nat×AV)} {e:Env} (Hx:List HA) (hz:zle z0 z) (ha:AtL e ls):LI z0 H ls ⟨e,z,Hx++H⟩:=⟨e,z,Hx,rfl,hz,ha⟩
theorem LI.open {call:Call'} {k:Nat} {B:Base} {c:XC} {Q:Exit→Sf→Prop} {z0:Mem} {H:List HA} {ls:List (Nat×AV)} {fs:Sf} (h:LI z0 H ls fs) (hw:∀ e z,zle z0 z→FX call k B c ⟨eputs e ls,z,H⟩ Q):FX call k B c fs Q:=by
 obtain ⟨e,z,Hx,rfl,hz,ha⟩:=h
 exact fx_at ha fun e=>fx_sub (List.sublist_append_right _ _) (hw e z hz)
theorem fx_join {call : Call'} {k : Nat} {B : Base} {fs : Sf} {Q : Exit → Sf → Prop} {a b : XC} (J : Sf → Prop) (h : FX call k B a fs (seqQ J Q)) (g : ∀ fs', J fs' → FX call k B b fs' Q) : FX call k B (.seq a b) fs Q := fx_seq (fx_mono h fun e fs' q => by
  cases e with
  | normal=>exact g fs' q
  | _=>exact q)
theorem cl_cE {α:Type} {e:α→Value} {z:Mem} {cs:List C} {l:List α} (h:CL 1 (RE e) z cs l):cs=cE e l:=by
 apply List.ext_getElem?
 intro i
 rcases Nat.lt_or_ge i l.length with hi | hi
 ·have h1:=(h.2 i l[i] (List.getElem?_eq_getElem hi)).2
  have h2:((cs.drop (i * 1)).take 1)[0]? = cs[i]?:=by rw [List.getElem?_take,if_pos (by omega),List.getElem?_drop,Nat.mul_one,Nat.add_zero]
  rw [← h2,show (cs.drop (i * 1)).take 1=[.v (e l[i])] from h1,cE_get (List.getElem?_eq_getElem hi)]
  rfl
 rw [List.getElem?_eq_none (by rw [h.1];omega),List.getElem?_eq_none (by rw [cE_len];exact hi)]
theorem rc2 {fs:Sf} {i b ty:Nat} {c0 c1:C} {rs:List RR} {vs:List AV} (hp:fs.e i=.c (.ptr b 0)) (hm:HA.blk b (.cells ty [c0,c1])∈fs.H) (t:ResL fs rs vs):ResL fs (.c i true 2::rs) (.agg [c0,c1]::vs):=rc hp hm (by simp) rfl t
theorem rc4 {fs:Sf} {i b ty:Nat} {c0 c1 c2 c3:C} {rs:List RR} {vs:List AV} (hp:fs.e i=.c (.ptr b 0)) (hm:HA.blk b (.cells ty [c0,c1,c2,c3])∈fs.H) (t:ResL fs rs vs):ResL fs (.c i true 4::rs) (.agg [c0,c1,c2,c3]::vs):=rc hp hm (by simp) rfl t
theorem wI {z:Int} {n:Nat} (h:z=n) (h2:n<9223372036854775808):IntKind.i64.wrap z=n:=by rw [h];exact wi64 ⟨by omega,by omega⟩
theorem wQ {z:Int} {n:Nat} (h:z=n) (h2:n<18446744073709551616):IntKind.u64.wrap z=n:=by rw [h];exact wu64 ⟨by omega,by omega⟩
theorem wD {z:Int} {n:Nat} (h:z=n) (h2:n<4294967296):IntKind.u32.wrap z=n:=by rw [h];exact wu32 ⟨by omega,by omega⟩
theorem wDm (n:Nat):IntKind.u32.wrap (n:Int)=((n % 4294967296:Nat):Int):=by rw [wu32m];omega
theorem bI_add {a b:Int} {n:Nat} (h:a+b=n) (h2:n<9223372036854775808):binW .add (.int .i64 a) (.int .i64 b)=some (.int .i64 n):=b_add' (wI h h2)
theorem bI_sub {a b:Int} {n:Nat} (h:a - b=n) (h2:n<9223372036854775808):binW .sub (.int .i64 a) (.int .i64 b)=some (.int .i64 n):=b_sub' (wI h h2)
theorem bI_mul {a b:Int} {n:Nat} (h:a * b=n) (h2:n<9223372036854775808):binW .mul (.int .i64 a) (.int .i64 b)=some (.int .i64 n):=b_mul' (wI h h2)
theorem bQ_add {a b:Int} {n:Nat} (h:a+b=n) (h2:n<18446744073709551616):binW .add (.int .u64 a) (.int .u64 b)=some (.int .u64 n):=b_add' (wQ h h2)
theorem bQ_sub {a b:Int} {n:Nat} (h:a - b=n) (h2:n<18446744073709551616):binW .sub (.int .u64 a) (.int .u64 b)=some (.int .u64 n):=b_sub' (wQ h h2)
theorem bQ_mul {a b:Int} {n:Nat} (h:a * b=n) (h2:n<18446744073709551616):binW .mul (.int .u64 a) (.int .u64 b)=some (.int .u64 n):=b_mul' (wQ h h2)
theorem bD_add {a b:Int} {n:Nat} (h:a+b=n) (h2:n<4294967296):binW .add (.int .u32 a) (.int .u32 b)=some (.int .u32 n):=b_add' (wD h h2)
theorem bI_quo {a b n:Nat} (hb:0<b) (h:a / b=n) (ha:a<9223372036854775808):binW .quo (.int .i64 a) (.int .i64 b)=some (.int .i64 n):=b_quo' (by omega) (by omega) (wI (by rw [← h,Int.natCast_ediv]) (by have:=Nat.div_le_self a b;omega))
theorem bI_rem {a b n:Nat} (hb:0<b) (h:a % b=n):binW .rem (.int .i64 a) (.int .i64 b)=some (.int .i64 n):=b_rem' (by omega) (by omega) (by rw [← h,Int.natCast_emod])
theorem bQ_quo {a b n:Nat} (hb:0<b) (h:a / b=n) (ha:a<18446744073709551616):binW .quo (.int .u64 a) (.int .u64 b)=some (.int .u64 n):=b_quo' (by omega) (by omega) (wQ (by rw [← h,Int.natCast_ediv]) (by have:=Nat.div_le_self a b;omega))
theorem bQ_rem {a b n:Nat} (hb:0<b) (h:a % b=n):binW .rem (.int .u64 a) (.int .u64 b)=some (.int .u64 n):=b_rem' (by omega) (by omega) (by rw [← h,Int.natCast_emod])
theorem b_shr {k kb:IntKind} {a s n:Nat} (hs:s≤k.bits) (h:a / 2 ^ s=n):binW .shr (.int k a) (.int kb s)=some (.int k n):=by
 subst h
 simp only [binW,binV]
 rw [need_pos (by omega),Int.toNat_natCast,Nat.min_eq_left hs,Int.fdiv_eq_ediv_of_nonneg _ (by exact Int.pow_nonneg (by omega))]
 have:((a / 2 ^ s:Nat):Int)=(a:Int) / 2 ^ s:=by simp
 rw [this]
theorem b_shl {k kb:IntKind} {a s n:Nat} (hs:s≤k.bits) (h:k.wrap ((a * 2 ^ s:Nat):Int)=n):binW .shl (.int k a) (.int kb s)=some (.int k n):=by
 simp only [binW,binV]
 rw [need_pos (by omega),Int.toNat_natCast,Nat.min_eq_left hs,← h]
 simp
theorem and_nat {k:IntKind} {a b:Nat} (ha:a<2 ^ k.bits) (hb:b<2 ^ k.bits):(BitVec.ofInt k.bits (a:Int) &&& BitVec.ofInt k.bits (b:Int)).toNat=a &&& b:=by
 rw [BitVec.toNat_and,BitVec.toNat_ofInt,BitVec.toNat_ofInt,Int.emod_eq_of_lt (by omega) (by exact_mod_cast ha),Int.emod_eq_of_lt (by omega) (by exact_mod_cast hb)]
 simp
theorem or_nat {k:IntKind} {a b:Nat} (ha:a<2 ^ k.bits) (hb:b<2 ^ k.bits):(BitVec.ofInt k.bits (a:Int) ||| BitVec.ofInt k.bits (b:Int)).toNat=a ||| b:=by
 rw [BitVec.toNat_or,BitVec.toNat_ofInt,BitVec.toNat_ofInt,Int.emod_eq_of_lt (by omega) (by exact_mod_cast ha),Int.emod_eq_of_lt (by omega) (by exact_mod_cast hb)]
 simp
theorem xor_nat {k:IntKind} {a b:Nat} (ha:a<2 ^ k.bits) (hb:b<2 ^ k.bits):(BitVec.ofInt k.bits (a:Int) ^^^ BitVec.ofInt k.bits (b:Int)).toNat=a ^^^ b:=by
 rw [BitVec.toNat_xor,BitVec.toNat_ofInt,BitVec.toNat_ofInt,Int.emod_eq_of_lt (by omega) (by exact_mod_cast ha),Int.emod_eq_of_lt (by omega) (by exact_mod_cast hb)]
 simp
theorem bQ_or {a b n:Nat} (ha:a<18446744073709551616) (hb:b<18446744073709551616) (h:a ||| b=n):binW .or (.int .u64 a) (.int .u64 b)=some (.int .u64 n):=by
 have h2:a ||| b<2 ^ 64:=Nat.or_lt_two_pow ha hb
 simp only [binW,binV]
 rw [need_pos trivial,or_nat (k:=.u64) ha hb,wQ (n:=n) (by rw [h]) (by omega)]
theorem bD_and {a b n:Nat} (ha:a<4294967296) (hb:b<4294967296) (h:a &&& b=n):binW .and (.int .u32 a) (.int .u32 b)=some (.int .u32 n):=by
 have h2:a &&& b<2 ^ 32:=Nat.and_lt_two_pow _ hb
 simp only [binW,binV]
 rw [need_pos trivial,and_nat (k:=.u32) ha hb,wD (n:=n) (by rw [h]) (by omega)]
theorem bD_or {a b n:Nat} (ha:a<4294967296) (hb:b<4294967296) (h:a ||| b=n):binW .or (.int .u32 a) (.int .u32 b)=some (.int .u32 n):=by
 have h2:a ||| b<2 ^ 32:=Nat.or_lt_two_pow ha hb
 simp only [binW,binV]
 rw [need_pos trivial,or_nat (k:=.u32) ha hb,wD (n:=n) (by rw [h]) (by omega)]
theorem bD_xor {a b n:Nat} (ha:a<4294967296) (hb:b<4294967296) (h:a ^^^ b=n):binW .xor (.int .u32 a) (.int .u32 b)=some (.int .u32 n):=by
 have h2:a ^^^ b<2 ^ 32:=Nat.xor_lt_two_pow ha hb
 simp only [binW,binV]
 rw [need_pos trivial,xor_nat (k:=.u32) ha hb,wD (n:=n) (by rw [h]) (by omega)]
theorem uD_not {a n:Nat} (ha:a<4294967296) (h:4294967295 - a=n):unW .xor (.int .u32 a)=some (.int .u32 n):=by
 have e:(BitVec.ofInt 32 (4294967295:Int) ^^^ BitVec.ofInt 32 (a:Int)).toNat=4294967295 - a:=by
  rw [show BitVec.ofInt 32 (4294967295:Int)=BitVec.allOnes 32 by decide,BitVec.allOnes_xor,BitVec.toNat_not,BitVec.toNat_ofInt]
  omega
 show some (Value.int .u32 (IntKind.u32.wrap (((BitVec.ofInt 32 (4294967295:Int) ^^^ BitVec.ofInt 32 (a:Int)).toNat:Nat):Int)))=_
 rw [e,wD (n:=n) (by rw [h]) (by omega)]
theorem u_neg {k:IntKind} {z r:Int} (h:k.wrap (0 - z)=r):unW .neg (.int k z)=some (.int k r):=by
 simp only [unW,Go.Eng.unV,h]
open Go.RowKit
open Go.Eng (callable Od)
def noHand2:Call':=fun _ _ _ _=>none
theorem noHand2_snd {P:Program}:CallSnd P noHand2:=fun _ _ _ _ _ _ _ h=>by cases h
def handG (g ty:Nat) (h0:Call'):Call':=fun f args mem nx=>match Nat.beq f g with
 | true=>match args with
  | [.c (.v (.slice none 0 0)),.c (.v (.int .i64 n))]=>match decide (0<n) && decide (n≤35184372088832) with
   | true=>some (.c (.sl nx 0 0 1),Tr.put (nx+1) mem nx (some (.cells ty [])),nx+1)
   | false=>none
  | _=>none
 | false=>h0 f args mem nx
def GrowsNil (P:Program) (g ty:Nat):Prop:=∀ (n:Nat) (w:World),0<n→n≤35184372088832 →
 Calls P g #[.slice none 0 0,.int .i64 n] w fun e w'=>∃ cap cur,e=.returned (.slice (some ⟨w.heap.size,0,none⟩) 0 cap)∧cap≤maxLen∧cur.size=cap∧w'=w.drew.alloc (.cells cur ty)
theorem handG_snd {P:Program} {g ty:Nat} {h0:Call'} (hg:callable P g=true) (hG:GrowsNil P g ty) (hh:CallSnd P h0):CallSnd P (handG g ty h0):=by
 intro f args mem nx res mem' nx' h
 unfold handG at h
 split at h
 case h_2=>exact hh _ _ _ _ _ _ _ h
 rename_i hf
 have:=Nat.eq_of_beq_eq_true hf
 subst this
 split at h
 case h_2=>cases h
 rename_i z
 split at h
 case h_2=>cases h
 rename_i hz
 simp only [Bool.and_eq_true,decide_eq_true_eq] at hz
 simp only [Option.some.injEq,Prod.mk.injEq] at h
 obtain ⟨rfl,rfl,rfl⟩:=h
 obtain ⟨n,rfl⟩:∃ n:Nat,z=(n:Int):=⟨z.toNat,by omega⟩
 refine ⟨⟨by omega,fun b k' hb=>?_,fun b k hb hr=>?_⟩,fun K w0 ρ w vs hms hfree hl hrep=>.inl ⟨hg,?_⟩⟩
 ·rcases put_new (nx:=nx) (mem:=mem) b k' hb with ⟨rfl,_⟩ | ⟨_,h⟩
  ·exact .inr ⟨Nat.le_refl _,by omega⟩
  exact .inl ⟨k',h⟩
 ·rcases put_new (nx:=nx) (mem:=mem) b k hb with ⟨_,rfl⟩ | ⟨_,h⟩
  ·cases hr
  exact h
 have hvs:vs = #[.slice none 0 0,.int .i64 n]:=by
  have h0:=hrep 0 _ rfl
  have h1:=hrep 1 _ rfl
  have hsz:vs.size=2:=hl
  have e0:vs.getD 0 undef=.slice none 0 0:=by
   generalize vs.getD 0 undef=x at h0
   cases h0 with
   | c _ _ h0=>cases h0 with
    | v _ _=>rfl
  have e1:vs.getD 1 undef=.int .i64 n:=by
   generalize vs.getD 1 undef=x at h1
   cases h1 with
   | c _ _ h1=>cases h1 with
    | v _ _=>rfl
  apply Array.ext
  ·simpa using hsz
  intro i hi1 hi2
  have hi:i=0∨i=1:=by simp at hi2;omega
  rcases hi with rfl | rfl
  ·simp [Array.getD,hsz] at e0;simpa using e0
  simp [Array.getD,hsz] at e1;simpa using e1
 subst hvs
 refine (hG n w (by omega) (by omega)).mono fun e w' hq=>?_
 obtain ⟨cap,cur,rfl,hcap,hcur,rfl⟩:=hq
 have hn:ρ nx=none:=hfree nx (Nat.le_refl _) (by omega)
 have hgr:=grown_upd hn ⟨w.heap.size,0,cur.size⟩
 refine ⟨_,_,rfl,hgr,hms.new hn (w':=w.drew.alloc (.cells cur ty)) (.cells ty []) ⟨w.heap.size,0,cur.size⟩ (.cells ty [] cur (heap_alloc_new w.drew _) rfl (by simp) fun i c hc=>by simp at hc) ⟨Nat.le_refl _,by simp⟩ rfl rfl rfl (by simp) (fun b hb=>heap_alloc_old w.drew _ hb) put_new,?_⟩
 refine .c _ _ (CRep.sl (ρ:=upd ρ nx ⟨w.heap.size,0,cur.size⟩) nx 0 0 1 cap ⟨w.heap.size,0,cur.size⟩ (upd_same _ _ _) (by show 0+0+cap * 1≤cur.size;omega) (Nat.zero_le _) hcap)
theorem grow_fc {T:Tr FE} {g ty k0 k n:Nat} {h0:Call'} (hT:T.get g=none) (hk:1≤k) {z:Mem} (h1:0<n) (h2:n≤35184372088832) (h00:Nat.blt g 1000000=true:=by rfl):FCt (evF T (handG g ty h0) k0 k) g [nilv,.c (.v (.int .i64 (n:Nat)))] z [] fun v _ H'=>H'=[rowE eW v ty []]:=fun mem nx hh=>by
  obtain ⟨j,rfl⟩:∃ j,k=j+1:=⟨k - 1,by omega⟩
  have r0:Rf ⟨mem,nx,z,[]⟩ ⟨fun _=>.any,z,[]⟩ ⟨.nil,mem,nx⟩:=⟨fun i=>by simp [AS.get,Tr.get_nil],hh,Nat.le_refl _,fun b _ _=>rfl,fun b hb=>by simp [fps] at hb,⟨fun _ _ h=>h⟩,fun b k hb=>.inl hb⟩
  have r1 := r0.new (a := .row (.c (.sl nx 0 0 1)) ty 1 0 []) (m' := Tr.put (nx + 1) mem nx (some (.cells ty []))) ⟨rfl, .inr ⟨nx, rfl, by rw [Tr.get_put _ _ _ _ _ (by omega), if_pos rfl]⟩⟩ rfl (fun b hb => by
    by_cases hlt:b<nx+1
    · rw [Tr.get_put _ _ _ _ _ (by omega),if_neg (fun e=>hb e.symm)]
    · rw [Tr.get_put _ _ _ _ _ (by omega),if_neg (fun e=>hb e.symm)])
  refine ⟨.c (.sl nx 0 0 1),_,nx+1,z,_,?_,by omega,fun b hb _=>r1.old b hb (by simp),r1.hold,zle.refl _,fun b k hb=>.inl hb,fun b hb=>(r1.own b hb).imp (fun h=>h) (fun h=>by simp at h),rfl⟩
  rw [evF_hand hT h00]
  unfold handG
  rw [Nat.beq_refl]
  simp only
  rw [show (decide (0<(n:Int)) && decide ((n:Int)≤35184372088832))=true by simp;omega]
def RLs:RT (List UInt32):=fun z cs l=>∃ c,cs=[c]∧CZ 1 RW z c l
instance:RMono RLs:=⟨fun hz ⟨c,h,g⟩=>⟨c,h,g.mono hz⟩⟩
def sumL (ls:List (List UInt32)):Nat:=(ls.map List.length).sum
theorem sumL_succ {ls:List (List UInt32)} {i:Nat} (h:i<ls.length):sumL (ls.take (i+1))=sumL (ls.take i)+ls[i].length:=by
 unfold sumL
 rw [List.take_add_one,List.getElem?_eq_getElem h]
 simp only [Option.toList,List.map_append,List.map_cons,List.map_nil,List.sum_append,List.sum_cons,List.sum_nil,Nat.add_zero]
theorem sumL_le {ls:List (List UInt32)} (i:Nat):sumL (ls.take i)≤sumL ls:=by
 conv=>rhs;rw [← List.take_append_drop i ls]
 unfold sumL
 rw [List.map_append,List.sum_append]
 omega
theorem flat_len (ls:List (List UInt32)):ls.flatten.length=sumL ls:=by rw [List.length_flatten];rfl
theorem flat_succ {ls:List (List UInt32)} {i:Nat} (h:i<ls.length):(ls.take (i+1)).flatten=(ls.take i).flatten++ls[i]:=by
 rw [List.take_add_one,List.getElem?_eq_getElem h]
 simp only [Option.toList,List.flatten_append,List.flatten_cons,List.flatten_nil,List.append_nil]
theorem fl_appE {call:Call'} {B:Base} {fs:Sf} {l:List I} {Q:Sf→Prop} {d:Nat} {α:Type} {e:α→Value} {ty bytes:Nat} {zero:List Value} {x y:Od} {u v:AV} {r s:List α} {H':AV→List HA} (hx:fs.ev x=u) (hy:fs.ev y=v) (hs:SZ 1 (RE e) fs.z v s) (hr:∀ u',Rep1 fs.H (rowE e u ty r) (rowE e u' ty (r++s)) (H' u'))
  (hb:(r.length+s.length) * bytes≤140737488355328) (hn:r.length+s.length≤9223372036854775807) (hw:∀ c:C,sameC c c=true→FL call B l (fs.res d (.c c) fs.z (H' (.c c))) Q):FL call B (⟨some d,none,.app ty 1 bytes zero x y⟩::l) fs Q:=fun st rf=>by
 obtain ⟨news,h1,h2⟩:=hs.src (st:=st) fun b k hb=>(rf.hold.z b k hb).1
 have:=cl_cE h2
 subst this
 refine ap_app (cs:=cE e r) rf hx hy h1 (H':=H') (fun u'=>?_) h2.1 hb hn hw
 have h:=hr u'
 have e1:rowE e u' ty (r++s)=.row u' ty 1 (r.length+s.length) (cE e r++cE e s):=by rw [cE_app];simp [rowE]
 rw [e1] at h
 exact h
theorem fg_frz {call:Call'} {B:Base} {an:List Nat} {j:Nat} {l:List CE.D} {fs:Sf} {T:Mem} {tag last:Nat} {pj lj:List Nat} {Q:Sf→Prop} {a:HA} {p q:List HA} {b:Nat} {k:Blk} (e:fs.H=p++a::q) (hfp:a.fp=[b]) (ha:∀ m,a.ok m→m.get b=some k)
  (hw:∀ z',zle fs.z z'→z' b k→FG call B an j l (fs.frz z' (p++q)) T tag last pj lj Q):FG call B an j l fs T tag last pj lj Q:=fun x r=>by
 have h:=r.rf.frz e hfp ha
 exact hw _ ⟨fun _ _ h=>.inl h⟩ (.inr ⟨rfl,rfl⟩) x ⟨h,r.hd,r.t0,r.tlt,r.np,r.fl,r.last,r.pj,r.plt⟩
section
variable {call:Call'} {B:Base} {fs:Sf} {l:List I} {Q:Sf→Prop} {d:Nat}
theorem lC {x:Od} {c:C} (hx:fs.ev x=.c c) (hw:FL call B l (fs.put d (.c c)) Q):FL call B (⟨some d,none,.mv x⟩::l) fs Q:=lM hx hw
theorem lZ (z0:Mem) {f:Nat} {args:List Od} {vs:List AV} {Post:AV→Mem→Prop} (hc:FC call f vs z0 Post) (ha:args.map fs.ev=vs) (hz0:fs.z=z0)
  (hw:∀ v z',zle z0 z'→Post v z'→FL call B l (fs.res d v z' fs.H) Q):FL call B (⟨some d,none,.call f args⟩::l) fs Q:=by
 subst hz0
 exact fl_call ha hc hw
theorem fl_callLZ (z0:Mem) (Hs:List HA) {Hr:List HA} {f:Nat} {args:List Od} {vs:List AV} {Post:AV→Mem→List HA→Prop} (hc:FCt call f vs z0 Hs Post) (ha:args.map fs.ev=vs) (hz0:fs.z=z0) (e:fs.H=Hs++Hr)
  (hw:∀ v z' H',zle z0 z'→Post v z' H'→FL call B l (fs.res d v z' (H'++Hr)) Q):FL call B (⟨some d,none,.call f args⟩::l) fs Q:=by
 subst hz0
 exact fl_callL ha e hc hw
theorem fl_frzRZ {α:Type} {e:α→Value} [RMono (RE e)] {u:AV} {ty:Nat} {r:List α} {p q:List HA} (z0 z1:Mem) (h:fs.H=p++rowE e u ty r::q) (h1:fs.z=z1) (hz0:zle z0 z1) (hm:r.length≤9223372036854775807) (hw:∀ z',zle z1 z'→SZ 1 (RE e) (zd z0 z') u r→FL call B l (fs.frz z' (p++q)) Q):FL call B l fs Q:=by
 subst h1
 exact fl_frzR z0 h hz0 hm hw
theorem fl_frzBZ {α:Type} {e:α→Value} [RMono (RE e)] {b ty n:Nat} {r:List α} {p q:List HA} (z0 z1:Mem) (h:fs.H=p++blkE e b ty r::q) (h1:fs.z=z1) (hz0:zle z0 z1) (hn:r.length=n) (hm:n≤9223372036854775807) (hw:∀ z',zle z1 z'→SZ 1 (RE e) (zd z0 z') (.c (.sl b 0 n 1)) r→FL call B l (fs.frz z' (p++q)) Q):FL call B l fs Q:=by
 subst h1
 exact fl_frzB z0 h hz0 hn hm hw
theorem fl_frzZ {a:HA} {p q:List HA} {b:Nat} {k:Blk} (z1:Mem) (e:fs.H=p++a::q) (h1:fs.z=z1) (hfp:a.fp=[b]) (ha:∀ m,a.ok m→m.get b=some k) (hw:∀ z',zle z1 z'→z' b k→FL call B l (fs.frz z' (p++q)) Q):FL call B l fs Q:=by
 subst h1
 exact fl_frz e hfp ha hw
end
theorem gZ {call:Call'} {B:Base} {an:List Nat} {j:Nat} {l:List CE.D} {fs:Sf} {T:Mem} {tag last:Nat} {pj lj:List Nat} {Q:Sf→Prop} (z0:Mem) {i:I} {d f:Nat} {args:List Od} {vs:List AV} {af:List Nat} {Post:AV→Mem→Prop} (hc:FC call f vs z0 Post) (hi:i.o=.call f args) (hd:i.d=some d) (hg:GK fs i) (hbits:Nat.beq (an.getD j 0 ||| last) (an.getD j 0)=true) (hpj:(pj.all fun q=>(an.getD j 0).testBit q)=true)
  (ha:args.map fs.ev=vs) (hz0:fs.z=z0) (hw:∀ v z',zle z0 z'→Post v z'→FG call B an (j+1) l (fs.res d v z' fs.H) T (j+1) (an.getD j 0 ||| (1 <<< j)) [] lj Q):FG call B an j (⟨i,af⟩::l) fs T tag last pj lj Q:=by
 subst hz0
 exact fg_call hi hd hg hbits hpj ha hc hw
theorem fg_frzZ {call:Call'} {B:Base} {an:List Nat} {j:Nat} {l:List CE.D} {fs:Sf} {T:Mem} {tag last:Nat} {pj lj:List Nat} {Q:Sf→Prop} {a:HA} {p q:List HA} {b:Nat} {k:Blk} (z1:Mem) (e:fs.H=p++a::q) (h1:fs.z=z1) (hfp:a.fp=[b]) (ha:∀ m,a.ok m→m.get b=some k)
  (hw:∀ z',zle z1 z'→z' b k→FG call B an j l (fs.frz z' (p++q)) T tag last pj lj Q):FG call B an j l fs T tag last pj lj Q:=by
 subst h1
 exact fg_frz e hfp ha hw
theorem bQ_shl32 {a n:Nat} {kb:IntKind} (h:a * 4294967296=n) (h2:n<18446744073709551616):binW .shl (.int .u64 a) (.int kb 32)=some (.int .u64 n):=by
 have:=b_shl (k:=.u64) (kb:=kb) (a:=a) (s:=32) (n:=n) (by decide) (by rw [show a * 2 ^ 32=n from h];exact wQ rfl h2)
 exact this
theorem fg_callOZ {call:Call'} {B:Base} {an:List Nat} {j:Nat} {l:List CE.D} {fs:Sf} {T:Mem} {tag last:Nat} {pj lj:List Nat} {Q:Sf→Prop} (z0:Mem) {i:I} {d f:Nat} {args:List Od} {vs:List AV} {af:List Nat} {Post:AV→Mem→List HA→Prop} (hc:FCt call f vs z0 [] Post) (hi:i.o=.call f args) (hd:i.d=some d) (hg:GK fs i) (hbits:Nat.beq (an.getD j 0 ||| last) (an.getD j 0)=true) (hpj:(pj.all fun q=>(an.getD j 0).testBit q)=true)
  (ha:args.map fs.ev=vs) (hz0:fs.z=z0) (hw:∀ v z' H',zle z0 z'→Post v z' H'→FG call B an (j+1) l (fs.res d v z' (H'++fs.H)) T (j+1) (an.getD j 0 ||| (1 <<< j)) [] lj Q):FG call B an j (⟨i,af⟩::l) fs T tag last pj lj Q:=by
 subst hz0
 exact fd_callO (D:=⟨fs,T,tag,last,pj,lj⟩) hi hd hg hbits hpj ha hc hw
theorem fg_callPZ {call:Call'} {B:Base} {an:List Nat} {j:Nat} {l:List CE.D} {fs:Sf} {T:Mem} {tag last:Nat} {pj lj:List Nat} {Q:Sf→Prop} (z0:Mem) {i:I} {d f:Nat} {args:List Od} {vs:List AV} {af:List Nat} {Post:AV→Mem→Prop} (hc:FC call f vs z0 Post) (hi:i.o=.call f args) (hd:i.d=some d) (hg:GK fs i) (hbits:Nat.beq (an.getD j 0 ||| last) (an.getD j 0)=true) (hpj:(pj.all fun q=>!(an.getD j 0).testBit q)=true)
  (ha:args.map fs.ev=vs) (hz0:fs.z=z0) (hzT:∀ b k,z0 b k→T b k) (hw:∀ v z',zle z0 z'→Post v z'→FG call B an (j+1) l (fs.res d v z' fs.H) T (j+1) (an.getD j 0 ||| (1 <<< j)) pj lj Q):FG call B an j (⟨i,af⟩::l) fs T tag last pj lj Q:=by
 subst hz0
 exact fd_callP (D:=⟨fs,T,tag,last,pj,lj⟩) hi hd hg hbits hpj hzT ha hc hw
theorem fl_ldA1 {call:Call'} {B:Base} {fs:Sf} {l:List I} {Q:Sf→Prop} {d:Nat} {x:Od} {b p:Nat} {c:C} (hx:fs.ev x=.c (.ptr b p)) (ha:At fs.z b p [c]) (hw:FL call B l (fs.put d (.c c)) Q):FL call B (⟨some d,none,.load false 1 x⟩::l) fs Q:=fl_ldA (off:=0) hx ha rfl (by simp) rfl hw
theorem bD_shl1 {s n:Nat} {kb:IntKind} (hs:s≤31) (h:2 ^ s=n):binW .shl (.int .u32 1) (.int kb s)=some (.int .u32 n):=by
 have h2:2 ^ s<4294967296:=Nat.lt_of_le_of_lt (Nat.pow_le_pow_right (by decide) hs) (by decide)
 exact b_shl (k:=.u32) (a:=1) (by show s≤32;omega) (by rw [Nat.one_mul,h];exact wD rfl (by omega))
theorem fl_sub {call:Call'} {B:Base} {fs:Sf} {l:List I} {Q:Sf→Prop} {H':List HA} (hs:H'.Sublist fs.H) (hw:FL call B l (fs.heap H') Q):FL call B l fs Q:=fun st rf =>
 hw st ⟨rf.env,rf.hold.sub hs,rf.le,rf.old,fun b hb=>rf.own b ((fps_sub hs).subset hb),rf.zle,rf.zin⟩
theorem fl_bsl1 {call:Call'} {B:Base} {fs:Sf} {l:List I} {Q:Sf→Prop} {d ty n:Nat} {zero:List Value} {y:Od} (hy:fs.ev y=.c (.v (.int .u32 (n:Nat)))) (hn:n<4294967296) (hz:(repl 1 (zero.map fun v=>C.v v)).length=1) (hw:∀ b,FL call B l (fs.own d (.c (.sl b 0 1 1)) (blkE eW b ty [UInt32.ofNat n])) Q):FL call B (⟨some d,none,.bslice ty 1 1 zero [(0,y)]⟩::l) fs Q:=by
 refine fl_bslice (cs:=cE eW [UInt32.ofNat n]) ?_ hw
 obtain ⟨c,hc⟩:=List.length_eq_one_iff.1 hz
 rw [hc]
 have e:cE eW [UInt32.ofNat n]=[.v (.int .u32 (n:Nat))]:=by simp only [cE,List.map,eW,Go.Num.ofNat_toNat hn]
 rw [e]
 simp only [fillSE,hy,AV.cells?]
 rfl
def bndZ (fs:Sf) (o:Option Od) (dflt i:Nat):Prop:=match o with
 | none=>i=dflt
 | some x=>∃ k z,fs.ev x=.c (.v (.int k z))∧z=(i:Int)
theorem bndZ.e {fs:Sf} {o:Option Od} {dflt i:Nat} (h:bndZ fs o dflt i):bndE fs o dflt i:=by
 cases o with
 | none=>exact h
 | some x =>
  obtain ⟨k,z,h1,rfl⟩:=h
  exact ⟨k,h1⟩
theorem fl_slcOZ {call:Call'} {B:Base} {fs:Sf} {l:List I} {Q:Sf→Prop} {d:Nat} {size b o n:Nat} {x:Od} {lo hi:Option Od} {i j:Nat} (oo nn:Nat) (hx:fs.ev x=.c (.sl b o n size)) (hlo:bndZ fs lo 0 i) (hhi:bndZ fs hi n j) (hij:i≤j) (hj:j≤n) (hin:i<n) (h1:o+i * size=oo) (h2:j - i=nn)
  (hw:FL call B l (fs.put d (.c (.sl b oo nn size))) Q):FL call B (⟨some d,none,.slc size x lo hi⟩::l) fs Q:=by
 subst h1 h2
 exact fl_slcO hx hlo.e hhi.e hij hj hin hw
theorem FCt.told {call:Call'} {f:Nat} {args:List AV} {z:Mem} {α:Type} {e:α→Value} [RMono (RE e)] {ty:Nat} {l:List α} {P:AV→AV→Prop} (h:FCt call f args z [] fun v _ H'=>∃ u,P v u∧H'=[rowE e u ty l]) (hm:l.length≤9223372036854775807):FC call f args z fun v z'=>∃ u,P v u∧SZ 1 (RE e) (zd z z') u l:=fun mem nx hh=>by
  obtain ⟨w,mem',nx',z',H',h1,h2,h3,h4,h5,h6,h7,u,hP,e1⟩:=h mem nx hh
  subst e1
  obtain ⟨g1,g2⟩:=h4.h _ (List.mem_singleton.2 rfl)
  rcases g2 with ⟨h0,rfl⟩ | ⟨b,rfl,h8⟩
  · have e : l = [] := List.eq_nil_of_length_eq_zero (by omega)
    subst e
    exact ⟨_,mem',nx',z',[],h1,h2,h3,h4.sub (List.nil_sublist _),h5,h6,fun b hb=>by simp [fps] at hb,rfl,_,hP,.nil⟩
  · have hfb : b ∈ fps [HA.row (.c (.sl b 0 l.length 1)) ty 1 l.length (cE e l)] := by simp [fps, HA.fp]
    refine ⟨_,mem',nx',fun x y=>z' x y∨(x=b∧y=.cells ty (cE e l)),[],h1,h2,h3,⟨fun x k hx=>?_,fun a ha=>by simp at ha,fun x hx=>by simp [fps] at hx,by simp [fps]⟩,⟨fun _ _ hx=>.inl (h5 _ _ hx)⟩,fun x k hx=>?_,fun x hx=>by simp [fps] at hx,rfl,_,hP,?_⟩
    · rcases hx with hx | ⟨rfl,rfl⟩
      · obtain ⟨k1, k2, _⟩ := h4.z x k hx
        exact ⟨k1,k2,by simp [fps]⟩
      · exact ⟨h8,h4.lt _ hfb,by simp [fps]⟩
    · rcases hx with hx | ⟨rfl,rfl⟩
      · exact h6 x k hx
      · rcases h7 _ hfb with k | k
        · exact .inr (.inl k)
        · simp [fps] at k
    · refine CL.sz (ty:=ty) (cs:=cE e l) cE_cl rfl hm ⟨.inr ⟨rfl,rfl⟩,fun k' hb=>(h4.z b k' (h5 _ _ hb)).2.2 hfb,rfl⟩
def LZ (z0 zz:Mem) (H:List HA) (ls:List (Nat×AV)) (fs:Sf):Prop:=∃ e Hx,fs=⟨e,zz,Hx++H⟩∧zle z0 zz∧AtL e ls
theorem LZ.mk {z0 zz:Mem} {H:List HA} {ls:List (Nat×AV)} {e:Env} (Hx:List HA) (hz:zle z0 zz) (ha:AtL e ls):LZ z0 zz H ls ⟨e,zz,Hx++H⟩:=⟨e,Hx,rfl,hz,ha⟩
theorem LZ.open {call:Call'} {k:Nat} {B:Base} {c:XC} {Q:Exit→Sf→Prop} {z0 zz:Mem} {H:List HA} {ls:List (Nat×AV)} {fs:Sf} (h:LZ z0 zz H ls fs) (hw:∀ e,zle z0 zz→FX call k B c ⟨eputs e ls,zz,H⟩ Q):FX call k B c fs Q:=by
 obtain ⟨e,Hx,rfl,hz,ha⟩:=h
 exact fx_at ha fun e=>fx_sub (List.sublist_append_right _ _) (hw e hz)
theorem fl_bsl2 {call:Call'} {B:Base} {fs:Sf} {l:List I} {Q:Sf→Prop} {d ty n m:Nat} {zero:List Value} {y y':Od} (hy:fs.ev y=.c (.v (.int .u32 (n:Nat)))) (hy':fs.ev y'=.c (.v (.int .u32 (m:Nat)))) (hn:n<4294967296) (hm:m<4294967296) (hz:(repl 2 (zero.map fun v=>C.v v)).length=2) (hw:∀ b,FL call B l (fs.own d (.c (.sl b 0 2 1)) (blkE eW b ty [UInt32.ofNat n,UInt32.ofNat m])) Q):FL call B (⟨some d,none,.bslice ty 1 2 zero [(0,y),(1,y')]⟩::l) fs Q:=by
 refine fl_bslice (cs:=cE eW [UInt32.ofNat n,UInt32.ofNat m]) ?_ hw
 obtain ⟨c,c',hc⟩:∃ c c',repl 2 (zero.map fun v=>C.v v)=[c,c']:=by
  match h:repl 2 (zero.map fun v=>C.v v),hz with
  | [c,c'],_=>exact ⟨c,c',rfl⟩
 rw [hc]
 have e:cE eW [UInt32.ofNat n,UInt32.ofNat m]=[.v (.int .u32 (n:Nat)),.v (.int .u32 (m:Nat))]:=by simp only [cE,List.map,eW,Go.Num.ofNat_toNat hn,Go.Num.ofNat_toNat hm]
 rw [e]
 simp only [fillSE,hy,hy',AV.cells?]
 rfl
theorem rlsC {z:Mem} {b ty:Nat} {c d:C} {l m:List UInt32} (h0:CZ 1 RW z c l) (h1:CZ 1 RW z d m) (h2:z b (.cells ty [c,d])):SZ 1 RLs z (.c (.sl b 0 2 1)) [l,m]:=by
 refine CL.sz (cs:=[c,d]) ?_ rfl (by simp) h2
 exact CL.append (cs:=[c]) (l:=[l]) (cs':=[d]) (l':=[m]) (CL.one rfl ⟨_,rfl,h0⟩) (CL.one rfl ⟨_,rfl,h1⟩)
def IV (z:Mem) (v:AV) (a:Int):Prop:=∃ c,v=.agg [.v (.bool (decide (a<0))),c]∧CZ 1 RW z c (Go.Num.toL a.natAbs)
def QV (z:Mem) (v:AV) (q:Rat):Prop:=∃ c d,v=.agg [.v (.bool (decide (q.num<0))),c,.v (.bool (decide ((q.den:Int)<0))),d]∧CZ 1 RW z c (Go.Num.toL q.num.natAbs)∧CZ 1 RW z d (Go.Num.toL q.den)
end Go.CE
