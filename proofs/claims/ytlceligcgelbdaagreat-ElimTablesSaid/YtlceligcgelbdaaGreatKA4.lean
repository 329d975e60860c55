/- States as functions; rows of calls. -/
import Derived.WalkKit
import Derived.Orders
import Derived.Test.YtlceligcgelbdaaGreatKA3
import Derived.Test.YtlceligcgelbdaaGreatKB1
set_option linter.unusedVariables false
set_option linter.unusedSimpArgs false
namespace Go.CE
open Go.RowKit
open Go.Eng (Od need need_pos iE kN binV binBV)
def Wp (r:Option AS) (Q:AS→Prop):Prop:=match r with
 | some st=>Q st
 | none=>False
section
variable {call:eE} {st:AS} {d:Nat}
theorem bTS {i:I} {l:List I} {st':AS} {Q:AS→Prop} (h:evI call i st=some st'):Wp (Jb call (i::l) st) Q=Wp (Jb call l st') Q:=by simp only [Jb,h]
theorem bKa {o:lS} {v:AV} {mem:Tr mU} {nx:Nat} (h:Zg call o st=some (v,mem,nx)):evI call ⟨some d,none,o⟩ st=some ((⟨st.env,mem,nx⟩:AS).put d v):=by simp only [evI,gOk,h];rfl
theorem bPP {o:lS} {v:AV} {mem:Tr mU} {nx:Nat} (h:Zg call o st=some (v,mem,nx)):evI call ⟨none,none,o⟩ st=some (⟨st.env,mem,nx⟩:AS):=by simp only [evI,gOk,h];rfl
theorem i_q {o:lS} {v:AV} (hc:callee st o=none) (h:bQ o st=some v):evI call ⟨some d,none,o⟩ st=some (st.put d v):=bKa (by simp only [Zg,hc,h])
theorem bVS {dd:Option Nat} {s:Nat} {want:Bool} {o:lS} (h:st.get s=.c (.v (.bool want))):evI call ⟨dd,some (s,want),o⟩ st=evI call ⟨dd,none,o⟩ st:=by
 simp only [evI,gOk,gd,h]
 cases want<;>rfl
theorem bU1 {s:Nat} {want:Bool} {o:lS} (h:st.get s=.c (.v (.bool (!want)))):evI call ⟨some d,some (s,want),o⟩ st=some (st.put d (.tup [])):=by
 simp only [evI,gOk,gd,h]
 cases want<;>rfl
theorem bU3 {s:Nat} {want:Bool} {o:lS} (h:st.get s=.tup []):evI call ⟨some d,some (s,want),o⟩ st=some (st.put d (.tup [])):=by
 simp only [evI,gOk,gd,h];rfl
theorem bWa {x:Od}:evI call ⟨some d,none,.mv x⟩ st=some (st.put d (st.ev x)):=i_q rfl rfl
theorem bRR {op:BinOp} {x y:Od} {u v r:Value} (hx:st.ev x=.c (.v u)) (hy:st.ev y=.c (.v v)) (h:pS op u v=some r):evI call ⟨some d,none,.bin op x y⟩ st=some (st.put d (.c (.v r))):=i_q rfl (by simp only [bQ,hx,hy,AV.val?,h];rfl)
theorem bU6 {op:UnOp} {x:Od} {u r:Value} (hx:st.ev x=.c (.v u)) (h:unW op u=some r):evI call ⟨some d,none,.un op x⟩ st=some (st.put d (.c (.v r))):=i_q rfl (by simp only [bQ,hx,AV.val?,h];rfl)
theorem bSX {size:Nat} {x i:Od} {b o n:Nat} {kd:IntKind} {j:Nat} (hx:st.ev x=.c (.sl b o n size)) (hi:st.ev i=.c (.v (.int kd (j:Nat)))) (h:j<n):evI call ⟨some d,none,.iad size x i⟩ st=some (st.put d (.c (.ptr b (o+j * size)))):=
 i_q rfl (by simp only [bQ,hx,hi,AV.int?];rw [need_pos ⟨trivial,by simp,by simp;omega⟩];simp)
theorem bHV {size:Nat} {x:Od} {b o ty:Nat} {agg:Bool} {cs:List C} (hx:st.ev x=.c (.ptr b o)) (hm:st.mem.get b=some (.cells ty cs)) (h:o+size≤cs.length):evI call ⟨some d,none,.load agg size x⟩ st=some (st.put d (I0 agg ((cs.drop o).take size))):=
 i_q rfl (by simp only [bQ,hx,AS.read,AS.blk,hm];rw [need_pos h])
theorem bKj {x:Od} {b o ty:Nat} {cs:List C} {c:C} (hx:st.ev x=.c (.ptr b o)) (hm:st.mem.get b=some (.cells ty cs)) (h:cs[o]? = some c):evI call ⟨some d,none,.load false 1 x⟩ st=some (st.put d (.c c)):=by
 have hl:o<cs.length:=(List.getElem?_eq_some_iff.1 h).1
 rw [bHV hx hm (by omega)]
 have:(cs.drop o).take 1=[c]:=by
  rw [List.drop_eq_getElem_cons hl]
  have:=(List.getElem?_eq_some_iff.1 h).2
  simp [this]
 rw [this]
 rfl
variable {l:List I} {Q:AS→Prop}
theorem bSa (h:Q st):Wp (Jb call [] st) Q:=h
theorem O0 {i:I} {st':AS} (h:evI call i st=some st') (hw:Wp (Jb call l st') Q):Wp (Jb call (i::l) st) Q:=by rw [bTS h];exact hw
theorem bV4 {x:Od} {v:AV} (hx:st.ev x=v) (hw:Wp (Jb call l (st.put d v)) Q):Wp (Jb call (⟨some d,none,.mv x⟩::l) st) Q:=O0 bWa (by rw [hx];exact hw)
theorem bSj {op:BinOp} {x y:Od} {u v r:Value} (hx:st.ev x=.c (.v u)) (hy:st.ev y=.c (.v v)) (h:pS op u v=some r) (hw:Wp (Jb call l (st.put d (.c (.v r)))) Q):Wp (Jb call (⟨some d,none,.bin op x y⟩::l) st) Q:=O0 (bRR hx hy h) hw
theorem bVt {op:UnOp} {x:Od} {u r:Value} (hx:st.ev x=.c (.v u)) (h:unW op u=some r) (hw:Wp (Jb call l (st.put d (.c (.v r)))) Q):Wp (Jb call (⟨some d,none,.un op x⟩::l) st) Q:=O0 (bU6 hx h) hw
theorem bS7 {size:Nat} {x i:Od} {b o n:Nat} {kd:IntKind} {j:Nat} (hx:st.ev x=.c (.sl b o n size)) (hi:st.ev i=.c (.v (.int kd (j:Nat)))) (h:j<n) (hw:Wp (Jb call l (st.put d (.c (.ptr b (o+j * size))))) Q):Wp (Jb call (⟨some d,none,.iad size x i⟩::l) st) Q:=O0 (bSX hx hi h) hw
theorem aWo {x:Od} {b o ty:Nat} {cs:List C} {c:C} (hx:st.ev x=.c (.ptr b o)) (hm:st.mem.get b=some (.cells ty cs)) (h:cs[o]? = some c) (hw:Wp (Jb call l (st.put d (.c c))) Q):Wp (Jb call (⟨some d,none,.load false 1 x⟩::l) st) Q:=O0 (bKj hx hm h) hw
theorem bVk {dd:Option Nat} {s:Nat} {want:Bool} {o:lS} (h:st.get s=.c (.v (.bool want))) (hw:Wp (Jb call (⟨dd,none,o⟩::l) st) Q):Wp (Jb call (⟨dd,some (s,want),o⟩::l) st) Q:=by
 simp only [Jb,bVS h]
 exact hw
theorem bV5 {s:Nat} {want:Bool} {o:lS} (h:st.get s=.c (.v (.bool (!want)))) (hw:Wp (Jb call l (st.put d (.tup []))) Q):Wp (Jb call (⟨some d,some (s,want),o⟩::l) st) Q:=O0 (bU1 h) hw
theorem bU4 {s:Nat} {want:Bool} {o:lS} (h:st.get s=.tup []) (hw:Wp (Jb call l (st.put d (.tup []))) Q):Wp (Jb call (⟨some d,some (s,want),o⟩::l) st) Q:=O0 (bU3 h) hw
theorem bT5 (k:IntKind) (a b:Int):pS .gtr (.int k a) (.int k b)=some (.bool (decide (b<a))):=by simp [pS,binV,need]
theorem bSn (k:IntKind) (a b:Int):pS .lss (.int k a) (.int k b)=some (.bool (decide (a<b))):=by simp [pS,binV,need]
theorem bSC (k:IntKind) (a b:Int):pS .geq (.int k a) (.int k b)=some (.bool (decide (b≤a))):=by simp [pS,binV,need]
theorem bSe (k:IntKind) (a b:Int):pS .leq (.int k a) (.int k b)=some (.bool (decide (a≤b))):=by simp [pS,binV,need]
theorem bSi (k:IntKind) (a b:Int):pS .eql (.int k a) (.int k b)=some (.bool (decide (a=b))):=by
 simp only [pS,binV,need,if_true]
 congr 2
theorem bLS (k:IntKind) (a b:Int):pS .neq (.int k a) (.int k b)=some (.bool (!decide (a=b))):=by
 simp only [pS,binV,need,if_true]
 congr 2
theorem bUh (k:IntKind) (a b:Int):pS .add (.int k a) (.int k b)=some (.int k (k.wrap (a+b))):=by simp [pS,binV,need]
theorem bTQ (k:IntKind) (a b:Int):pS .sub (.int k a) (.int k b)=some (.int k (k.wrap (a - b))):=by simp [pS,binV,need]
theorem bLH (k:IntKind) (a b:Int):pS .mul (.int k a) (.int k b)=some (.int k (k.wrap (a * b))):=by simp [pS,binV,need]
theorem bLI {m b q:Nat}:(Int.ofNat m * (b:Int)≤(q:Int))↔m * b≤q:=by
 rw [show Int.ofNat m * (b:Int)=((m * b:Nat):Int) from rfl]
 exact Int.ofNat_le
end
def Wx (r:Option (Exit×AS)) (Q:Exit→AS→Prop):Prop:=match r with
 | some (e,st)=>Q e st
 | none=>False
def onN (Qn:AS→Prop) (Q:Exit→AS→Prop):Exit→AS→Prop:=fun e st=>match e with
 | .normal=>Qn st
 | e=>Q e st
theorem Wx.mono {r:Option (Exit×AS)} {Q R:Exit→AS→Prop} (h:Wx r Q) (g:∀ e st,Q e st→R e st):Wx r R:=by
 cases r with
 | none=>exact h
 | some p=>exact g _ _ h
section
variable {call:eE} {k:Nat} {st:AS} {Q:Exit→AS→Prop}
theorem bEt {l:List I} (h:Wp (Jb call l st) (Q .normal)):Wx (vS call k (.region l) st) Q:=by
 simp only [vS]
 cases he:Jb call l st with
 | none=>rw [he] at h;exact h
 | some st'=>rw [he] at h;exact h
theorem bPF {a b:XC} (h:Wx (vS call k a st) (onN (fun st=>Wx (vS call k b st) Q) Q)):Wx (vS call k (.seq a b) st) Q:=by
 simp only [vS]
 cases he:vS call k a st with
 | none=>rw [he] at h;exact h
 | some p =>
  obtain ⟨e,st'⟩:=p
  rw [he] at h
  cases e<;>exact h
theorem bKz {c:Od} {a b:XC} {t:Bool} (hc:st.ev c=.c (.v (.bool t))) (h:Wx (vS call k (if t=true then a else b) st) Q):Wx (vS call k (.cond c a b) st) Q:=by
 simp only [vS,hc,AV.bool?]
 cases t<;>exact h
theorem bIB {id:Nat} {b:XC} (h:Wx (vS call k b st) (fun e=>Q (aSW id e))):Wx (vS call k (.block id b) st) Q:=by
 simp only [vS]
 cases he:vS call k b st with
 | none=>rw [he] at h;exact h
 | some p=>rw [he] at h;exact h
theorem bJk {b:XC} (h:Wx (N7 (vS call k b) k st) Q):Wx (vS call k (.loop b) st) Q:=h
theorem bK4 {body:AS→Option (Exit×AS)} {n:Nat} (h:Wx (body st) (onN (fun st=>Wx (N7 body n st) Q) Q)):Wx (N7 body (n+1) st) Q:=by
 simp only [N7]
 cases he:body st with
 | none=>rw [he] at h;exact h
 | some p =>
  obtain ⟨e,st'⟩:=p
  rw [he] at h
  cases e<;>exact h
end
open Go.RowKit
open Go.Eng (Od need need_pos iE kN binV binBV)
def Wd (r:Option O9) (Q:O9→Prop):Prop:=match r with
 | some a=>Q a
 | none=>False
def O9.see (a:O9) (d:D):AS:=⟨mS a.env d.sl,.nil,a.nx⟩
section
variable {call:eE} {an:List Nat} {j:Nat} {ds:List D} {a:O9} {Q:O9→Prop}
theorem bMF (h:Q a):Wd (aE5 call an j [] a) Q:=h
theorem aEI {d:D} {a':O9} (h:K5 call j d (an.getD j 0) a=some a') (hw:Wd (aE5 call an (j+1) ds a') Q):Wd (aE5 call an j (d::ds) a) Q:=by
 simp only [aE5,h]
 exact hw
theorem bAO {k:Nat} {an:List Nat} {st:AS} {R:Exit→AS→Prop} (h:Wd (aE5 call an 0 ds ⟨st.env,st.nx,[(0,st.mem)],[],[],0⟩) (fun a=>R .normal a.fin)):Wx (vS call k (.draw ds an) st) R:=by
 simp only [vS,evD]
 cases he:aE5 call an 0 ds ⟨st.env,st.nx,[(0,st.mem)],[],[],0⟩ with
 | none=>rw [he] at h;exact h
 | some a=>rw [he] at h;exact h
theorem aYu {env:Tr AV} {l:List Nat} {q:Nat} (hq:q∈l):(mS env l).get q=env.get q:=by
 cases he:env.get q with
 | none =>
  cases hr:(mS env l).get q with
  | none=>rfl
  | some v=>have:=(aTP hr).2;rw [he] at this;cases this
 | some v =>
  induction l with
  | nil=>cases hq
  | cons p l ih =>
   simp only [mS]
   cases hp:env.get p with
   | none =>
    rcases List.mem_cons.1 hq with rfl | h
    ·rw [he] at hp;cases hp
    exact ih h
   | some u =>
    simp only
    rw [Tr.get_put _ _ _ _ _ (by omega)]
    by_cases e:p=q
    ·subst e;rw [if_pos rfl,← hp,he]
    rw [if_neg e]
    rcases List.mem_cons.1 hq with h | h
    ·exact absurd h.symm e
    exact ih h
variable {d:Nat} {af:List Nat}
end
open Go.RowKit
open Go.Eng (Od need need_pos iE kN binV binBV)
section
variable {call:eE} {st:AS} {d:Nat} {l:List I} {Q:AS→Prop}
theorem Jw (k:mU) (i:Nat):(st.new k).mem.get i=if st.nx=i then some k else st.mem.get i:=by
 show (Tr.put (st.nx+1) st.mem st.nx (some k)).get i=_
 rw [Tr.get_put _ _ _ _ _ (by omega)]
theorem aCl (b:Nat) (k:mU) (i:Nat):(st.setB b k).mem.get i=if b=i then some k else st.mem.get i:=by
 show (Tr.put (b+1) st.mem b (some k)).get i=_
 rw [Tr.get_put _ _ _ _ _ (by omega)]
theorem Wm (b:Nat) (k:mU) (i:Nat):(st.moveB b k).mem.get i=if st.nx=i then some k else if b=i then none else st.mem.get i:=by
 show (Tr.put (st.nx+1) (Tr.put (b+1) st.mem b none) st.nx (some k)).get i=_
 rw [Tr.get_put _ _ _ _ _ (by omega),Tr.get_put _ _ _ _ _ (by omega)]
theorem i_e {o:lS} {v:AV} {st':AS} (hc:callee st o=none) (hq:bQ o st=none) (h:eP o st=some (st',v)):evI call ⟨some d,none,o⟩ st=some ((⟨st.env,st'.mem,st'.nx⟩:AS).put d v):=bKa (by simp only [Zg,hc,hq,h])
theorem bT8 {o:lS} {v:AV} {st':AS} (hc:callee st o=none) (hq:bQ o st=none) (h:eP o st=some (st',v)):evI call ⟨none,none,o⟩ st=some (⟨st.env,st'.mem,st'.nx⟩:AS):=bPP (v:=v) (by simp only [Zg,hc,hq,h])
theorem bIQ {size:Nat} {x y:Od} {b o ty:Nat} {cs ds:List C} {v:AV} (hx:st.ev x=.c (.ptr b o)) (hy:st.ev y=v) (hv:v.cells? = some ds) (hm:st.mem.get b=some (.cells ty cs)) (hs:ds.length=size) (h:o+size≤cs.length)
    (hw:Wp (Jb call l (st.setB b (.cells ty (kN cs o ds)))) Q):Wp (Jb call (⟨none,none,.store size x y⟩::l) st) Q:=
  O0 (bT8 (st' := st.setB b (.cells ty (kN cs o ds))) (v := .any) rfl rfl (by
    simp only [eP,hx,hy,hv,hm]
    rw [need_pos ⟨hs,h⟩])) hw
theorem bMo {f:Nat} {args:List Od} {vs:List AV} {v:AV} {mem:Tr mU} {nx:Nat} (ha:args.map st.ev=vs) (h:call f vs st.mem st.nx=some (v,mem,nx)) (hw:Wp (Jb call l ((⟨st.env,mem,nx⟩:AS).put d v)) Q):Wp (Jb call (⟨some d,none,.call f args⟩::l) st) Q:=
 O0 (bKa (by simp only [Zg,callee,ha,h])) hw
theorem bIe {ty size bytes m:Nat} {zero:List Value} {x y:Od} {news:List C} {v:AV} (hx:st.ev x=.c (.v (.slice none 0 0))) (hy:st.ev y=v) (hr:st.row size v=some (m+1,news)) (h:(m+1) * bytes≤140737488355328) (hn:m+1≤9223372036854775807)
    (hw:Wp (Jb call l ((st.new (.cells ty news)).put d (.c (.sl st.nx 0 (m+1) size)))) Q):Wp (Jb call (⟨some d,none,.app ty size bytes zero x y⟩::l) st) Q:=
  O0 (i_e (st' := st.new (.cells ty news)) rfl rfl (by
    simp only [eP,hy,hr,hx]
    rw [need_pos ⟨h,hn,by omega⟩])) hw
theorem bLs {ty size bytes m b o n:Nat} {zero:List Value} {x y:Od} {news cs:List C} {v:AV} (hx:st.ev x=.c (.sl b o n size)) (hy:st.ev y=v) (hr:st.row size v=some (m+1,news)) (hm:st.mem.get b=some (.cells ty cs)) (hl:o+n * size=cs.length)
    (h:(n+(m+1)) * bytes≤140737488355328) (hn:n+(m+1)≤9223372036854775807)
    (hw:Wp (Jb call l ((st.moveB b (.cells ty (cs.drop o++news))).put d (.c (.sl st.nx 0 (n+(m+1)) size)))) Q):Wp (Jb call (⟨some d,none,.app ty size bytes zero x y⟩::l) st) Q:=
  O0 (i_e (st' := st.moveB b (.cells ty (cs.drop o ++ news))) rfl rfl (by
    simp only [eP,hy,hr,hx,hm]
    rw [need_pos ⟨hl,trivial,trivial,h,hn⟩])) hw
theorem bPY {ty size bytes:Nat} {zero:List Value} {x y:Od} {v u:AV} {news:List C} (hx:st.ev x=u) (hu:(∃ b o n s,u=.c (.sl b o n s))∨u=.c (.v (.slice none 0 0))) (hy:st.ev y=v) (hr:st.row size v=some (0,news))
    (hw:Wp (Jb call l (st.put d u)) Q):Wp (Jb call (⟨some d,none,.app ty size bytes zero x y⟩::l) st) Q:=
  O0 (i_e (st' := st) rfl rfl (by
    rcases hu with ⟨b,o,n,s,rfl⟩ | rfl<;>simp only [eP,hy,hr,hx])) hw
theorem aZc {size b o n ty:Nat} {cs:List C} (hm:st.mem.get b=some (.cells ty cs)) (h:o+n * size≤cs.length):st.row size (.c (.sl b o n size))=some (n,(cs.drop o).take (n * size)):=by
 simp only [AS.row,AS.read,AS.blk,hm]
 rw [need_pos h]
 simp only []
 rw [need_pos trivial]
end
open Go.Eng (Od)
section
variable {call:eE} {st:AS} {d:Nat} {l:List I} {Q:AS→Prop}
theorem bSZ {off:Nat} {x:Od} {b o:Nat} (hx:st.ev x=.c (.ptr b o)) (hw:Wp (Jb call l (st.put d (.c (.ptr b (o+off))))) Q):Wp (Jb call (⟨some d,none,.fad off x⟩::l) st) Q:=
 O0 (i_q rfl (by simp only [bQ,hx])) hw
theorem bTX {k:IntKind} {x:Od} {k':IntKind} {n:Int} (hx:st.ev x=.c (.v (.int k' n))) (hw:Wp (Jb call l (st.put d (.c (.v (.int k (k.wrap n)))))) Q):Wp (Jb call (⟨some d,none,.cvi k x⟩::l) st) Q:=
 O0 (i_q rfl (by simp only [bQ,hx];rfl)) hw
end
open Go.RowKit
open Go.Eng (Od need need_pos iE kN binV binBV)
theorem bLf {z:Int} (h : -9223372036854775808≤z) (h':z<9223372036854775808):IntKind.i64.wrap z=z:=by
 simp [IntKind.wrap,IntKind.bits,IntKind.signed]
 omega
open Go.RowKit
open Go.Eng (Od need need_pos iE kN binV binBV)
section
variable {call:eE} {an:List Nat} {j:Nat} {a:O9}
theorem bIG {bits:Nat} {m:Tr mU}:∀ {l:List (Nat×lS×Tr AV×AV)},(∀ p,p∈l→bits.testBit p.1=true)→aXc bits m l=some []:=by
 intro l
 induction l with
 | nil=>intro _;rfl
 | cons p l ih =>
  intro h
  obtain ⟨q,o,re,v⟩:=p
  simp only [aXc,ih fun p hp=>h p (List.mem_cons_of_mem _ hp),h (q,o,re,v) (List.mem_cons_self ..)]
end
open Go.RowKit
open Go.Eng (Od need need_pos iE kN binV binBV)
abbrev Lq:=Nat→AV
def aBk (e:Lq) (d:Nat) (v:AV):Lq:=fun i=>cond (Nat.beq d i) v (e i)
def aSl (e:Lq):List (Nat×AV)→Lq
 | []=>e
 | p::l=>aBk (aSl e l) p.1 p.2
theorem aGy (e:Lq) (d i:Nat) (v:AV):aBk e d v i=if d=i then v else e i:=by
 unfold aBk
 by_cases h:d=i
 ·subst h;simp
 rw [if_neg h]
 have:Nat.beq d i=false:=by
  cases hb:Nat.beq d i with
  | false=>rfl
  | true=>exact absurd (Nat.eq_of_beq_eq_true hb) h
 rw [this];rfl
theorem aIX {e:Lq} {d:Nat} {v:AV} (h:e d=v):aBk e d v=e:=by
 funext i
 rw [aGy]
 split
 ·rename_i hh;rw [← hh,h]
 rfl
abbrev rC:AV:=.c (.v (.slice none 0 0))
inductive HA where
 | blk (b:Nat) (k:mU)
 | row (u:AV) (ty size n:Nat) (cs:List C)
 | gen (fp:List Nat) (P:Tr mU→Prop) (h:∀ m m',(∀ b,b∈fp→m'.get b=m.get b)→P m→P m')
def HA.fp:HA→List Nat
 | .blk b _=>[b]
 | .row u _ _ _ _=>match u with
  | .c (.sl b _ _ _)=>[b]
  | _=>[]
 | .gen l _ _=>l
def HA.ok (m:Tr mU):HA→Prop
 | .blk b k=>m.get b=some k
 | .row u ty size n cs=>cs.length=n * size∧((n=0∧u=rC)∨∃ b,u=.c (.sl b 0 n size)∧m.get b=some (.cells ty cs))
 | .gen _ P _=>P m
def pR (H:List HA):List Nat:=H.flatMap HA.fp
theorem iJ (a:HA) (H:List HA):pR (a::H)=a.fp++pR H:=rfl
theorem jM (H H':List HA):pR (H++H')=pR H++pR H':=by simp [pR]
theorem HA.ok_of {a:HA} {m m':Tr mU} (h:a.ok m) (hm:∀ b,b∈a.fp→m'.get b=m.get b):a.ok m':=by
 cases a with
 | blk b k=>show m'.get b=some k;rw [hm b (by simp [HA.fp])];exact h
 | row u ty size n cs =>
  obtain ⟨h1,h2⟩:=h
  refine ⟨h1,?_⟩
  rcases h2 with h2 | ⟨b,rfl,h3⟩
  ·exact .inl h2
  exact .inr ⟨b,rfl,by rw [hm b (by simp [HA.fp])];exact h3⟩
 | gen l P hP=>exact hP m m' hm h
structure Yt (z:dA) (H:List HA) (m:Tr mU) (nx:Nat):Prop where
 z:∀ b k,z b k→m.get b=some k∧b<nx∧b ∉ pR H
 h:∀ a,a∈H→a.ok m
 lt:∀ b,b∈pR H→b<nx
 nd:(pR H).Nodup
class ZS (z:outParam dA) (z':dA):Prop where
 h:∀ b k,z b k→z' b k
abbrev zle (z z':dA):Prop:=ZS z z'
instance zcf {z z':dA}:CoeFun (ZS z z') fun _=>∀ b k,z b k→z' b k:=⟨fun h=>@ZS.h _ _ h⟩
theorem zle.refl (z:dA):zle z z:=⟨fun _ _ h=>h⟩
theorem ZS.trans {a b c:dA} (h:zle a b) (g:zle b c):zle a c:=⟨fun x k hx=>g x k (h x k hx)⟩
class Zl (a b:dA):Prop where
 h:zle a b
instance zlr {a:dA}:Zl a a:=⟨zle.refl _⟩
instance zls {a b c:dA} [h1:ZS b c] [h2:Zl a b]:Zl a c:=⟨h2.h.trans h1⟩
theorem zI {a b:dA} [h:Zl a b]:zle a b:=h.h
theorem zJ (b:dA) {a:dA} [h:Zl a b]:zle a b:=h.h
theorem aSx {T:Tr FE} {hand:eE} {k0 k f:Nat} (hT:T.get f=none) (h0:Nat.blt f 1000000=true) (args:List AV) (mem:Tr mU) (nx:Nat):evF T hand k0 (k+1) f args mem nx=hand f args mem nx:=by
 rw [evF,hT]
 simp only [h0]
structure Sf where
 e:Lq
 z:dA
 H:List HA
abbrev Sf.put (fs:Sf) (d:Nat) (v:AV):Sf:=⟨aBk fs.e d v,fs.z,fs.H⟩
abbrev Sf.own (fs:Sf) (d:Nat) (v:AV) (a:HA):Sf:=⟨aBk fs.e d v,fs.z,a::fs.H⟩
abbrev Sf.heap (fs:Sf) (H:List HA):Sf:=⟨fs.e,fs.z,H⟩
abbrev Sf.res (fs:Sf) (d:Nat) (v:AV) (z:dA) (H:List HA):Sf:=⟨aBk fs.e d v,z,H⟩
abbrev Sf.frz (fs:Sf) (z:dA) (H:List HA):Sf:=⟨fs.e,z,H⟩
def Sf.ev (fs:Sf):Od→AV
 | .t i=>fs.e i
 | .k v=>avk v
 | .f f=>match Nat.blt f 1000000 with
  | true=>.c (.fn f [] [])
  | false=>.any
 | .bad=>.any
structure pK where
 m:Tr mU
 n:Nat
 z:dA
 L:List Nat
structure Rf (B:pK) (fs:Sf) (st:AS):Prop where
 env:∀ i,st.get i=fs.e i
 hold:Yt fs.z fs.H st.mem st.nx
 le:B.n≤st.nx
 old:∀ b,b<B.n→b ∉ B.L→st.mem.get b=B.m.get b
 own:∀ b,b∈pR fs.H→B.n≤b∨b∈B.L
 zle:zle B.z fs.z
 zin:∀ b k,fs.z b k→B.z b k∨B.n≤b∨b∈B.L
section
variable {B:pK} {fs:Sf} {st:AS}
theorem Rf.ev (h:Rf B fs st) (x:Od):st.ev x=fs.ev x:=by
 cases x with
 | t i=>exact h.env i
 | _=>rfl
theorem Rf.put (h:Rf B fs st) (d:Nat) (v:AV):Rf B (fs.put d v) (st.put d v):=by
 refine ⟨fun i=>?_,h.hold,h.le,h.old,h.own,h.zle,h.zin⟩
 rw [get_put,show (fs.put d v).e=aBk fs.e d v from rfl,aGy]
 split
 ·rfl
 exact h.env i
theorem Yt.new {z:dA} {H:List HA} {m m':Tr mU} {nx:Nat} (h:Yt z H m nx) (a:HA) (ha:a.ok m') (hfp:a.fp=[nx]) (hm:∀ b,b≠nx→m'.get b=m.get b):Yt z (a::H) m' (nx+1):=by
 have hne:∀ b,b∈pR H→b≠nx:=fun b hb e=>by have:=h.lt b hb;omega
 refine ⟨fun b k hb=>?_,fun x hx=>?_,fun b hb=>?_,?_⟩
 ·obtain ⟨h1,h2,h3⟩:=h.z b k hb
  refine ⟨by rw [hm b (by omega)];exact h1,by omega,?_⟩
  rw [iJ,hfp]
  simp only [List.singleton_append,List.mem_cons,not_or]
  exact ⟨by omega,h3⟩
 ·rcases List.mem_cons.1 hx with rfl | hx
  ·exact ha
  refine HA.ok_of (h.h x hx) fun b hb=>hm b (hne b ?_)
  exact List.mem_flatMap.2 ⟨x,hx,hb⟩
 ·rw [iJ,hfp] at hb
  rcases List.mem_cons.1 hb with rfl | hb
  ·omega
  have:=h.lt b hb;omega
 rw [iJ,hfp]
 exact List.nodup_cons.2 ⟨fun hb=>hne _ hb rfl,h.nd⟩
theorem Rf.new (h:Rf B fs st) {a:HA} {m':Tr mU} (ha:a.ok m') (hfp:a.fp=[st.nx]) (hm:∀ b,b≠st.nx→m'.get b=st.mem.get b):Rf B ⟨fs.e,fs.z,a::fs.H⟩ ⟨st.env,m',st.nx+1⟩:=by
 refine ⟨h.env,h.hold.new a ha hfp hm,Nat.le_succ_of_le h.le,fun b hb hl=>?_,fun b hb=>?_,h.zle,h.zin⟩
 ·have:=h.le
  exact (hm b (by omega)).trans (h.old b hb hl)
 have hb:b∈pR (a::fs.H):=hb
 rw [iJ,hfp] at hb
 rcases List.mem_cons.1 hb with rfl | hb
 ·exact .inl h.le
 exact h.own b hb
end
inductive By:List HA→HA→HA→List HA→Prop where
 | head (a a':HA) (l:List HA):By (a::l) a a' (a'::l)
 | tail (x a a':HA) (l l':List HA) (h:By l a a' l'):By (x::l) a a' (x::l')
theorem iW {a a':HA} {l:List HA}:By (a::l) a a' (a'::l):=.head ..
theorem mR {x a a':HA} {l l':List HA} (h:By l a a' l'):By (x::l) a a' (x::l'):=.tail _ _ _ _ _ h
theorem By.mem {l l':List HA} {a a':HA} (h:By l a a' l'):a∈l:=by
 induction h with
 | head=>simp
 | tail x a a' l l' h ih=>simp [ih]
theorem By.split {l l':List HA} {a a':HA} (h:By l a a' l'):∃ p q,l=p++a::q∧l'=p++a'::q:=by
 induction h with
 | head a a' l=>exact ⟨[],l,rfl,rfl⟩
 | tail x a a' l l' h ih =>
  obtain ⟨p,q,rfl,rfl⟩:=ih
  exact ⟨x::p,q,rfl,rfl⟩
theorem uY {H:List HA} {b:Nat}:b∈pR H↔∃ a,a∈H∧b∈a.fp:=by simp [pR,List.mem_flatMap]
section
variable {B:pK} {fs:Sf} {st:AS}
theorem Rf.rep (h:Rf B fs st) {a a':HA} {H':List HA} {m':Tr mU} {nx':Nat} (hr:By fs.H a a' H') (hn:st.nx≤nx') (ha:a'.ok m') (hf:∀ b,b∈a'.fp→b∈a.fp∨(st.nx≤b∧b<nx')) (hnd:a'.fp.Nodup)
  (hm:∀ b,b<st.nx→b ∉ a.fp→m'.get b=st.mem.get b):Rf B ⟨fs.e,fs.z,H'⟩ ⟨st.env,m',nx'⟩:=by
 obtain ⟨p,q,e1,e2⟩:=hr.split
 subst e2
 have hH:=h.hold
 rw [e1] at hH
 have hown:=h.own
 rw [e1] at hown
 have hnd0:=hH.nd
 rw [jM,iJ] at hnd0
 obtain ⟨n1,n2,n3⟩:=List.nodup_append.1 hnd0
 obtain ⟨n4,n5,n6⟩:=List.nodup_append.1 n2
 have hin:∀ b,b∈pR p∨b∈pR q→b ∉ a.fp∧b<st.nx:=by
  intro b hb
  refine ⟨fun hba=>?_,hH.lt b (by rw [jM,iJ];simp;rcases hb with hb | hb<;>simp [hb])⟩
  rcases hb with hb | hb
  ·exact n3 b hb b (by simp [hba]) rfl
  exact n6 b hba b hb rfl
 refine ⟨h.env,⟨fun b k hb=>?_,fun x hx=>?_,fun b hb=>?_,?_⟩,Nat.le_trans h.le hn,fun b hb hl=>?_,fun b hb=>?_,h.zle,h.zin⟩
 ·obtain ⟨h1,h2,h3⟩:=hH.z b k hb
  rw [jM,iJ] at h3 ⊢
  simp only [List.mem_append,not_or] at h3 ⊢
  refine ⟨by rw [hm b h2 h3.2.1];exact h1,Nat.lt_of_lt_of_le h2 hn,h3.1,fun hb2=>?_,h3.2.2⟩
  rcases hf b hb2 with h4 | h4
  ·exact h3.2.1 h4
  omega
 ·simp only [List.mem_append,List.mem_cons] at hx
  have hk:∀ x,x∈p∨x∈q→x.ok m':=fun x hx=>by
   refine HA.ok_of (hH.h x (by simp;rcases hx with hx | hx<;>simp [hx])) fun b hb=>?_
   have:=hin b (by rcases hx with hx | hx;exact .inl (uY.2 ⟨x,hx,hb⟩);exact .inr (uY.2 ⟨x,hx,hb⟩))
   exact hm b this.2 this.1
  rcases hx with hx | rfl | hx
  ·exact hk x (.inl hx)
  ·exact ha
  exact hk x (.inr hx)
 ·rw [jM,iJ] at hb
  simp only [List.mem_append] at hb
  rcases hb with hb | hb | hb
  ·exact Nat.lt_of_lt_of_le (hin b (.inl hb)).2 hn
  ·rcases hf b hb with h4 | h4
   ·exact Nat.lt_of_lt_of_le (hH.lt b (by rw [jM,iJ];simp [h4])) hn
   exact h4.2
  exact Nat.lt_of_lt_of_le (hin b (.inr hb)).2 hn
 ·rw [jM,iJ]
  have hd:∀ b,b∈pR p∨b∈pR q→b ∉ a'.fp:=fun b hb hb2=>by
   have:=hin b hb
   rcases hf b hb2 with h4 | h4
   ·exact this.1 h4
   omega
  refine List.nodup_append.2 ⟨n1,List.nodup_append.2 ⟨hnd,n5,fun x hx y hy e=>?_⟩,fun x hx y hy e=>?_⟩
  ·subst e;exact hd x (.inr hy) hx
  subst e
  rcases List.mem_append.1 hy with hy | hy
  ·exact hd x (.inl hx) hy
  exact n3 x hx x (by simp [hy]) rfl
 ·have hb1:b<st.nx:=Nat.lt_of_lt_of_le hb h.le
  refine (hm b hb1 fun hba=>?_).trans (h.old b hb hl)
  rcases hown b (by rw [jM,iJ];simp [hba]) with h1 | h1
  ·omega
  exact hl h1
 have hb:b∈pR (p++a'::q):=hb
 rw [jM,iJ] at hb
 simp only [List.mem_append] at hb
 rcases hb with hb | hb | hb
 ·exact hown b (by rw [jM,iJ];simp [hb])
 ·rcases hf b hb with h4 | h4
  ·exact hown b (by rw [jM,iJ];simp [h4])
  exact .inl (Nat.le_trans h.le h4.1)
 exact hown b (by rw [jM,iJ];simp [hb])
theorem Rf.frz (h:Rf B fs st) {p q:List HA} {b:Nat} {k:mU} {a:HA} (e:fs.H=p++a::q) (hfp:a.fp=[b]) (ha:∀ m,a.ok m→m.get b=some k):Rf B ⟨fs.e,fun x y=>fs.z x y∨(x=b∧y=k),p++q⟩ st:=by
 have hH:=h.hold
 rw [e] at hH
 have hown:=h.own
 rw [e] at hown
 have hnd0:=hH.nd
 rw [jM,iJ,hfp] at hnd0
 have hbk:=ha _ (hH.h a (by simp))
 have hnb:b ∉ pR (p++q):=by
  rw [jM]
  obtain ⟨n1,n2,n3⟩:=List.nodup_append.1 hnd0
  simp only [List.mem_append,not_or]
  refine ⟨fun hb=>n3 b hb b (by simp) rfl,fun hb=>?_⟩
  exact (List.nodup_cons.1 n2).1 hb
 refine ⟨h.env,⟨fun x y hx=>?_,fun x hx=>?_,fun x hx=>?_,?_⟩,h.le,h.old,fun x hx=>?_,⟨fun x y hx=>.inl (h.zle x y hx)⟩,fun x y hx=>?_⟩
 ·rcases hx with hx | ⟨rfl,rfl⟩
  ·obtain ⟨h1,h2,h3⟩:=hH.z x y hx
   refine ⟨h1,h2,fun h4=>h3 ?_⟩
   rw [jM] at h4 ⊢
   rw [iJ]
   simp only [List.mem_append] at h4 ⊢
   rcases h4 with h4 | h4<;>simp [h4]
  exact ⟨hbk,hH.lt _ (by rw [jM,iJ,hfp];simp),hnb⟩
 ·refine hH.h x ?_
  simp only [List.mem_append,List.mem_cons] at hx ⊢
  rcases hx with hx | hx<;>simp [hx]
 ·refine hH.lt x ?_
  have hx:x∈pR (p++q):=hx
  rw [jM] at hx ⊢
  rw [iJ]
  simp only [List.mem_append] at hx ⊢
  rcases hx with hx | hx<;>simp [hx]
 ·rw [jM]
  obtain ⟨n1,n2,n3⟩:=List.nodup_append.1 hnd0
  exact List.nodup_append.2 ⟨n1,(List.nodup_cons.1 n2).2,fun x hx y hy=>n3 x hx y (by simp [hy])⟩
 ·refine hown x ?_
  have hx:x∈pR (p++q):=hx
  rw [jM] at hx ⊢
  rw [iJ]
  simp only [List.mem_append] at hx ⊢
  rcases hx with hx | hx<;>simp [hx]
 rcases hx with hx | ⟨rfl,rfl⟩
 ·exact h.zin x y hx
 exact .inr (hown x (by rw [jM,iJ,hfp];simp))
end
def FL (call:eE) (B:pK) (l:List I) (fs:Sf) (Q:Sf→Prop):Prop:=∀ st,Rf B fs st→Wp (Jb call l st) fun st'=>∃ fs',Rf B fs' st'∧Q fs'
def FX (call:eE) (k:Nat) (B:pK) (c:XC) (fs:Sf) (Q:Exit→Sf→Prop):Prop:=∀ st,Rf B fs st→Wx (vS call k c st) fun e st'=>∃ fs',Rf B fs' st'∧Q e fs'
def bJh (Qn:Sf→Prop) (Q:Exit→Sf→Prop):Exit→Sf→Prop:=fun e fs=>match e with
 | .normal=>Qn fs
 | e=>Q e fs
section
variable {call:eE} {k:Nat} {B:pK} {fs:Sf} {Q:Exit→Sf→Prop}
theorem bKd {c:XC} {Q':Exit→Sf→Prop} (h:FX call k B c fs Q') (g:∀ e fs,Q' e fs→Q e fs):FX call k B c fs Q:=fun st r=>(h st r).mono fun e st' ⟨fs',r',q⟩=>⟨fs',r',g e fs' q⟩
theorem xG {l:List I} (h:FL call B l fs (Q .normal)):FX call k B (.region l) fs Q:=fun st r=>bEt (h st r)
theorem aT {a b : XC} (h : FX call k B a fs (bJh (fun fs' => FX call k B b fs' Q) Q)) : FX call k B (.seq a b) fs Q := fun st r => bPF ((h st r).mono fun e st' ⟨fs', r', q⟩ => by
  cases e with
  | normal=>exact q st' r'
  | _=>exact ⟨fs',r',q⟩)
theorem xR {l:List I} {b:XC} (h:FL call B l fs (fun fs'=>FX call k B b fs' Q)):FX call k B (.seq (.region l) b) fs Q:=aT (xG h)
theorem bGo {c c':XC} (he:∀ st,vS call k c st=vS call k c' st) (h:FX call k B c' fs Q):FX call k B c fs Q:=fun st r=>by rw [he];exact h st r
theorem Xb {a b c : XC} (h : FX call k B (.seq a (.seq b c)) fs Q) : FX call k B (.seq (.seq a b) c) fs Q := bGo (fun st => by
  simp only [vS]
  cases vS call k a st with
  | none=>rfl
  | some p=>obtain ⟨e,st1⟩:=p;cases e<;>rfl) h
theorem cP {r:XC} (h:FX call k B r fs Q):FX call k B (.seq .skip r) fs Q:=bGo (fun _=>rfl) h
theorem dH {id:Nat} {r:XC} (h:Q (.exit id) fs):FX call k B (.seq (.exit id) r) fs Q:=fun st rf=>⟨fs,rf,h⟩
theorem jX {r:XC} (h:Q .ret fs):FX call k B (.seq .ret r) fs Q:=fun st rf=>⟨fs,rf,h⟩
theorem oC (h:Q .normal fs):FX call k B .skip fs Q:=fun st rf=>⟨fs,rf,h⟩
theorem xT (h:Q .ret fs):FX call k B .ret fs Q:=fun st rf=>⟨fs,rf,h⟩
theorem bAq {id:Nat} (h:Q (.exit id) fs):FX call k B (.exit id) fs Q:=fun st rf=>⟨fs,rf,h⟩
theorem aQ {id:Nat} {b:XC} (h:FX call k B b fs fun e=>Q (aSW id e)):FX call k B (.block id b) fs Q:=fun st r=>bIB (h st r)
theorem jB {c:Od} {a b:XC} {t:Bool} (hc:fs.ev c=.c (.v (.bool t))) (h1:t=true→FX call k B a fs Q) (h2:t=false→FX call k B b fs Q):FX call k B (.cond c a b) fs Q:=fun st r=>by
 refine bKz (t:=t) (by rw [r.ev];exact hc) ?_
 cases t with
 | true=>exact h1 rfl st r
 | false=>exact h2 rfl st r
theorem xD {c:Od} {a b:XC} {P:Prop} [Decidable P] (hc:fs.ev c=.c (.v (.bool (decide P)))) (h1:P→FX call k B a fs Q) (h2:¬ P→FX call k B b fs Q):FX call k B (.cond c a b) fs Q:=
 jB hc (fun h=>h1 (of_decide_eq_true h)) (fun h=>h2 (of_decide_eq_false h))
theorem wO {c:Od} {a b:XC} {P:Prop} [Decidable P] (hc:fs.ev c=.c (.v (.bool (!decide P)))) (h1:¬ P→FX call k B a fs Q) (h2:P→FX call k B b fs Q):FX call k B (.cond c a b) fs Q:=
 jB hc (fun h=>h1 (by simpa using h)) (fun h=>h2 (by simpa using h))
theorem aRo {c:Od} {a b:XC} (hc:fs.ev c=.c (.v (.bool true))) (h:FX call k B a fs Q):FX call k B (.cond c a b) fs Q:=jB hc (fun _=>h) (fun h=>by cases h)
theorem aDJ {c:Od} {a b:XC} (hc:fs.ev c=.c (.v (.bool false))) (h:FX call k B b fs Q):FX call k B (.cond c a b) fs Q:=jB hc (fun h=>by cases h) (fun _=>h)
theorem Ew {c : Od} {a b r : XC} (h : FX call k B (.cond c (.seq a r) (.seq b r)) fs Q) : FX call k B (.seq (.cond c a b) r) fs Q := bGo (fun st => by
  simp only [vS]
  cases (st.ev c).bool? with
  | none=>rfl
  | some t=>cases t<;>rfl) h
theorem eT {Qn:Sf→Prop} (h:Qn fs):bJh Qn Q .normal fs:=h
theorem nS {Qn:Sf→Prop} (h:Q .ret fs):bJh Qn Q .ret fs:=h
def LQ (I:Nat→Sf→Prop) (n:Nat) (Q:Exit→Sf→Prop):Exit→Sf→Prop:=fun e fs=>match e with
 | .normal=>∃ n',n'<n∧I n' fs
 | e=>Q e fs
theorem mK {I:Nat→Sf→Prop} {n n':Nat} (h:n'<n) (hi:I n' fs):LQ I n Q .normal fs:=⟨n',h,hi⟩
theorem L9 {I:Nat→Sf→Prop} {n:Nat} (h:Q .ret fs):LQ I n Q .ret fs:=h
theorem nF {I:Nat→Sf→Prop} {n id:Nat} (h:Q (.exit id) fs):LQ I n Q (.exit id) fs:=h
theorem dX {b:XC} (I:Nat→Sf→Prop) (step:∀ n fs,I n fs→FX call k B b fs (LQ I n Q)) (n:Nat) (h0:I n fs) (hk:n<k):FX call k B (.loop b) fs Q:=by
 have key:∀ (n:Nat) (j:Nat) (fs:Sf) (st:AS),n<j→I n fs→Rf B fs st→Wx (N7 (vS call k b) j st) fun e st'=>∃ fs',Rf B fs' st'∧Q e fs':=by
  intro n
  induction n using Nat.strongRecOn with
  | ind n ih =>
   intro j fs st hj hi r
   obtain ⟨j,rfl⟩:∃ i,j=i+1:=⟨j - 1,by omega⟩
   refine bK4 ((step n fs hi st r).mono fun e st' ⟨fs',r',q⟩=>?_)
   cases e with
   | normal =>
    obtain ⟨n',hn,hi'⟩:=q
    exact ih n' hn j fs' st' (by omega) hi' r'
   | _=>exact ⟨fs',r',q⟩
 exact fun st r=>bJk (key n k fs st hk h0 r)
inductive Vx (e:Lq):List (Nat×AV)→Prop where
 | nil:Vx e []
 | cons (i:Nat) (v:AV) (l:List (Nat×AV)) (h:e i=v) (t:Vx e l):Vx e ((i,v)::l)
theorem Ez {e:Lq}:Vx e []:=.nil
theorem kM {e:Lq} {i:Nat} {v:AV} {l:List (Nat×AV)} (h:e i=v) (t:Vx e l):Vx e ((i,v)::l):=.cons i v l h t
theorem Vx.eq {e:Lq} {l:List (Nat×AV)} (h:Vx e l):aSl e l=e:=by
 induction h with
 | nil=>rfl
 | cons i v l h t ih =>
  show aBk (aSl e l) i v=e
  rw [ih]
  exact aIX h
theorem zQ {c:XC} {e:Lq} {z:dA} {H:List HA} {l:List (Nat×AV)} (h:Vx e l) (hx:∀ e',FX call k B c ⟨aSl e' l,z,H⟩ Q):FX call k B c ⟨e,z,H⟩ Q:=by
 have:=hx e
 rw [h.eq] at this
 exact this
end
open Go.RowKit
open Go.Eng (Od need need_pos iE kN binV binBV)
def lenOf:AV→Option Nat
 | .c (.v (.slice none 0 0))=>some 0
 | .c (.sl _ _ n _)=>some n
 | .c .em=>some 0
 | _=>none
def aCi (ev:Od→AV) (size:Nat):List C→List (Nat×Od)→Option (List C)
 | cs,[]=>some cs
 | cs,(i,x)::r=>match (ev x).cells? with
  | some ds=>need (ds.length=size∧i * size+size≤cs.length) (aCi ev size (kN cs (i * size) ds) r)
  | none=>none
theorem bGk (st:AS) (size:Nat) (cs:List C) (l:List (Nat×Od)):zB st size cs l=aCi st.ev size cs l:=by
 induction l generalizing cs with
 | nil=>rfl
 | cons p l ih =>
  obtain ⟨i,x⟩:=p
  simp only [zB,aCi]
  cases (st.ev x).cells? with
  | none=>rfl
  | some ds=>simp only [ih]
def aS6 (ev:Od→AV):List C→List (Nat×Nat×Od)→Option (List C)
 | cs,[]=>some cs
 | cs,(off,size,x)::r=>match (ev x).cells? with
  | some ds=>need (ds.length=size∧off+size≤cs.length) (aS6 ev (kN cs off ds) r)
  | none=>none
theorem bGs (st:AS) (cs:List C) (l:List (Nat×Nat×Od)):V0 st cs l=aS6 st.ev cs l:=by
 induction l generalizing cs with
 | nil=>rfl
 | cons p l ih =>
  obtain ⟨i,j,x⟩:=p
  simp only [V0,aS6]
  cases (st.ev x).cells? with
  | none=>rfl
  | some ds=>simp only [ih]
def aU2 (ev:Od→AV):List Od→Option (List (Bool×List C))
 | []=>some []
 | x::r=>match ev x,aU2 ev r with
  | .c c,some l=>some ((false,[c])::l)
  | .agg cs,some l=>some ((true,cs)::l)
  | _,_=>none
theorem bCd (st:AS) (l:List Od):I2 st l=aU2 st.ev l:=by
 induction l with
 | nil=>rfl
 | cons x l ih =>
  simp only [I2,aU2,ih]
  cases st.ev x<;>cases aU2 st.ev l<;>rfl
theorem Rf.evf {B:pK} {fs:Sf} {st:AS} (h:Rf B fs st):st.ev=fs.ev:=funext h.ev
theorem mem0 {a:HA} {l:List HA}:a∈a::l:=List.mem_cons_self ..
theorem mC {a x:HA} {l:List HA} (h:a∈l):a∈x::l:=List.mem_cons_of_mem _ h
theorem aU {n m:Nat} (h:Nat.ble n m=true):n≤m:=Nat.le_of_ble_eq_true h
section
variable {call:eE} {B:pK} {fs:Sf} {l:List I} {Q:Sf→Prop} {d:Nat}
theorem lN (h:Q fs):FL call B [] fs Q:=fun st r=>bSa ⟨fs,r,h⟩
theorem aGg {o:lS} {v:AV} (hc:∀ st:AS,callee st o=none) (h:∀ st,Rf B fs st→bQ o st=some v) (hw:FL call B l (fs.put d v) Q):FL call B (⟨some d,none,o⟩::l) fs Q:=fun st r=>O0 (i_q (hc st) (h st r)) (hw _ (r.put d v))
theorem lM {x:Od} {v:AV} (hx:fs.ev x=v) (hw:FL call B l (fs.put d v) Q):FL call B (⟨some d,none,.mv x⟩::l) fs Q:=fun st r=>bV4 ((r.ev x).trans hx) (hw _ (r.put d v))
theorem lB {op:BinOp} {x y:Od} {u v r:Value} (hx:fs.ev x=.c (.v u)) (hy:fs.ev y=.c (.v v)) (h:pS op u v=some r) (hw:FL call B l (fs.put d (.c (.v r))) Q):FL call B (⟨some d,none,.bin op x y⟩::l) fs Q:=
 fun st rf=>bSj ((rf.ev x).trans hx) ((rf.ev y).trans hy) h (hw _ (rf.put _ _))
theorem Ej {op:BinOp} {x y:Od} {u v r:Value} (hx:fs.ev x=.c (.v u)) (hy:fs.ev y=.c (.v v)) (h:binBV op u v=some r) (hw:FL call B l (fs.put d (.c (.v r))) Q):FL call B (⟨some d,none,.binB op x y⟩::l) fs Q:=
 aGg (fun _=>rfl) (fun st rf=>by simp only [bQ,rf.ev,hx,hy,AV.val?,h];rfl) hw
theorem aRS {op:UnOp} {x:Od} {u r:Value} (hx:fs.ev x=.c (.v u)) (h:unW op u=some r) (hw:FL call B l (fs.put d (.c (.v r))) Q):FL call B (⟨some d,none,.un op x⟩::l) fs Q:=fun st rf=>bVt ((rf.ev x).trans hx) h (hw _ (rf.put _ _))
theorem mX {k:IntKind} {x:Od} {k':IntKind} {n m:Int} (hx:fs.ev x=.c (.v (.int k' n))) (h:k.wrap n=m) (hw:FL call B l (fs.put d (.c (.v (.int k m)))) Q):FL call B (⟨some d,none,.cvi k x⟩::l) fs Q:=fun st rf=>bTX ((rf.ev x).trans hx) (by rw [h];exact hw _ (rf.put _ _))
theorem aCT {x:Od} {v:AV} {n:Nat} (hx:fs.ev x=v) (h:lenOf v=some n) (hw:FL call B l (fs.put d (.c (.v (.int .i64 n)))) Q):FL call B (⟨some d,none,.len false x⟩::l) fs Q:=by
 refine aGg (fun _=>rfl) (fun st rf=>?_) hw
 simp only [bQ,rf.ev,hx]
 unfold lenOf at h
 split at h<;>first | (injection h with h;subst h;rfl) | cases h
theorem lF {off:Nat} {x:Od} {b o:Nat} (hx:fs.ev x=.c (.ptr b o)) (hw:FL call B l (fs.put d (.c (.ptr b (o+off)))) Q):FL call B (⟨some d,none,.fad off x⟩::l) fs Q:=fun st r=>bSZ ((r.ev x).trans hx) (hw _ (r.put _ _))
theorem bIt {agg:Bool} {size off:Nat} {x:Od} {cs:List C} {v:AV} (hx:fs.ev x=.agg cs) (hl:off+size≤cs.length) (hv:I0 agg ((cs.drop off).take size)=v) (hw:FL call B l (fs.put d v) Q):FL call B (⟨some d,none,.fld agg size off x⟩::l) fs Q:=
 aGg (fun _=>rfl) (fun st rf=>by simp only [bQ,rf.ev,hx];rw [need_pos hl,hv]) hw
theorem aZu {f:Nat} {first caps:List Od} {us cs:List (Bool×List C)} (h1:aU2 fs.ev first=some us) (h2:aU2 fs.ev caps=some cs) (hw:FL call B l (fs.put d (.c (.fn f us cs))) Q):FL call B (⟨some d,none,.mkf f first caps⟩::l) fs Q:=
 aGg (fun _=>rfl) (fun st rf=>by simp only [bQ,bCd,rf.evf,h1,h2]) hw
theorem He {zero:List Value} {parts:List (Nat×Nat×Od)} {cs:List C} (h:aS6 fs.ev (zero.map fun v=>.v v) parts=some cs) (hw:FL call B l (fs.put d (.agg cs)) Q):FL call B (⟨some d,none,.build zero parts⟩::l) fs Q:=
 aGg (fun _=>rfl) (fun st rf=>by simp only [bQ,bGs,rf.evf,h]) hw
theorem aY1 {mn:Bool} {x y:Od} {k:IntKind} {a b m:Int} (hx:fs.ev x=.c (.v (.int k a))) (hy:fs.ev y=.c (.v (.int k b))) (hm:(match mn with | false=>if b > a then b else a | true=>if b<a then b else a)=m) (hw:FL call B l (fs.put d (.c (.v (.int k m)))) Q):FL call B (⟨some d,none,.mx mn x y⟩::l) fs Q:=
 aGg (fun _=>rfl) (fun st rf=>by simp only [bQ,rf.ev,hx,hy,AV.val?];rw [need_pos trivial];subst hm;cases mn<;>rfl) hw
theorem oO {size:Nat} {x i:Od} {b o n:Nat} {kd:IntKind} {z:Int} (hx:fs.ev x=.c (.sl b o n size)) (hi:fs.ev i=.c (.v (.int kd z))) (j:Nat) (hj:z=(j:Int)) (h:j<n) (hw:FL call B l (fs.put d (.c (.ptr b (o+j * size)))) Q):FL call B (⟨some d,none,.iad size x i⟩::l) fs Q:=
 fun st r=>bS7 ((r.ev x).trans hx) ((r.ev i).trans (by rw [hi,hj])) h (hw _ (r.put _ _))
theorem mQ {agg:Bool} {size:Nat} {x:Od} {b o ty:Nat} {cs:List C} {v:AV} (hx:fs.ev x=.c (.ptr b o)) (hm:HA.blk b (.cells ty cs)∈fs.H) (hl:o+size≤cs.length) (hv:I0 agg ((cs.drop o).take size)=v) (hw:FL call B l (fs.put d v) Q):FL call B (⟨some d,none,.load agg size x⟩::l) fs Q:=
 fun st r=>O0 (bHV ((r.ev x).trans hx) (r.hold.h _ hm) hl) (by rw [hv];exact hw _ (r.put _ _))
theorem aLz {o:lS} {k:mU} {w:Nat→AV} (hc:∀ st:AS,callee st o=none) (hq:∀ st,bQ o st=none) (he:∀ st,Rf B fs st→eP o st=some (st.new k,w st.nx)) (hw:∀ b,FL call B l (fs.own d (w b) (.blk b k)) Q):FL call B (⟨some d,none,o⟩::l) fs Q:=fun st r=>by
 refine O0 (i_e (hc st) (hq st) (he st r)) ?_
 have r1:=r.new (a:=.blk st.nx k) (m':=(st.new k).mem) (by show (st.new k).mem.get st.nx=some k;rw [Jw,if_pos rfl]) rfl (fun b hb=>by rw [Jw,if_neg fun e=>hb e.symm])
 exact hw st.nx _ (r1.put d (w st.nx))
theorem aDN {ty:Nat} {x:Od} {v:AV} {cs:List C} (hx:fs.ev x=v) (hv:v.cells? = some cs) (hw:∀ b,FL call B l (fs.own d (.c (.ptr b 0)) (.blk b (.cells ty cs))) Q):FL call B (⟨some d,none,.box ty x⟩::l) fs Q:=
 aLz (w:=fun b=>.c (.ptr b 0)) (fun _=>rfl) (fun _=>rfl) (fun st r=>by simp only [eP,r.ev,hx,hv]) hw
theorem kC {ty:Nat} {zero:List Value} (hw:∀ b,FL call B l (fs.own d (.c (.ptr b 0)) (.blk b (.cells ty (zero.map fun v=>.v v)))) Q):FL call B (⟨some d,none,.alloc ty zero⟩::l) fs Q:=
 aLz (w:=fun b=>.c (.ptr b 0)) (fun _=>rfl) (fun _=>rfl) (fun st r=>rfl) hw
theorem cX {ty size len:Nat} {zero:List Value} {parts:List (Nat×Od)} {cs:List C} (h:aCi fs.ev size (Ld len (zero.map fun v=>.v v)) parts=some cs) (hw:∀ b,FL call B l (fs.own d (.c (.sl b 0 len size)) (.blk b (.cells ty cs))) Q):FL call B (⟨some d,none,.bslice ty size len zero parts⟩::l) fs Q:=
 aLz (w:=fun b=>.c (.sl b 0 len size)) (fun _=>rfl) (fun _=>rfl) (fun st r=>by simp only [eP,bGk,r.evf,h]) hw
theorem aGQ {size:Nat} {x y:Od} {b o ty:Nat} {cs ds:List C} {v:AV} {H':List HA} (hx:fs.ev x=.c (.ptr b o)) (hy:fs.ev y=v) (hv:v.cells? = some ds) (hr:By fs.H (.blk b (.cells ty cs)) (.blk b (.cells ty (kN cs o ds))) H') (hs:ds.length=size) (h:o+size≤cs.length)
  (hw:FL call B l (fs.heap H') Q):FL call B (⟨none,none,.store size x y⟩::l) fs Q:=fun st r=>by
 refine bIQ ((r.ev x).trans hx) ((r.ev y).trans hy) hv (r.hold.h _ hr.mem) hs h ?_
 exact hw _ (r.rep hr (Nat.le_refl _) (by show (st.setB b _).mem.get b=_;rw [aCl,if_pos rfl]) (fun c hc=>.inl hc) (by simp [HA.fp]) (fun c _ hc=>by show (st.setB b _).mem.get c=_;rw [aCl,if_neg fun e=>hc (by simp [HA.fp,e])]))
def Src (z:dA) (H:List HA) (size:Nat) (v:AV) (m:Nat) (news:List C):Prop:=∀ (st:AS) (nx:Nat),Yt z H st.mem nx→st.row size v=some (m,news)
theorem bK1 {z:dA} {H:List HA} {size b o m ty:Nat} {cs ds:List C} (hm:HA.blk b (.cells ty cs)∈H) (hl:o+m * size≤cs.length) (hd:(cs.drop o).take (m * size)=ds):Src z H size (.c (.sl b o m size)) m ds:=fun st nx h=>by
 rw [aZc (h.h _ hm) hl,hd]
theorem aZ0 {st:AS} (r:Rf B fs st) {ty size bytes n m:Nat} {zero:List Value} {x y:Od} {u v:AV} {cs news:List C} {H':AV→List HA} (hx:fs.ev x=u) (hy:fs.ev y=v) (hrow:st.row size v=some (m,news)) (hr:∀ u',By fs.H (.row u ty size n cs) (.row u' ty size (n+m) (cs++news)) (H' u')) (hl:news.length=m * size) (hb:(n+m) * bytes≤140737488355328) (hn:n+m≤9223372036854775807)
    (hw:∀ c':C,pO c' c'=true→FL call B l (fs.res d (.c c') fs.z (H' (.c c'))) Q):Wp (Jb call (⟨some d,none,.app ty size bytes zero x y⟩::l) st) fun st'=>∃ fs',Rf B fs' st'∧Q fs':=by
  obtain ⟨g1,g2⟩:=r.hold.h _ (hr rC).mem
  have hx':=(r.ev x).trans hx
  have hy':=(r.ev y).trans hy
  cases m with
  | zero =>
    have e:news=[]:=List.eq_nil_of_length_eq_zero (by omega)
    subst e
    refine bPY (u:=u) hx' ?_ hy' hrow ?_
    · rcases g2 with ⟨_, rfl⟩ | ⟨b, rfl, _⟩
      · exact .inr rfl
      · exact .inl ⟨_,_,_,_,rfl⟩
    · have h1:=hr u
      rw [List.append_nil,Nat.add_zero] at h1
      obtain ⟨c0,hc0,hs0⟩:∃ c0,u=.c c0∧pO c0 c0=true:=by rcases g2 with ⟨_,rfl⟩ | ⟨b,rfl,_⟩<;>exact ⟨_,rfl,by simp [pO,aXE]⟩
      subst hc0
      exact hw c0 hs0 _ ((r.rep h1 (Nat.le_refl _) (r.hold.h _ h1.mem) (fun b hb=>.inl hb) (by rcases g2 with ⟨_,h⟩ | ⟨b,h,_⟩<;>injection h with h<;>subst h<;>simp [HA.fp]) (fun _ _ _=>rfl)).put d (.c c0))
  | succ m =>
    rcases g2 with ⟨rfl,rfl⟩ | ⟨b,rfl,h3⟩
    · have e : cs = [] := List.eq_nil_of_length_eq_zero (by omega)
      subst e
      refine bIe hx' hy' hrow (by simpa using hb) (by omega) ?_
      have h1:=hr (.c (.sl st.nx 0 (m+1) size))
      rw [List.nil_append,Nat.zero_add] at h1
      exact hw _ (by simp [pO]) _ ((r.rep (m':=(st.new (.cells ty news)).mem) (nx':=st.nx+1) h1 (by omega) ⟨hl,.inr ⟨st.nx,rfl,by rw [Jw,if_pos rfl]⟩⟩ (fun c hc=>.inr (by simp [HA.fp] at hc;omega)) (by simp [HA.fp]) (fun c hc _=>by rw [Jw,if_neg (by omega)])).put d _)
    · refine bLs hx' hy' hrow h3 (by omega) (by simpa using hb) (by omega) ?_
      have h1:=hr (.c (.sl st.nx 0 (n+(m+1)) size))
      have hb2:b<st.nx:=r.hold.lt b (uY.2 ⟨_,h1.mem,by simp [HA.fp]⟩)
      refine hw _ (by simp [pO]) _ ((r.rep (m':=(st.moveB b (.cells ty (cs.drop 0++news))).mem) (nx':=st.nx+1) h1 (by omega) ⟨by rw [List.length_append,g1,hl,← Nat.add_mul],.inr ⟨st.nx,rfl,by rw [Wm,if_pos rfl];rfl⟩⟩ (fun c hc=>.inr (by simp [HA.fp] at hc;omega)) (by simp [HA.fp]) (fun c hc hc2=>?_)).put d _)
      rw [Wm,if_neg (by omega),if_neg fun e=>hc2 (by simp [HA.fp,e])]
theorem bPj {ty size bytes n m:Nat} {zero:List Value} {x y:Od} {u v:AV} {cs news:List C} {H':AV→List HA} (hx:fs.ev x=u) (hy:fs.ev y=v) (hs:Src fs.z fs.H size v m news) (hr:∀ u',By fs.H (.row u ty size n cs) (.row u' ty size (n+m) (cs++news)) (H' u')) (hl:news.length=m * size) (hb:(n+m) * bytes≤140737488355328) (hn:n+m≤9223372036854775807)
  (hw:∀ c':C,pO c' c'=true→FL call B l (fs.res d (.c c') fs.z (H' (.c c'))) Q):FL call B (⟨some d,none,.app ty size bytes zero x y⟩::l) fs Q:=fun st r=>aZ0 r hx hy (hs st st.nx r.hold) hr hl hb hn hw
theorem bQL {a:HA} {p q:List HA} {b:Nat} {k:mU} (e:fs.H=p++a::q) (hfp:a.fp=[b]) (ha:∀ m,a.ok m→m.get b=some k) (hw:∀ z',zle fs.z z'→z' b k→FL call B l (fs.frz z' (p++q)) Q):FL call B l fs Q:=fun st r =>
 hw _ ⟨fun _ _ h=>.inl h⟩ (.inr ⟨rfl,rfl⟩) st (r.frz e hfp ha)
theorem lD {dd:Option Nat} {s:Nat} {want:Bool} {o:lS} (h:fs.e s=.c (.v (.bool want))) (hw:FL call B (⟨dd,none,o⟩::l) fs Q):FL call B (⟨dd,some (s,want),o⟩::l) fs Q:=fun st r=>bVk ((r.env s).trans h) (hw st r)
theorem lX {s:Nat} {want:Bool} {o:lS} (h:fs.e s=.c (.v (.bool (!want)))) (hw:FL call B l (fs.put d (.tup [])) Q):FL call B (⟨some d,some (s,want),o⟩::l) fs Q:=fun st r=>bV5 ((r.env s).trans h) (hw _ (r.put _ _))
theorem bRO {s:Nat} {want:Bool} {o:lS} (h:fs.e s=.tup []) (hw:FL call B l (fs.put d (.tup [])) Q):FL call B (⟨some d,some (s,want),o⟩::l) fs Q:=fun st r=>bU4 ((r.env s).trans h) (hw _ (r.put _ _))
theorem nC (s:Nat) {t:Bool} (h:fs.e s=.c (.v (.bool t))) (h1:t=true→FL call B l (fs.put s (.c (.v (.bool true)))) Q) (h2:t=false→FL call B l (fs.put s (.c (.v (.bool false)))) Q):FL call B l fs Q:=by
 have e:fs.put s (.c (.v (.bool t)))=fs:=by
  cases fs;simp only [Sf.put];rw [aIX h]
 cases t with
 | true=>have:=h1 rfl;rw [e] at this;exact this
 | false=>have:=h2 rfl;rw [e] at this;exact this
theorem fR (s:Nat) {P:Prop} [Decidable P] (h:fs.e s=.c (.v (.bool (decide P)))) (h1:P→FL call B l (fs.put s (.c (.v (.bool true)))) Q) (h2:¬ P→FL call B l (fs.put s (.c (.v (.bool false)))) Q):FL call B l fs Q:=
 nC s h (fun h=>h1 (of_decide_eq_true h)) (fun h=>h2 (of_decide_eq_false h))
theorem aJo (s:Nat) {P:Prop} [Decidable P] (h:fs.e s=.c (.v (.bool (!decide P)))) (h1:¬ P→FL call B l (fs.put s (.c (.v (.bool true)))) Q) (h2:P→FL call B l (fs.put s (.c (.v (.bool false)))) Q):FL call B l fs Q:=
 nC s h (fun h=>h1 (by simpa using h)) (fun h=>h2 (by simpa using h))
end
theorem vF {z:Int} (h : -9223372036854775808≤z∧z<9223372036854775808):IntKind.i64.wrap z=z:=bLf h.1 h.2
theorem bRW {z:Int} (h:0≤z∧z<4294967296):IntKind.u32.wrap z=z:=by
 simp [IntKind.wrap,IntKind.bits,IntKind.signed];omega
theorem bVn {z:Int} (h:0≤z∧z<18446744073709551616):IntKind.u64.wrap z=z:=by
 simp [IntKind.wrap,IntKind.bits,IntKind.signed];omega
theorem wu8 {z:Int} (h:0≤z∧z<256):IntKind.u8.wrap z=z:=by
 simp [IntKind.wrap,IntKind.bits,IntKind.signed];omega
theorem bGr (z:Int):IntKind.u32.wrap z=z % 4294967296:=by
 simp [IntKind.wrap,IntKind.bits,IntKind.signed]
theorem bAs (z:Int):IntKind.u64.wrap z=z % 18446744073709551616:=by
 simp [IntKind.wrap,IntKind.bits,IntKind.signed]
theorem aS0 {k:IntKind} {a b r:Int} (ha:0≤a) (hb:0<b) (h:k.wrap (a / b)=r):pS .quo (.int k a) (.int k b)=some (.int k r):=by
 have:a.tdiv b=a / b:=Int.tdiv_eq_ediv_of_nonneg ha
 simp [pS,binV,need,show b≠0 by omega,this,h]
theorem aS9 {k:IntKind} {a b r:Int} (ha:0≤a) (hb:0<b) (h:a % b=r):pS .rem (.int k a) (.int k b)=some (.int k r):=by
 have:a.tmod b=a % b:=Int.tmod_eq_emod_of_nonneg ha
 simp [pS,binV,need,show b≠0 by omega,this,h]
theorem tG {k:IntKind} {a b r:Int} (h:k.wrap (a+b)=r):pS .add (.int k a) (.int k b)=some (.int k r):=by rw [bUh,h]
theorem wF {k:IntKind} {a b r:Int} (h:k.wrap (a - b)=r):pS .sub (.int k a) (.int k b)=some (.int k r):=by rw [bTQ,h]
theorem aZl {k:IntKind} {a b r:Int} (h:k.wrap (a * b)=r):pS .mul (.int k a) (.int k b)=some (.int k r):=by rw [bLH,h]
open Go.RowKit
open Go.Eng (Od need need_pos iE kN binV binBV)
def Lp (call:eE) (f:Nat) (args:List AV) (z:dA) (H:List HA) (Post:AV→dA→List HA→Prop):Prop:=
 ∀ mem nx,Yt z H mem nx→∃ v mem' nx' z' H',call f args mem nx=some (v,mem',nx')∧nx≤nx'∧(∀ b,b<nx→b ∉ pR H→mem'.get b=mem.get b)∧Yt z' H' mem' nx'∧zle z z' ∧
  (∀ b k,z' b k→z b k∨nx≤b∨b∈pR H)∧(∀ b,b∈pR H'→nx≤b∨b∈pR H)∧Post v z' H'
def FC (call:eE) (f:Nat) (args:List AV) (z:dA) (Post:AV→dA→Prop):Prop:=Lp call f args z [] fun v z' H'=>H'=[]∧Post v z'
theorem Lp.mono {call:eE} {f:Nat} {args:List AV} {z:dA} {H:List HA} {P Q:AV→dA→List HA→Prop} (h:Lp call f args z H P) (g:∀ v z' H',zle z z'→P v z' H'→Q v z' H'):Lp call f args z H Q:=fun mem nx hh=>by
 obtain ⟨v,mem',nx',z',H',h1,h2,h3,h4,h5,h6,h7,h8⟩:=h mem nx hh
 exact ⟨v,mem',nx',z',H',h1,h2,h3,h4,h5,h6,h7,g v z' H' h5 h8⟩
theorem FC.mono {call:eE} {f:Nat} {args:List AV} {z:dA} {P Q:AV→dA→Prop} (h:FC call f args z P) (g:∀ v z',zle z z'→P v z'→Q v z'):FC call f args z Q:=Lp.mono h fun v z' H' hz ⟨h1,h2⟩=>⟨h1,g v z' hz h2⟩
theorem Yt.left {z:dA} {Hs Hr:List HA} {m:Tr mU} {nx:Nat} (h:Yt z (Hs++Hr) m nx):Yt z Hs m nx:=by
 refine ⟨fun b k hb=>?_,fun a ha=>h.h a (by simp [ha]),fun b hb=>h.lt b (by rw [jM];simp [hb]),?_⟩
 ·obtain ⟨h1,h2,h3⟩:=h.z b k hb
  exact ⟨h1,h2,fun h4=>h3 (by rw [jM];simp [h4])⟩
 have:=h.nd
 rw [jM] at this
 exact (List.nodup_append.1 this).1
theorem Rf.callR {B:pK} {fs:Sf} {st:AS} (r:Rf B fs st) {Hs Hr H':List HA} (e:fs.H=Hs++Hr) {mem':Tr mU} {nx':Nat} {z':dA} (hn:st.nx≤nx') (hm:∀ b,b<st.nx→b ∉ pR Hs→mem'.get b=st.mem.get b) (hh:Yt z' H' mem' nx') (hz:CE.zle fs.z z')
    (hin:∀ b k,z' b k→fs.z b k∨st.nx≤b∨b∈pR Hs) (hown:∀ b,b∈pR H'→st.nx≤b∨b∈pR Hs):Rf B ⟨fs.e,z',H'++Hr⟩ ⟨st.env,mem',nx'⟩:=by
  have hH:=r.hold
  rw [e] at hH
  have ho:=r.own
  rw [e] at ho
  have hnd:=hH.nd
  rw [jM] at hnd
  obtain ⟨n1,n2,n3⟩:=List.nodup_append.1 hnd
  have hs:∀ b,b∈pR Hs→b∈pR (Hs++Hr):=fun b hb=>by rw [jM];simp [hb]
  have hr:∀ b,b∈pR Hr→b∈pR (Hs++Hr):=fun b hb=>by rw [jM];simp [hb]
  have hrl:∀ b,b∈pR Hr→b<st.nx∧b ∉ pR Hs:=fun b hb=>⟨hH.lt b (hr b hb),fun h4=>n3 b h4 b hb rfl⟩
  refine ⟨r.env,⟨fun b k hb=>?_,fun a ha=>?_,fun b hb=>?_,?_⟩,Nat.le_trans r.le hn,fun b hb hl=>?_,fun b hb=>?_,⟨fun b k hb=>hz b k (r.zle b k hb)⟩,fun b k hb=>?_⟩
  · obtain ⟨h1, h2, h3⟩ := hh.z b k hb
    refine ⟨h1,h2,?_⟩
    rw [jM]
    simp only [List.mem_append,not_or]
    refine ⟨h3,fun h4=>?_⟩
    have h5:=hrl b h4
    rcases hin b k hb with h6 | h6 | h6
    · exact (hH.z b k h6).2.2 (hr b h4)
    · omega
    · exact h5.2 h6
  · rcases List.mem_append.1 ha with ha | ha
    · exact hh.h a ha
    · refine HA.ok_of (hH.h a (by simp [ha])) fun b hb => ?_
      have h5:=hrl b (uY.2 ⟨a,ha,hb⟩)
      exact hm b h5.1 h5.2
  · have hb:b∈pR (H'++Hr):=hb
    rw [jM] at hb
    rcases List.mem_append.1 hb with hb | hb
    · exact hh.lt b hb
    · exact Nat.lt_of_lt_of_le (hrl b hb).1 hn
  · rw [jM]
    refine List.nodup_append.2 ⟨hh.nd,n2,fun x hx y hy e=>?_⟩
    subst e
    have h5:=hrl x hy
    rcases hown x hx with h6 | h6
    · omega
    · exact h5.2 h6
  · refine (hm b (Nat.lt_of_lt_of_le hb r.le) fun h4=>?_).trans (r.old b hb hl)
    rcases ho b (hs b h4) with h5 | h5
    · omega
    · exact hl h5
  · have hb:b∈pR (H'++Hr):=hb
    rw [jM] at hb
    rcases List.mem_append.1 hb with hb | hb
    · rcases hown b hb with h6 | h6
      · exact .inl (Nat.le_trans r.le h6)
      · exact ho b (hs b h6)
    · exact ho b (hr b hb)
  · rcases hin b k hb with h6 | h6 | h6
    · exact r.zin b k h6
    · exact .inr (.inl (Nat.le_trans r.le h6))
    · exact .inr (ho b (hs b h6))
section
variable {call:eE} {B:pK} {fs:Sf} {l:List I} {Q:Sf→Prop} {d:Nat}
theorem aYz {f:Nat} {args:List Od} {vs:List AV} {Hs Hr:List HA} {Post:AV→dA→List HA→Prop} (ha:args.map fs.ev=vs) (e:fs.H=Hs++Hr) (hc:Lp call f vs fs.z Hs Post)
  (hw:∀ v z' H',zle fs.z z'→Post v z' H'→FL call B l (fs.res d v z' (H'++Hr)) Q):FL call B (⟨some d,none,.call f args⟩::l) fs Q:=fun st r=>by
 have hh:=r.hold
 rw [e] at hh
 obtain ⟨v,mem',nx',z',H',h1,h2,h3,h4,h5,h6,h7,h8⟩:=hc st.mem st.nx hh.left
 refine bMo (vs:=vs) (by rw [r.evf];exact ha) h1 ?_
 exact hw v z' H' h5 h8 _ ((r.callR e h2 h3 h4 h5 h6 h7).put d v)
theorem aF7 {f:Nat} {args:List Od} {vs:List AV} {Post:AV→dA→Prop} (ha:args.map fs.ev=vs) (hc:FC call f vs fs.z Post)
  (hw:∀ v z',zle fs.z z'→Post v z'→FL call B l (fs.res d v z' fs.H) Q):FL call B (⟨some d,none,.call f args⟩::l) fs Q:=
 aYz (Hs:=[]) (Hr:=fs.H) ha rfl hc fun v z' H' hz ⟨h1,h2⟩=>by subst h1;exact hw v z' hz h2
theorem bDx {t:Od} {f:Nat} {us cs:List (Bool×List C)} {args:List Od} {vs:List AV} {Hs Hr:List HA} {Post:AV→dA→List HA→Prop} (ht:fs.ev t=.c (.fn f us cs)) (ha:AV.cs us++(args.map fs.ev++AV.cs cs)=vs) (e:fs.H=Hs++Hr) (hc:Lp call f vs fs.z Hs Post)
  (hw:∀ v z' H',zle fs.z z'→Post v z' H'→FL call B l (fs.res d v z' (H'++Hr)) Q):FL call B (⟨some d,none,.callv t args⟩::l) fs Q:=fun st r=>by
 have hh:=r.hold
 rw [e] at hh
 obtain ⟨v,mem',nx',z',H',h1,h2,h3,h4,h5,h6,h7,h8⟩:=hc st.mem st.nx hh.left
 refine O0 (bKa (v:=v) (mem:=mem') (nx:=nx') ?_) ?_
 ·simp only [Zg,callee,r.ev,ht,r.evf,ha,h1]
 exact hw v z' H' h5 h8 _ ((r.callR e h2 h3 h4 h5 h6 h7).put d v)
theorem bH3 {t:Od} {f:Nat} {us cs:List (Bool×List C)} {args:List Od} {vs:List AV} {Post:AV→dA→Prop} (ht:fs.ev t=.c (.fn f us cs)) (ha:AV.cs us++(args.map fs.ev++AV.cs cs)=vs) (hc:FC call f vs fs.z Post)
  (hw:∀ v z',zle fs.z z'→Post v z'→FL call B l (fs.res d v z' fs.H) Q):FL call B (⟨some d,none,.callv t args⟩::l) fs Q:=
 bDx (Hs:=[]) (Hr:=fs.H) ht ha rfl hc fun v z' H' hz ⟨h1,h2⟩=>by subst h1;exact hw v z' hz h2
end
def aOd:List AV→Nat→AV
 | [],_=>.any
 | v::l,i=>match i with
  | 0=>v
  | i+1=>aOd l i
theorem bES:∀ (l:List AV) (k:Nat) (t:Tr AV) (mem:Tr mU) (nx i:Nat),(⟨Hy k t l,mem,nx⟩:AS).get i=if k≤i∧i<k+l.length then aOd l (i - k) else (⟨t,mem,nx⟩:AS).get i:=by
  intro l
  induction l with
  | nil =>
    intro k t mem nx i
    rw [if_neg (by simp only [List.length_nil];omega)]
    rfl
  | cons v l ih =>
    intro k t mem nx i
    have e:Hy k t (v::l)=Hy (k+1) (Tr.put (k+1) t k (some v)) l:=rfl
    rw [e,ih]
    have hg:(⟨Tr.put (k+1) t k (some v),mem,nx⟩:AS).get i=if k=i then v else (⟨t,mem,nx⟩:AS).get i:=get_put ⟨t,mem,nx⟩ k i v
    by_cases h:k+1≤i∧i<k+1+l.length
    · rw [if_pos h, if_pos (by simp; omega)]
      obtain ⟨j,hj⟩:∃ j,i - k=j+1:=⟨i - k - 1,by omega⟩
      rw [hj]
      show aOd l (i - (k+1))=aOd l j
      congr 1
      omega
    · rw [if_neg h,hg]
      by_cases h2:k=i
      · subst h2
        rw [if_pos rfl,if_pos (by simp),Nat.sub_self]
        rfl
      · rw [if_neg h2,if_neg (by simp;omega)]
theorem aYG (args:List AV) (mem:Tr mU) (nx i:Nat):(⟨Hy 0 .nil args,mem,nx⟩:AS).get i=aOd args i:=by
  rw [bES]
  by_cases h:i<args.length
  · rw [if_pos (by omega)];rfl
  · rw [if_neg (by omega)]
    have:∀ (l:List AV) (i:Nat),l.length≤i→aOd l i=.any:=by
      intro l
      induction l with
      | nil=>intro i _;rfl
      | cons v l ih =>
        intro i hi
        cases i with
        | zero=>simp at hi
        | succ i=>exact ih i (by simpa using hi)
    rw [this args i (by omega)]
    simp [AS.get,Tr.get_nil]
inductive bPu (fs:Sf):RR→AV→Prop where
 | t (i:Nat) (v:AV) (h:fs.e i=v):bPu fs (.t i) v
 | c (i:Nat) (g:Bool) (s b o ty:Nat) (cs:List C) (v:AV) (hp:fs.e i=.c (.ptr b o)) (hm:HA.blk b (.cells ty cs)∈fs.H) (hl:o+s≤cs.length) (hv:I0 g ((cs.drop o).take s)=v):bPu fs (.c i g s) v
inductive Vf (fs:Sf):List RR→List AV→Prop where
 | nil:Vf fs [] []
 | cons (r:RR) (v:AV) (rs:List RR) (vs:List AV) (h:bPu fs r v) (t:Vf fs rs vs):Vf fs (r::rs) (v::vs)
theorem rn {fs:Sf}:Vf fs [] []:=.nil
theorem rt {fs:Sf} {i:Nat} {v:AV} {rs:List RR} {vs:List AV} (h:fs.e i=v) (t:Vf fs rs vs):Vf fs (.t i::rs) (v::vs):=.cons _ _ _ _ (.t i v h) t
theorem rc {fs:Sf} {i:Nat} {g:Bool} {s b o ty:Nat} {cs:List C} {v:AV} {rs:List RR} {vs:List AV} (hp:fs.e i=.c (.ptr b o)) (hm:HA.blk b (.cells ty cs)∈fs.H) (hl:o+s≤cs.length) (hv:I0 g ((cs.drop o).take s)=v) (t:Vf fs rs vs):Vf fs (.c i g s::rs) (v::vs):=.cons _ _ _ _ (.c i g s b o ty cs v hp hm hl hv) t
def aTD:List AV→AV
 | [v]=>v
 | vs=>.tup vs
theorem bKb {B:pK} {fs:Sf} {st:AS} (r:Rf B fs st) {ts:List RR} {vs:List AV} (h:Vf fs ts vs):aXU st ts=some vs:=by
 induction h with
 | nil=>rfl
 | cons q v rs vs h t ih =>
  have h1:aZQ st q=some v:=by
   cases h with
   | t i v h=>simp only [aZQ,r.env,h]
   | c i g s b o ty cs v hp hm hl hv =>
    have:=r.hold.h _ hm
    simp only [HA.ok] at this
    simp only [aZQ,r.env,hp,AS.read,AS.blk,this]
    rw [need_pos hl]
    simp only [hv]
  simp only [aXU,h1,ih]
theorem bE6 {B:pK} {fs:Sf} {st:AS} (r:Rf B fs st) {ts:List RR} {vs:List AV} (h:Vf fs ts vs):aV9 st ts=some (aTD vs):=by
 unfold aV9
 rw [bKb r h]
 match vs with
 | []=>rfl
 | [v]=>rfl
 | _::_::_=>rfl
theorem Eh {H H':List HA} (h:H'.Sublist H):(pR H').Sublist (pR H):=by
 induction h with
 | slnil=>exact List.Sublist.refl _
 | cons a h ih=>rw [iJ];exact ih.trans (List.sublist_append_right _ _)
 | cons_cons a h ih=>rw [iJ,iJ];exact (List.Sublist.refl _).append ih
theorem Yt.sub {z:dA} {H H':List HA} {m:Tr mU} {nx:Nat} (h:Yt z H m nx) (hs:H'.Sublist H):Yt z H' m nx:=
 ⟨fun b k hb=>⟨(h.z b k hb).1,(h.z b k hb).2.1,fun h4=>(h.z b k hb).2.2 ((Eh hs).subset h4)⟩,fun a ha=>h.h a (hs.subset ha),fun b hb=>h.lt b ((Eh hs).subset hb),h.nd.sublist (Eh hs)⟩
def aZq (ts:List RR) (Post:AV→dA→List HA→Prop):Exit→Sf→Prop:=fun x fs=>(x=.ret∨x=.normal)∧∃ vs H',Vf fs ts vs∧H'.Sublist fs.H∧Post (aTD vs) fs.z H'
theorem aDK {T:Tr FE} {hand:eE} {k0 k f:Nat} {e:FE} {args:List AV} {z:dA} {H:List HA} {Post:AV→dA→List HA→Prop} (hT:T.get f=some e) (hk:1≤k) (hl:args.length≤e.n)
  (h:∀ B j,k=j+1→FX (evF T hand k0 j) k0 B e.x ⟨aOd args,z,H⟩ (aZq e.ts Post)):Lp (evF T hand k0 k) f args z H Post:=fun mem nx hh=>by
 obtain ⟨j,rfl⟩:∃ j,k=j+1:=⟨k - 1,by omega⟩
 have r0:Rf ⟨mem,nx,z,pR H⟩ ⟨aOd args,z,H⟩ ⟨Hy 0 .nil args,mem,nx⟩:=
  ⟨fun i=>aYG args mem nx i,hh,Nat.le_refl _,fun b _ _=>rfl,fun b hb=>.inr hb,⟨fun _ _ h=>h⟩,fun b k hb=>.inl hb⟩
 have:=h _ j rfl _ r0
 simp only [evF,hT,Nat.ble_eq_true_of_le hl]
 cases he:vS (evF T hand k0 j) k0 e.x ⟨Hy 0 .nil args,mem,nx⟩ with
 | none=>rw [he] at this;exact this.elim
 | some p =>
  obtain ⟨x,st⟩:=p
  rw [he] at this
  obtain ⟨fs,r,hx,vs,H',h1,h2,h3⟩:=this
  have hf:fin e st=some (aTD vs,st.mem,st.nx):=by simp only [fin,bE6 r h1]
  refine ⟨aTD vs,st.mem,st.nx,fs.z,H',?_,r.le,r.old,r.hold.sub h2,r.zle,r.zin,fun b hb=>r.own b ((Eh h2).subset hb),h3⟩
  rcases hx with rfl | rfl<;>exact hf
theorem eA {T:Tr FE} {hand:eE} {k0 k f:Nat} {e:FE} {args:List AV} {z:dA} {Post:AV→dA→Prop} (hT:T.get f=some e) (hk:1≤k) (hl:args.length≤e.n)
  (h:∀ B j,k=j+1→FX (evF T hand k0 j) k0 B e.x ⟨aOd args,z,[]⟩ (aZq e.ts fun v z' H'=>H'=[]∧Post v z')):FC (evF T hand k0 k) f args z Post:=aDK hT hk hl h
theorem rQ {fs:Sf} {ts:List RR} {vs:List AV} {x:Exit} {Post:AV→dA→Prop} (hx:x=.ret∨x=.normal) (h:Vf fs ts vs) (hp:Post (aTD vs) fs.z):aZq ts (fun v z' H'=>H'=[]∧Post v z') x fs:=⟨hx,vs,[],h,List.nil_sublist _,rfl,hp⟩
open Go.RowKit
open Go.Eng (Od need need_pos iE kN binV binBV)
def mU.cs:mU→Option (List C)
 | .cells _ cs=>some cs
 | .ro cs=>some cs
 | _=>none
def At (z:dA) (b p:Nat) (cs:List C):Prop:=∃ k full,z b k∧k.cs=some full∧p+cs.length≤full.length∧(full.drop p).take cs.length=cs
theorem At.mono {z z':dA} {b p:Nat} {cs:List C} (h:At z b p cs) (hz:zle z z'):At z' b p cs:=by
 obtain ⟨k,full,h1,h2⟩:=h
 exact ⟨k,full,hz _ _ h1,h2⟩
abbrev RT (α:Type):=dA→List C→α→Prop
class RMono {α:Type} (R:RT α):Prop where
 mono:∀ {z z':dA} {cs:List C} {a:α},zle z z'→R z cs a→R z' cs a
inductive SZ {α:Type} (size:Nat) (R:RT α) (z:dA):AV→List α→Prop where
 | nil:SZ size R z rC []
 | em:SZ size R z (.c .em) []
 | sl (b o n:Nat) (k:mU) (full:List C) (l:List α) (hl:l.length=n) (hm:n≤9223372036854775807) (hz:z b k) (hk:k.cs=some full) (hf:o+n * size≤full.length) (h:∀ (i:Nat) (a:α),l[i]? = some a→R z ((full.drop (o+i * size)).take size) a):SZ size R z (.c (.sl b o n size)) l
section
variable {α:Type} {size:Nat} {R:RT α} [RMono R] {z z':dA} {v:AV} {l:List α}
theorem SZ.mono (h:SZ size R z v l) (hz:zle z z'):SZ size R z' v l:=by
 cases h with
 | nil=>exact .nil
 | em=>exact .em
 | sl b o n k full l hl hm hz' hk hf h=>exact .sl b o n k full l hl hm (hz _ _ hz') hk hf fun i a hi=>RMono.mono hz (h i a hi)
theorem SZ.len {α:Type} {size:Nat} {R:RT α} {z:dA} {v:AV} {l:List α} (h:SZ size R z v l):lenOf v=some l.length:=by cases h with
 | nil=>rfl
 | em=>rfl
 | sl b o n k full l hl hm hz' hk hf h=>rw [hl];rfl
theorem SZ.le {α:Type} {size:Nat} {R:RT α} {z:dA} {v:AV} {l:List α} (h:SZ size R z v l):l.length≤9223372036854775807:=by cases h with
 | nil=>simp
 | em=>simp
 | sl b o n k full l hl hm hz' hk hf h=>omega
theorem SZ.one {α:Type} {size:Nat} {R:RT α} {z:dA} {v:AV} {l:List α} (h:SZ size R z v l):∃ c,v=.c c∧pO c c=true:=by cases h with
 | nil=>exact ⟨_,rfl,by simp [pO]⟩
 | em=>exact ⟨_,rfl,by simp [pO]⟩
 | sl b o n k full l hl hm hz' hk hf h=>exact ⟨_,rfl,by simp [pO]⟩
end
theorem aTC (k:IntKind) (n:Int):aXE (.int k n) (.int k n)=true:=by simp [aXE]
theorem bRG (s:ByteArray):aXE (.string s) (.string s)=true:=by
 simp [aXE]
theorem bEV:pO (.v (.slice none 0 0)) (.v (.slice none 0 0))=true:=by simp [pO]
def CZ {α:Type} (size:Nat) (R:RT α) (z:dA) (c:C) (l:List α):Prop:=SZ size R z (.c c) l
theorem CZ.mono {α:Type} {size:Nat} {R:RT α} [RMono R] {z z':dA} {c:C} {l:List α} (h:CZ size R z c l) (hz:zle z z'):CZ size R z' c l:=SZ.mono h hz
theorem CZ.le {α:Type} {size:Nat} {R:RT α} {z:dA} {c:C} {l:List α} (h:CZ size R z c l):l.length≤9223372036854775807:=SZ.le h
theorem CZ.refl {α:Type} {size:Nat} {R:RT α} {z:dA} {c:C} {l:List α} (h:CZ size R z c l):pO c c=true:=by
 obtain ⟨c',h1,h2⟩:=SZ.one h
 injection h1 with h1
 rw [h1];exact h2
def RS:RT ByteArray:=fun _ cs s=>cs=[.v (.string s)]
instance:RMono RS:=⟨fun _ h=>h⟩
theorem aZN {st:AS} {b:Nat} {k:mU} {full:List C} (h:st.mem.get b=some k) (hk:k.cs=some full):st.blk b=some full:=by
 unfold AS.blk
 rw [h]
 cases k with
 | cells ty cs=>exact hk
 | ro cs=>exact hk
 | sit _ _=>cases hk
 | mp _ _=>cases hk
 | mit _ _ _ _=>cases hk
 | mcur _ _ _=>cases hk
theorem bJD {st:AS} {z:dA} (hz:∀ b k,z b k→st.mem.get b=some k) {b p:Nat} {cs:List C} (h:At z b p cs) {off size:Nat} (hl:off+size≤cs.length):st.read b (p+off) size=some ((cs.drop off).take size):=by
 obtain ⟨k,full,h1,h2,h3,h4⟩:=h
 unfold AS.read
 rw [aZN (hz _ _ h1) h2]
 simp only
 rw [need_pos (by omega)]
 congr 1
 rw [← h4,List.drop_take,List.take_take,List.drop_drop]
 congr 1
 omega
section
variable {call:eE} {B:pK} {fs:Sf} {l:List I} {Q:Sf→Prop} {d:Nat}
theorem dE {α:Type} {size:Nat} {R:RT α} {zz:dA} {x i:Od} {v:AV} {r:List α} {kd:IntKind} {n:Int} (hx:fs.ev x=v) (hi:fs.ev i=.c (.v (.int kd n))) (hr:SZ size R zz v r) (j:Nat) (hj:n=(j:Int)) (a:α) (h:r[j]? = some a)
  (hw:∀ b p cs,At zz b p cs→R zz cs a→FL call B l (fs.put d (.c (.ptr b p))) Q):FL call B (⟨some d,none,.iad size x i⟩::l) fs Q:=by
 have hlt:=(List.getElem?_eq_some_iff.1 h).1
 cases hr with
 | nil=>simp at hlt
 | em=>simp at hlt
 | sl b o n k full l hl hm hz' hk hf hh =>
   have hle:o+j * size+size≤full.length:=by
    have:(j+1) * size≤n * size:=Nat.mul_le_mul_right _ (by omega)
    rw [Nat.add_mul,Nat.one_mul] at this
    omega
   have hcl:((full.drop (o+j * size)).take size).length=size:=by simp;omega
   exact oO hx hi j hj (by omega) (hw b (o+j * size) _ ⟨k,full,hz',hk,by rw [hcl];exact hle,by rw [hcl]⟩ (hh j a h))
theorem nQ {agg:Bool} {size:Nat} {x:Od} {b q p off:Nat} {cs:List C} {v:AV} (hx:fs.ev x=.c (.ptr b q)) (ha:At fs.z b p cs) (hq:q=p+off) (hl:off+size≤cs.length) (hv:I0 agg ((cs.drop off).take size)=v) (hw:FL call B l (fs.put d v) Q):FL call B (⟨some d,none,.load agg size x⟩::l) fs Q:=
  aGg (fun _ => rfl) (fun st r => by
    subst hq
    simp only [bQ,r.ev,hx]
    rw [bJD (fun b k hb=>(r.hold.z b k hb).1) ha hl]
    simp only [hv]) hw
theorem bKB {x:Od} {s:ByteArray} (hx:fs.ev x=.c (.v (.string s))) (hw:FL call B l (fs.put d (.c (.v (.int .i64 s.size)))) Q):FL call B (⟨some d,none,.len true x⟩::l) fs Q:=
 aGg (fun _=>rfl) (fun st r=>by simp only [bQ,r.ev,hx];rfl) hw
theorem aS {α:Type} {size:Nat} {R:RT α} {zz:dA} {x:Od} {v:AV} {r:List α} (hx:fs.ev x=v) (hr:SZ size R zz v r) (hw:FL call B l (fs.put d (.c (.v (.int .i64 r.length)))) Q):FL call B (⟨some d,none,.len false x⟩::l) fs Q:=aCT hx hr.len hw
theorem bPR {l2:List I} {J:Sf→Prop} (h:FL call B l fs J) (g:∀ fs',J fs'→FL call B l2 fs' Q):FL call B (l++l2) fs Q:=fun st r=>by
 have key:∀ (l:List I) (st:AS) (P:AS→Prop),Wp (Jb call l st) P→(∀ st',P st'→Wp (Jb call l2 st') fun st'=>∃ fs',Rf B fs' st'∧Q fs')→Wp (Jb call (l++l2) st) fun st'=>∃ fs',Rf B fs' st'∧Q fs':=by
  intro l
  induction l with
  | nil=>intro st P h1 h2;exact h2 st h1
  | cons i l ih =>
   intro st P h1 h2
   simp only [List.cons_append,Jb] at h1 ⊢
   cases he:evI call i st with
   | none=>rw [he] at h1;exact h1.elim
   | some st1=>rw [he] at h1;exact ih st1 P h1 h2
 exact key l st _ (h st r) fun st' ⟨fs',r',q⟩=>g fs' q st' r'
end
def CL {α:Type} (size:Nat) (R:RT α) (z:dA) (cs:List C) (l:List α):Prop:=cs.length=l.length * size∧∀ (i:Nat) (a:α),l[i]? = some a→((cs.drop (i * size)).take size).length=size∧R z ((cs.drop (i * size)).take size) a
section
variable {α:Type} {size:Nat} {R:RT α} {z z':dA} {cs c:List C} {l:List α} {a:α}
theorem CL.nil:CL size R z [] ([]:List α):=⟨by simp,fun i a h=>by simp at h⟩
theorem CL.mono [RMono R] (h:CL size R z cs l) (hz:zle z z'):CL size R z' cs l:=⟨h.1,fun i a hi=>⟨(h.2 i a hi).1,RMono.mono hz (h.2 i a hi).2⟩⟩
theorem CL.append {cs':List C} {l':List α} (h:CL size R z cs l) (g:CL size R z cs' l'):CL size R z (cs++cs') (l++l'):=by
 refine ⟨by rw [List.length_append,List.length_append,h.1,g.1,Nat.add_mul],fun i a hi=>?_⟩
 rw [List.getElem?_append] at hi
 split at hi
 ·rename_i hlt
  have h1:=h.2 i a hi
  have h2:i * size+size≤cs.length:=by
   rw [h.1]
   have:(i+1) * size≤l.length * size:=Nat.mul_le_mul_right _ hlt
   rw [Nat.add_mul,Nat.one_mul] at this
   exact this
  have e:((cs++cs').drop (i * size)).take size=(cs.drop (i * size)).take size:=by
   rw [List.drop_append_of_le_length (by omega),List.take_append_of_le_length (by rw [List.length_drop];omega)]
  rw [e]
  exact h1
 rename_i hlt
 have h1:=g.2 _ a hi
 have e:(cs++cs').drop (i * size)=cs'.drop ((i - l.length) * size):=by
  rw [List.drop_append,h.1]
  have h3:l.length * size≤i * size:=Nat.mul_le_mul_right _ (by omega)
  rw [List.drop_eq_nil_of_le (by rw [h.1];exact h3),List.nil_append,Nat.sub_mul]
 rw [e]
 exact h1
theorem CL.one (hc:c.length=size) (h:R z c a):CL size R z c [a]:=by
 refine ⟨by simp [hc],fun i a' hi=>?_⟩
 cases i with
 | zero =>
  simp at hi
  subst hi
  have e:(c.drop (0 * size)).take size=c:=by simp [← hc]
  rw [e]
  exact ⟨hc,h⟩
 | succ i=>simp at hi
theorem CL.sz {b ty n:Nat} (h:CL size R z cs l) (hn:l.length=n) (hm:n≤9223372036854775807) (hz:z b (.cells ty cs)):SZ size R z (.c (.sl b 0 n size)) l:=by
 refine .sl b 0 n (.cells ty cs) cs l hn hm hz rfl (by rw [h.1,hn];omega) fun i a hi=>?_
 rw [Nat.zero_add]
 exact (h.2 i a hi).2
theorem SZ.src {v:AV} {zz:dA} {st:AS} (hz:∀ b k,zz b k→st.mem.get b=some k) (h:SZ size R zz v l):∃ news,st.row size v=some (l.length,news)∧CL size R zz news l:=by
 cases h with
 | nil=>exact ⟨[],rfl,CL.nil⟩
 | em=>exact ⟨[],rfl,CL.nil⟩
 | sl b o n k full l hl hm hz' hk hf hh =>
  refine ⟨(full.drop o).take (n * size),?_,?_,fun i a hi=>?_⟩
  ·simp only [AS.row,AS.read,aZN (hz _ _ hz') hk]
   rw [need_pos hf]
   simp only
   rw [need_pos trivial,hl]
  ·rw [List.length_take,List.length_drop,hl];omega
  have hlt:=(List.getElem?_eq_some_iff.1 hi).1
  have hle:i * size+size≤n * size:=by
   have:(i+1) * size≤n * size:=Nat.mul_le_mul_right _ (by omega)
   rw [Nat.add_mul,Nat.one_mul] at this
   exact this
  have e:((((full.drop o).take (n * size)).drop (i * size)).take size)=(full.drop (o+i * size)).take size:=by
   rw [List.drop_take,List.take_take,List.drop_drop]
   congr 1
   omega
  rw [e]
  refine ⟨?_,hh i a hi⟩
  rw [List.length_take,List.length_drop]
  omega
end
section
variable {call:eE} {B:pK} {fs:Sf} {l:List I} {Q:Sf→Prop} {d:Nat}
theorem aWt {α:Type} {R:RT α} {ty size bytes n:Nat} {zero:List Value} {x y:Od} {u v:AV} {cs:List C} {r:List α} {H':AV→List C→List HA} (hx:fs.ev x=u) (hy:fs.ev y=v) (hs:SZ size R fs.z v r) (hr:∀ u' news,By fs.H (.row u ty size n cs) (.row u' ty size (n+r.length) (cs++news)) (H' u' news))
  (hb:(n+r.length) * bytes≤140737488355328) (hn:n+r.length≤9223372036854775807) (hw:∀ (c':C) (_:pO c' c'=true) news,CL size R fs.z news r→FL call B l (fs.res d (.c c') fs.z (H' (.c c') news)) Q):FL call B (⟨some d,none,.app ty size bytes zero x y⟩::l) fs Q:=fun st rf=>by
 obtain ⟨news,h1,h2⟩:=hs.src (st:=st) fun b k hb=>(rf.hold.z b k hb).1
 exact aZ0 rf hx hy h1 (fun u'=>hr u' news) h2.1 hb hn (fun c' hc=>hw c' hc news h2)
theorem mV {ty ty' size bytes n b:Nat} {zero:List Value} {x y:Od} {u:AV} {cs news:List C} {m:Nat} {H':AV→List HA} (hx:fs.ev x=u) (hy:fs.ev y=.c (.sl b 0 m size)) (hm:HA.blk b (.cells ty' news)∈fs.H) (hl:news.length=m * size) (hr:∀ u',By fs.H (.row u ty size n cs) (.row u' ty size (n+m) (cs++news)) (H' u'))
  (hb:(n+m) * bytes≤140737488355328) (hn:n+m≤9223372036854775807) (hw:∀ c':C,pO c' c'=true→FL call B l (fs.res d (.c c') fs.z (H' (.c c'))) Q):FL call B (⟨some d,none,.app ty size bytes zero x y⟩::l) fs Q:=
 bPj hx hy (bK1 hm (by omega) (by rw [← hl];simp)) hr hl hb hn hw
theorem Bd {α:Type} {size:Nat} {R:RT α} [RMono R] {k:Nat} {c:XC} {Q:Exit→Sf→Prop} {u:AV} {ty n:Nat} {cs:List C} {r:List α} {p q:List HA} (e:fs.H=p++.row u ty size n cs::q) (hc:CL size R fs.z cs r) (hn:r.length=n) (hm:n≤9223372036854775807)
    (hw:∀ z',zle fs.z z'→SZ size R z' u r→FX call k B c (fs.frz z' (p++q)) Q):FX call k B c fs Q:=fun st rf=>by
  obtain ⟨g1,g2⟩:=rf.hold.h (.row u ty size n cs) (by rw [e];simp)
  rcases g2 with ⟨h0,rfl⟩ | ⟨b,rfl,h3⟩
  · have hr0 : r = [] := List.eq_nil_of_length_eq_zero (by omega)
    subst hr0
    refine hw fs.z (zle.refl _) .nil st ?_
    have hsub:(p++q).Sublist fs.H:=by rw [e];exact (List.Sublist.refl p).append (List.sublist_cons_self _ _)
    exact ⟨rf.env,rf.hold.sub hsub,rf.le,rf.old,fun b hb=>rf.own b ((Eh hsub).subset hb),rf.zle,rf.zin⟩
  · have h1 := rf.frz (p := p) (q := q) (b := b) (k := .cells ty cs) (a := .row (.c (.sl b 0 n size)) ty size n cs) e rfl (fun m hm => by
      obtain ⟨_,hm⟩:=hm
      rcases hm with ⟨_,hm⟩ | ⟨b',hb',hm⟩
      · cases hm
      · injection hb' with hb';injection hb' with hb';subst hb';exact hm)
    exact hw _ ⟨fun _ _ h=>.inl h⟩ ((hc.mono ⟨fun _ _ h=>.inl h⟩).sz hn hm (.inr ⟨rfl,rfl⟩)) st h1
theorem uG {k:Nat} {c:XC} {Q:Exit→Sf→Prop} {H':List HA} (hs:H'.Sublist fs.H) (hw:FX call k B c (fs.heap H') Q):FX call k B c fs Q:=fun st rf =>
 hw st ⟨rf.env,rf.hold.sub hs,rf.le,rf.old,fun b hb=>rf.own b ((Eh hs).subset hb),rf.zle,rf.zin⟩
theorem vB {size:Nat} {x y:Od} {b o ty:Nat} {cs ds cs':List C} {v:AV} {H':List HA} (hx:fs.ev x=.c (.ptr b o)) (hy:fs.ev y=v) (hv:v.cells? = some ds) (hr:By fs.H (.blk b (.cells ty cs)) (.blk b (.cells ty cs')) H') (he:kN cs o ds=cs') (hs:ds.length=size) (h:o+size≤cs.length)
  (hw:FL call B l (fs.heap H') Q):FL call B (⟨none,none,.store size x y⟩::l) fs Q:=by
 subst he
 exact aGQ hx hy hv hr hs h hw
theorem Rf.row0 {st:AS} (h:Rf B fs st) (ty size:Nat):Rf B (fs.heap (.row rC ty size 0 []::fs.H)) st:=by
 have e:pR (HA.row rC ty size 0 []::fs.H)=pR fs.H:=by rw [iJ];rfl
 refine ⟨h.env,⟨fun b k hb=>?_,fun a ha=>?_,fun b hb=>?_,?_⟩,h.le,h.old,fun b hb=>?_,h.zle,h.zin⟩
 ·show _∧_∧b ∉ pR (HA.row rC ty size 0 []::fs.H)
  rw [e];exact h.hold.z b k hb
 ·rcases List.mem_cons.1 ha with rfl | ha
  ·exact ⟨by simp,.inl ⟨rfl,rfl⟩⟩
  exact h.hold.h a ha
 ·have hb:b∈pR (HA.row rC ty size 0 []::fs.H):=hb
  rw [e] at hb;exact h.hold.lt b hb
 ·show (pR (HA.row rC ty size 0 []::fs.H)).Nodup
  rw [e];exact h.hold.nd
 have hb:b∈pR (HA.row rC ty size 0 []::fs.H):=hb
 rw [e] at hb;exact h.own b hb
theorem oW (ty size:Nat) (hw:FL call B l (fs.heap (.row rC ty size 0 []::fs.H)) Q):FL call B l fs Q:=fun st r=>hw st (r.row0 ty size)
theorem bKO {k:Nat} {c:XC} {Q:Exit→Sf→Prop} (ty size:Nat) (hw:FX call k B c (fs.heap (.row rC ty size 0 []::fs.H)) Q):FX call k B c fs Q:=fun st r=>hw st (r.row0 ty size)
theorem Rf.asrow {st:AS} (h:Rf B fs st) {b ty n size:Nat} {cs:List C} {p q:List HA} (e:fs.H=p++.blk b (.cells ty cs)::q) (hl:cs.length=n * size):Rf B (fs.heap (p++.row (.c (.sl b 0 n size)) ty size n cs::q)) st:=by
 have e2:pR (p++.row (.c (.sl b 0 n size)) ty size n cs::q)=pR fs.H:=by rw [e,jM,jM,iJ,iJ];rfl
 have hb0:=h.hold.h (.blk b (.cells ty cs)) (by rw [e];simp)
 refine ⟨h.env,⟨fun b k hb=>?_,fun a ha=>?_,fun b hb=>?_,?_⟩,h.le,h.old,fun b hb=>?_,h.zle,h.zin⟩
 ·show _∧_∧b ∉ pR (p++.row _ ty size n cs::q)
  rw [e2];exact h.hold.z b k hb
 ·have ha:a∈p++.row (.c (.sl b 0 n size)) ty size n cs::q:=ha
  rcases List.mem_append.1 ha with ha | ha
  ·exact h.hold.h a (by rw [e];simp [ha])
  rcases List.mem_cons.1 ha with rfl | ha
  ·exact ⟨hl,.inr ⟨b,rfl,hb0⟩⟩
  exact h.hold.h a (by rw [e];simp [ha])
 ·have hb:b∈pR (p++.row (.c (.sl _ 0 n size)) ty size n cs::q):=hb
  rw [e2] at hb;exact h.hold.lt b hb
 ·show (pR (p++.row _ ty size n cs::q)).Nodup
  rw [e2];exact h.hold.nd
 have hb:b∈pR (p++.row (.c (.sl _ 0 n size)) ty size n cs::q):=hb
 rw [e2] at hb;exact h.own b hb
theorem Dq {b ty n size:Nat} {cs:List C} {p q:List HA} (e:fs.H=p++.blk b (.cells ty cs)::q) (hl:cs.length=n * size) (hw:FL call B l (fs.heap (p++.row (.c (.sl b 0 n size)) ty size n cs::q)) Q):FL call B l fs Q:=fun st r=>hw st (r.asrow e hl)
end
open Go.RowKit
open Go.Eng (Od need need_pos iE kN binV binBV)
structure DS where
 fs:Sf
 T:dA
 tag:Nat
 last:Nat
 pj:List Nat
 lj:List Nat
def O9.hd (a:O9):Tr mU:=match a.mems with
 | (_,m)::_=>m
 | []=>.nil
def O9.seq (a:O9):AS:=⟨a.env,ovl a.hd a.pend,a.nx⟩
structure DRf (B:pK) (D:DS) (a:O9):Prop where
 rf:Rf B D.fs a.seq
 hd:∃ m ml,a.mems=(D.tag,m)::ml
 t0:∀ p,p∈a.mems→∀ b k,D.T b k→p.2.get b=some k
 tlt:∀ b k,D.T b k→b<a.nx
 np:∀ p,p∈a.pend→∀ k,¬ D.T p.2.1 k
 fl:∀ p,p∈a.fl→p.1∈D.lj∧∀ m:Tr mU,(∀ b k,D.T b k→m.get b=some k)→bQ p.2.1 ⟨p.2.2.1,m,0⟩=some p.2.2.2∧Iu p.2.2.2 p.2.2.2=true
 last:a.last=D.last
 pj:a.pend.map (·.1)=D.pj
 plt:∀ p,p∈a.pend→p.2.1<a.nx
def FD (call:eE) (B:pK) (an:List Nat) (j:Nat) (l:List D) (D:DS) (Q:Sf→Prop):Prop:=∀ a,DRf B D a→Wd (aE5 call an j l a) fun a'=>∃ fs',Rf B fs' a'.fin∧Q fs'
def tz (z:dA) (H:List HA):dA:=fun b k=>z b k∨HA.blk b k∈H
def GK (fs:Sf) (i:I):Prop:=match i.g with
 | none=>True
 | some (s,want)=>fs.e s=.c (.v (.bool want))
section
variable {call:eE} {B:pK} {an:List Nat} {j:Nat} {l:List D} {D:DS} {Q:Sf→Prop} {a:O9}
theorem DRf.seqget (h:DRf B D a) {m:Tr mU} {ml:List (Nat×Tr mU)} (hm:a.mems=(D.tag,m)::ml):a.hd=m:=by simp only [O9.hd,hm]
theorem bIS (h:DRf B D a):a.fin=a.seq:=by
 obtain ⟨m,ml,hm⟩:=h.hd
 simp only [O9.fin,O9.seq,O9.hd,hm]
theorem bQ0 (h:Q D.fs):FD call B an j [] D Q:=fun a r=>bMF ⟨D.fs,by rw [bIS r];exact r.rf,h⟩
theorem bAc {k:Nat} {fs:Sf} {ds:List CE.D} {Q:Exit→Sf→Prop} (h:FD call B an 0 ds ⟨fs,tz fs.z fs.H,0,0,[],[]⟩ (Q .normal)):FX call k B (.draw ds an) fs Q:=fun st r=>by
  refine bAO ?_
  refine h _ ⟨r,⟨_,_,rfl⟩,fun p hp b kk hb=>?_,fun b kk hb=>?_,fun p hp=>by simp at hp,fun p hp=>by simp at hp,rfl,rfl,fun p hp=>by simp at hp⟩
  · have : p = (0, st.mem) := by simpa using hp
    subst this
    rcases hb with hb | hb
    · exact (r.hold.z b kk hb).1
    · exact r.hold.h _ hb
  · rcases hb with hb | hb
    · exact (r.hold.z b kk hb).2.1
    · exact r.hold.lt b (uY.2 ⟨_,hb,by simp [HA.fp]⟩)
theorem bIK {k:Nat} {fs:Sf} {ds:List CE.D} {c:XC} {Q:Exit→Sf→Prop} (h:FD call B an 0 ds ⟨fs,tz fs.z fs.H,0,0,[],[]⟩ (fun fs'=>FX call k B c fs' Q)):FX call k B (.seq (.draw ds an) c) fs Q:=aT (bAc h)
theorem aFS {d:CE.D} {q:Nat} (h:q∈d.sl):(a.see d).get q=a.seq.get q:=by
 simp only [AS.get,O9.see,O9.seq]
 rw [aYu h]
theorem aF5 (r:Rf B D.fs a.seq) {d:CE.D} (hg:GK D.fs d.i):gOk d.i (a.see d)=some true:=by
 unfold GK at hg
 unfold gOk
 split at hg
 ·rename_i h;rw [h]
 rename_i s want h
 rw [h]
 simp only
 rw [aFS (by simp only [CE.D.sl,h];exact List.mem_cons_self ..),r.env,hg]
 simp [gd]
theorem bNG (r:Rf B D.fs a.seq) {d:CE.D} {s:Nat} {want:Bool} (h:d.i.g=some (s,want)) (hg:D.fs.e s=.c (.v (.bool (!want)))∨D.fs.e s=.tup []):gOk d.i (a.see d)=some false:=by
 unfold gOk
 rw [h]
 simp only
 rw [aFS (by simp only [CE.D.sl,h];exact List.mem_cons_self ..),r.env]
 rcases hg with hg | hg<;>rw [hg]<;>simp [gd]
theorem J8 {d:CE.D} {q:Nat} (h:q∈d.i.o.sl):q∈d.sl:=by
 unfold CE.D.sl
 split
 ·exact List.mem_cons_of_mem _ h
 exact h
def aS5:lS→Bool
 | .mv _ | .pick _ _ _ | .bin _ _ _ | .binB _ _ _ | .un _ _ | .cvi _ _ | .fad _ _ | .fld _ _ _ _ | .iad _ _ _ | .ext _ _ | .len _ _ | .build _ _ | .mkf _ _ _ | .nilck _ | .binA _ _ _ _=>true
 | _=>false
theorem Og {env:Tr AV} {ls:List Nat} {m m':Tr mU} {n n':Nat} {x:Od} (h:∀ q,q∈Od.sl x→q∈ls):(⟨mS env ls,m,n⟩:AS).ev x=(⟨env,m',n'⟩:AS).ev x:=by
 cases x with
 | t i=>simp only [AS.ev,AS.get];rw [aYu (h i (by simp [Od.sl]))]
 | _=>rfl
theorem bJT {o:lS} (hp:aS5 o=true) {env:Tr AV} {ls:List Nat} {m m':Tr mU} {n n':Nat} (h:∀ q,q∈o.sl→q∈ls):bQ o ⟨mS env ls,m,n⟩=bQ o ⟨env,m',n'⟩:=by
 have hev:∀ x,(∀ q,q∈Od.sl x→q∈o.sl)→(⟨mS env ls,m,n⟩:AS).ev x=(⟨env,m',n'⟩:AS).ev x:=fun x hx=>Og fun q hq=>h q (hx q hq)
 cases o<;>simp only [aS5,Bool.false_eq_true] at hp
 case mv x=>simp only [bQ,hev x (fun q hq=>hq)]
 case pick c x y=>simp only [bQ,hev c (fun q hq=>by simp [lS.sl,hq]),hev x (fun q hq=>by simp [lS.sl,hq]),hev y (fun q hq=>by simp [lS.sl,hq])]
 case bin op x y=>simp only [bQ,hev x (fun q hq=>by simp [lS.sl,hq]),hev y (fun q hq=>by simp [lS.sl,hq])]
 case binB op x y=>simp only [bQ,hev x (fun q hq=>by simp [lS.sl,hq]),hev y (fun q hq=>by simp [lS.sl,hq])]
 case binA ne ks x y=>simp only [bQ,hev x (fun q hq=>by simp [lS.sl,hq]),hev y (fun q hq=>by simp [lS.sl,hq])]
 case un op x=>simp only [bQ,hev x (fun q hq=>hq)]
 case nilck x=>simp only [bQ,hev x (fun q hq=>hq)]
 case cvi k x=>simp only [bQ,hev x (fun q hq=>hq)]
 case fad off x=>simp only [bQ,hev x (fun q hq=>hq)]
 case fld g s off x=>simp only [bQ,hev x (fun q hq=>hq)]
 case iad s x y=>simp only [bQ,hev x (fun q hq=>by simp [lS.sl,hq]),hev y (fun q hq=>by simp [lS.sl,hq])]
 case ext x i=>simp only [bQ,hev x (fun q hq=>hq)]
 case len s x=>cases s<;>simp only [bQ,hev x (fun q hq=>hq)]
 case build zero parts =>
  have key:∀ (l:List (Nat×Nat×Od)) (cs:List C),(∀ p∈l,∀ q∈Od.sl p.2.2,q∈ls)→V0 (⟨mS env ls,m,n⟩:AS) cs l=V0 (⟨env,m',n'⟩:AS) cs l:=by
   intro l
   induction l with
   | nil=>intro cs _;rfl
   | cons p l ih =>
    intro cs hl
    obtain ⟨i,k,x⟩:=p
    simp only [V0]
    rw [Og (m':=m') (n':=n') (fun q hq=>hl _ (List.mem_cons_self ..) q hq)]
    cases ((⟨env,m',n'⟩:AS).ev x).cells? with
    | none=>rfl
    | some ds=>simp only [ih _ fun p hp=>hl p (List.mem_cons_of_mem _ hp)]
  simp only [bQ]
  rw [key parts _ fun p hp q hq=>h q ?_]
  simp only [lS.sl,Od.sls,List.mem_flatMap,List.mem_map]
  exact ⟨p.2.2,⟨p,hp,rfl⟩,hq⟩
 case mkf f xs ys =>
  have key:∀ (l:List Od),(∀ x∈l,∀ q∈Od.sl x,q∈ls)→I2 (⟨mS env ls,m,n⟩:AS) l=I2 (⟨env,m',n'⟩:AS) l:=by
   intro l
   induction l with
   | nil=>intro _;rfl
   | cons x l ih =>
    intro hl
    simp only [I2]
    rw [Og (m':=m') (n':=n') (fun q hq=>hl _ (List.mem_cons_self ..) q hq),ih fun p hp=>hl p (List.mem_cons_of_mem _ hp)]
  simp only [bQ]
  rw [key xs fun x hx q hq=>h q (by simp only [lS.sl,Od.sls,List.mem_append,List.mem_flatMap];exact .inl ⟨x,hx,hq⟩),key ys fun x hx q hq=>h q (by simp only [lS.sl,Od.sls,List.mem_append,List.mem_flatMap];exact .inr ⟨x,hx,hq⟩)]
theorem aYL {o:lS} (hp:aS5 o=true) (st:AS):eP o st=none∧callee st o=none:=by
 cases o<;>simp only [aS5,Bool.false_eq_true] at hp<;>exact ⟨rfl,rfl⟩
theorem bIZ {i:I} {d:Nat} {af:List Nat} (hd:i.d=some d) (hp:aS5 i.o=true) (hg:GK D.fs i) (h:FL call B [⟨some d,none,i.o⟩] D.fs fun fs'=>FD call B an (j+1) l ⟨fs',D.T,D.tag,D.last,D.pj,D.lj⟩ Q):FD call B an j (⟨i,af⟩::l) D Q:=fun a r=>by
 have h1:=h a.seq r.rf
 simp only [Jb,evI,gOk,Zg,(aYL hp a.seq).2] at h1
 cases hq:bQ i.o a.seq with
 | none =>
  rw [hq,(aYL hp a.seq).1] at h1
  exact h1.elim
 | some v =>
  rw [hq] at h1
  have hq':bQ i.o (a.see ⟨i,af⟩)=some v:=by
   rw [← hq]
   exact bJT hp fun q hq=>J8 (d:=⟨i,af⟩) hq
  have hgo:=aF5 (d:=⟨i,af⟩) r.rf hg
  refine aEI (a':=⟨O1 a.env i.d v,a.nx,a.mems,a.pend,a.fl,a.last⟩) ?_ ?_
  ·simp only [O9.see] at hgo hq'
   simp only [K5]
   rw [show gOk i ⟨mS a.env (CE.D.sl ⟨i,af⟩),.nil,a.nx⟩=some true from hgo]
   simp only [hq']
  obtain ⟨fs',r',hn⟩:=h1
  rw [hd]
  exact hn _ ⟨r',r.hd,r.t0,r.tlt,r.np,r.fl,r.last,r.pj,r.plt⟩
theorem bP3 {i:I} {d s:Nat} {want:Bool} {af:List Nat} (hd:i.d=some d) (hg:i.g=some (s,want)) (hs:D.fs.e s=.c (.v (.bool (!want)))∨D.fs.e s=.tup []) (hw:FD call B an (j+1) l ⟨D.fs.put d (.tup []),D.T,D.tag,D.last,D.pj,D.lj⟩ Q):FD call B an j (⟨i,af⟩::l) D Q:=fun a r=>by
 have hgo:=bNG (d:=⟨i,af⟩) r.rf hg hs
 refine aEI (a':=⟨O1 a.env i.d (.tup []),a.nx,a.mems,a.pend,a.fl,a.last⟩) ?_ ?_
 ·simp only [K5]
  rw [show gOk i ⟨mS a.env (CE.D.sl ⟨i,af⟩),.nil,a.nx⟩=some false from hgo]
 rw [hd]
 exact hw _ ⟨r.rf.put d _,r.hd,r.t0,r.tlt,r.np,r.fl,r.last,r.pj,r.plt⟩
theorem bKk {o:lS} {re:Tr AV} {bits:Nat} {v:AV} (hs:Iu v v=true):∀ {ml:List (Nat×Tr mU)},(∀ p,p∈ml→bQ o ⟨re,p.2,0⟩=some v)→aMz o re bits v ml=true:=by
 intro ml
 induction ml with
 | nil=>intro _;rfl
 | cons p ml ih =>
  intro h
  obtain ⟨x,m⟩:=p
  simp only [aMz,h (x,m) (List.mem_cons_self ..),hs,Bool.true_and]
  cases x with
  | zero=>rfl
  | succ y=>simp only [ih fun p hp=>h p (List.mem_cons_of_mem _ hp),Bool.or_true]
theorem bAl {i:I} {d:Nat} {agg:Bool} {size:Nat} {x:Od} {b o:Nat} {k:mU} {full:List C} {v:AV} {af:List Nat} (hi:i.o=.load agg size x) (hd:i.d=some d) (hg:GK D.fs i) (hx:D.fs.ev x=.c (.ptr b o)) (hT:D.T b k) (hk:k.cs=some full) (hl:o+size≤full.length) (hv:I0 agg ((full.drop o).take size)=v)
  (hs:Iu v v=true) (hw:FD call B an (j+1) l ⟨D.fs.put d v,D.T,D.tag,D.last,D.pj,j::D.lj⟩ Q):FD call B an j (⟨i,af⟩::l) D Q:=fun a r=>by
 have hgo:=aF5 (d:=⟨i,af⟩) r.rf hg
 have hev:∀ m n,(⟨mS a.env (CE.D.sl ⟨i,af⟩),m,n⟩:AS).ev x=.c (.ptr b o):=fun m n=>by
  rw [Og (m':=a.seq.mem) (n':=a.seq.nx) fun q hq=>J8 (d:=⟨i,af⟩) (by rw [hi];exact hq)]
  exact (r.rf.ev x).trans hx
 have hst:∀ (m:Tr mU) (n:Nat),(∀ b k,D.T b k→m.get b=some k)→bQ (.load agg size x) ⟨mS a.env (CE.D.sl ⟨i,af⟩),m,n⟩=some v:=fun m n hm=>by
  simp only [bQ,hev,AS.read,aZN (st:=⟨mS a.env (CE.D.sl ⟨i,af⟩),m,n⟩) (hm _ _ hT) hk]
  rw [need_pos hl]
  simp only [hv]
 have h0:bQ (.load agg size x) ⟨mS a.env (CE.D.sl ⟨i,af⟩),.nil,a.nx⟩=none:=by
  simp only [bQ,hev,AS.read,AS.blk,Tr.get_nil]
 obtain ⟨m,ml,hm⟩:=r.hd
 have hm0:∀ b k,D.T b k→m.get b=some k:=r.t0 (D.tag,m) (by rw [hm];exact List.mem_cons_self ..)
 have hrd:aMz (.load agg size x) (mS a.env (CE.D.sl ⟨i,af⟩)) (an.getD j 0) v ((D.tag,m)::ml)=true:=bKk hs fun p hp=>hst p.2 0 (r.t0 p (by rw [hm];exact hp))
 refine aEI (a':=⟨O1 a.env i.d v,a.nx,a.mems,a.pend,(j,i.o,mS a.env (CE.D.sl ⟨i,af⟩),v)::a.fl,a.last⟩) ?_ ?_
 ·simp only [K5]
  rw [show gOk i ⟨mS a.env (CE.D.sl ⟨i,af⟩),.nil,a.nx⟩=some true from hgo]
  simp only [hi,h0,Rz,hm,hst m 0 hm0,hrd]
 rw [hd]
 refine hw _ ⟨r.rf.put d _,⟨m,ml,hm⟩,r.t0,r.tlt,r.np,fun p hp=>?_,r.last,r.pj,r.plt⟩
 rcases List.mem_cons.1 hp with rfl | hp
 ·exact ⟨List.mem_cons_self ..,fun m' hm'=>⟨by rw [hi];exact hst m' 0 hm',hs⟩⟩
 exact ⟨List.mem_cons_of_mem _ (r.fl p hp).1,(r.fl p hp).2⟩
theorem bL9 {i:I} {d:Nat} {agg:Bool} {size:Nat} {x:Od} {b q p off:Nat} {cs:List C} {v:AV} {af:List Nat} {z:dA} (hi:i.o=.load agg size x) (hd:i.d=some d) (hg:GK D.fs i) (hx:D.fs.ev x=.c (.ptr b q)) (ha:At z b p cs) (hz:∀ b k,z b k→D.T b k) (hq:q=p+off) (hl:off+size≤cs.length) (hv:I0 agg ((cs.drop off).take size)=v)
  (hs:Iu v v=true) (hw:FD call B an (j+1) l ⟨D.fs.put d v,D.T,D.tag,D.last,D.pj,j::D.lj⟩ Q):FD call B an j (⟨i,af⟩::l) D Q:=by
 obtain ⟨k,full,h1,h2,h3,h4⟩:=ha
 subst hq
 refine bAl hi hd hg hx (hz _ _ h1) h2 (by omega) ?_ hs hw
 rw [← hv,← h4,List.drop_take,List.take_take,List.drop_drop]
 congr 2
 omega
theorem Xr {bits:Nat} {m:Tr mU}:∀ {l:List (Nat×lS×Tr AV×AV)},(∀ p,p∈l→bQ p.2.1 ⟨p.2.2.1,m,0⟩=some p.2.2.2∧Iu p.2.2.2 p.2.2.2=true)→∃ l',aXc bits m l=some l'∧∀ p,p∈l'→p∈l:=by
 intro l
 induction l with
 | nil=>intro _;exact ⟨[],rfl,fun p hp=>hp⟩
 | cons p l ih =>
  intro h
  obtain ⟨q,o,re,v⟩:=p
  obtain ⟨l',h1,h2⟩:=ih fun p hp=>h p (List.mem_cons_of_mem _ hp)
  obtain ⟨h3,h4⟩:=h (q,o,re,v) (List.mem_cons_self ..)
  simp only [aXc,h1]
  cases bits.testBit q with
  | true=>exact ⟨l',rfl,fun p hp=>List.mem_cons_of_mem _ (h2 p hp)⟩
  | false =>
   simp only at h3 h4
   simp only [h3,h4]
   refine ⟨_,rfl,fun p hp=>?_⟩
   rcases List.mem_cons.1 hp with rfl | hp
   ·exact List.mem_cons_self ..
   exact List.mem_cons_of_mem _ (h2 p hp)
theorem bL3 {bits:Nat} {ls:List Nat} (h:(ls.all fun q=>bits.testBit q)=true) {q:Nat} (hq:q∈ls):bits.testBit q=true:=by
 rw [List.all_eq_true] at h
 exact h q hq
theorem aCC {bits:Nat} {l:List (Nat×Nat×mU)} (h:((l.map (·.1)).all fun q=>bits.testBit q)=true):(l.filter fun p=>bits.testBit p.1)=l∧(l.filter fun p=>!bits.testBit p.1)=[]:=by
 constructor
 ·refine List.filter_eq_self.2 fun p hp=>bL3 h (List.mem_map.2 ⟨p,hp,rfl⟩)
 refine List.filter_eq_nil_iff.2 fun p hp=>?_
 rw [bL3 h (List.mem_map.2 ⟨p,hp,rfl⟩)]
 simp
theorem aDC {m:Tr mU}:∀ {l:List (Nat×Nat×mU)} {b:Nat} {k:mU},(∀ p,p∈l→p.2.1≠b)→m.get b=some k→(ovl m l).get b=some k:=by
 intro l
 induction l with
 | nil=>intro b k _ h;exact h
 | cons p l ih =>
  intro b k hp h
  obtain ⟨A,id,k0⟩:=p
  simp only [ovl]
  rw [Tr.get_put _ _ _ _ _ (by omega),if_neg (hp _ (List.mem_cons_self ..))]
  exact ih (fun p hp'=>hp p (List.mem_cons_of_mem _ hp')) h
theorem bI4 {i:I} {d f:Nat} {args:List Od} {vs:List AV} {af:List Nat} {Post:AV→dA→Prop} (hi:i.o=.call f args) (hd:i.d=some d) (hg:GK D.fs i) (hbits:Nat.beq (an.getD j 0 ||| D.last) (an.getD j 0)=true) (hpj:(D.pj.all fun q=>(an.getD j 0).testBit q)=true)
    (ha:args.map D.fs.ev=vs) (hc:FC call f vs D.fs.z Post) (hw:∀ v z',zle D.fs.z z'→Post v z'→FD call B an (j+1) l ⟨⟨aBk D.fs.e d v,z',D.fs.H⟩,D.T,j+1,an.getD j 0 ||| (1 <<< j),[],D.lj⟩ Q):FD call B an j (⟨i,af⟩::l) D Q:=fun a r=>by
  have hgo:=aF5 (d:=⟨i,af⟩) r.rf hg
  obtain ⟨m,ml,hm⟩:=r.hd
  have hhd:=r.seqget hm
  obtain ⟨v, mem', nx', z', H', h1, h2, h3, h4, h5, h6, h7, h8, h9⟩ := hc (ovl m a.pend) a.nx (by
    have:=r.rf.hold
    simp only [O9.seq,hhd] at this
    exact Yt.left (Hs:=[]) (Hr:=D.fs.H) this)
  subst h8
  have hev:∀ m n,args.map (⟨mS a.env (CE.D.sl ⟨i,af⟩),m,n⟩:AS).ev=vs:=fun m n=>by
    rw [← ha]
    refine List.map_congr_left fun x hx=>?_
    rw [Og (m':=a.seq.mem) (n':=a.seq.nx) fun q hq=>J8 (d:=⟨i,af⟩) (by rw [hi];simp only [lS.sl,Od.sls,List.mem_flatMap];exact ⟨x,hx,hq⟩)]
    exact r.rf.ev x
  have hp:=aCC (bits:=an.getD j 0) (l:=a.pend) (by rw [r.pj];exact hpj)
  have hT:∀ b k,D.T b k→mem'.get b=some k:=fun b k hb=>by
    rw [h3 b (r.tlt b k hb) (by simp [pR])]
    exact aDC (fun p hp' e=>r.np p hp' k (e ▸ hb)) (r.t0 (D.tag,m) (by rw [hm];exact List.mem_cons_self ..) b k hb)
  obtain ⟨fl',hf1,hf2⟩:=Xr (bits:=an.getD j 0) (m:=mem') (l:=a.fl) fun p hp=>(r.fl p hp).2 mem' hT
  refine aEI (a':=⟨O1 a.env i.d v,nx',(j+1,mem')::a.mems,a.pend.filter (fun p=>!(an.getD j 0).testBit p.1),fl',(an.getD j 0) ||| (1 <<< j)⟩) ?_ ?_
  · simp only [K5]
    rw [show gOk i ⟨mS a.env (CE.D.sl ⟨i,af⟩),.nil,a.nx⟩=some true from hgo]
    simp only [hi,bQ,Rz,eP,hm,hp.1,Zg,callee,hev,h1,r.last,hbits,hf1]
  · rw [hd,hp.2]
    refine hw v z' h5 h9 _ ⟨?_,⟨mem',a.mems,rfl⟩,fun p hp' b k hb=>?_,fun b k hb=>Nat.lt_of_lt_of_le (r.tlt b k hb) h2,fun p hp=>by simp at hp,fun p hp=>r.fl p (hf2 p hp),rfl,rfl,fun p hp=>by simp at hp⟩
    · have := r.rf.callR (Hs := []) (Hr := D.fs.H) rfl (mem' := mem') (nx' := nx') (z' := z') (H' := []) h2 (fun b hb hb2 => by
        rw [h3 b hb hb2];simp only [O9.seq,hhd]) h4 h5 h6 h7
      exact this.put d v
    · rcases List.mem_cons.1 hp' with rfl | hp'
      · exact hT b k hb
      · exact r.t0 p hp' b k hb
theorem bF7 {i:I} {d f:Nat} {args:List Od} {vs:List AV} {af:List Nat} {Post:AV→dA→List HA→Prop} (hi:i.o=.call f args) (hd:i.d=some d) (hg:GK D.fs i) (hbits:Nat.beq (an.getD j 0 ||| D.last) (an.getD j 0)=true) (hpj:(D.pj.all fun q=>(an.getD j 0).testBit q)=true)
    (ha:args.map D.fs.ev=vs) (hc:Lp call f vs D.fs.z [] Post) (hw:∀ v z' H',zle D.fs.z z'→Post v z' H'→FD call B an (j+1) l ⟨⟨aBk D.fs.e d v,z',H'++D.fs.H⟩,D.T,j+1,an.getD j 0 ||| (1 <<< j),[],D.lj⟩ Q):FD call B an j (⟨i,af⟩::l) D Q:=fun a r=>by
  have hgo:=aF5 (d:=⟨i,af⟩) r.rf hg
  obtain ⟨m,ml,hm⟩:=r.hd
  have hhd:=r.seqget hm
  obtain ⟨v, mem', nx', z', H', h1, h2, h3, h4, h5, h6, h7, h9⟩ := hc (ovl m a.pend) a.nx (by
    have:=r.rf.hold
    simp only [O9.seq,hhd] at this
    exact Yt.left (Hs:=[]) (Hr:=D.fs.H) this)
  have hev:∀ m n,args.map (⟨mS a.env (CE.D.sl ⟨i,af⟩),m,n⟩:AS).ev=vs:=fun m n=>by
    rw [← ha]
    refine List.map_congr_left fun x hx=>?_
    rw [Og (m':=a.seq.mem) (n':=a.seq.nx) fun q hq=>J8 (d:=⟨i,af⟩) (by rw [hi];simp only [lS.sl,Od.sls,List.mem_flatMap];exact ⟨x,hx,hq⟩)]
    exact r.rf.ev x
  have hp:=aCC (bits:=an.getD j 0) (l:=a.pend) (by rw [r.pj];exact hpj)
  have hT:∀ b k,D.T b k→mem'.get b=some k:=fun b k hb=>by
    rw [h3 b (r.tlt b k hb) (by simp [pR])]
    exact aDC (fun p hp' e=>r.np p hp' k (e ▸ hb)) (r.t0 (D.tag,m) (by rw [hm];exact List.mem_cons_self ..) b k hb)
  obtain ⟨fl',hf1,hf2⟩:=Xr (bits:=an.getD j 0) (m:=mem') (l:=a.fl) fun p hp=>(r.fl p hp).2 mem' hT
  refine aEI (a':=⟨O1 a.env i.d v,nx',(j+1,mem')::a.mems,a.pend.filter (fun p=>!(an.getD j 0).testBit p.1),fl',(an.getD j 0) ||| (1 <<< j)⟩) ?_ ?_
  · simp only [K5]
    rw [show gOk i ⟨mS a.env (CE.D.sl ⟨i,af⟩),.nil,a.nx⟩=some true from hgo]
    simp only [hi,bQ,Rz,eP,hm,hp.1,Zg,callee,hev,h1,r.last,hbits,hf1]
  · rw [hd,hp.2]
    refine hw v z' H' h5 h9 _ ⟨?_,⟨mem',a.mems,rfl⟩,fun p hp' b k hb=>?_,fun b k hb=>Nat.lt_of_lt_of_le (r.tlt b k hb) h2,fun p hp=>by simp at hp,fun p hp=>r.fl p (hf2 p hp),rfl,rfl,fun p hp=>by simp at hp⟩
    · have := r.rf.callR (Hs := []) (Hr := D.fs.H) rfl (mem' := mem') (nx' := nx') (z' := z') (H' := H') h2 (fun b hb hb2 => by
        rw [h3 b hb hb2];simp only [O9.seq,hhd]) h4 h5 h6 h7
      exact this.put d v
    · rcases List.mem_cons.1 hp' with rfl | hp'
      · exact hT b k hb
      · exact r.t0 p hp' b k hb
theorem bCu {bits:Nat} {l:List (Nat×Nat×mU)} (h:((l.map (·.1)).all fun q=>!bits.testBit q)=true):(l.filter fun p=>bits.testBit p.1)=[]∧(l.filter fun p=>!bits.testBit p.1)=l:=by
 have hq:∀ p,p∈l→bits.testBit p.1=false:=fun p hp=>by
  rw [List.all_eq_true] at h
  simpa using h p.1 (List.mem_map.2 ⟨p,hp,rfl⟩)
 constructor
 ·refine List.filter_eq_nil_iff.2 fun p hp=>?_
  rw [hq p hp];simp
 refine List.filter_eq_self.2 fun p hp=>?_
 rw [hq p hp];rfl
theorem bHt {m m':Tr mU}:∀ {l:List (Nat×Nat×mU)} {b:Nat},((∀ p,p∈l→p.2.1≠b)→m'.get b=m.get b)→(ovl m' l).get b=(ovl m l).get b:=by
 intro l
 induction l with
 | nil=>intro b h;exact h fun p hp=>by cases hp
 | cons p l ih =>
  intro b h
  obtain ⟨A,id,k0⟩:=p
  simp only [ovl]
  rw [Tr.get_put _ _ _ _ _ (by omega),Tr.get_put _ _ _ _ _ (by omega)]
  split
  ·rfl
  rename_i hne
  exact ih fun hp=>h fun p hp'=>by
   rcases List.mem_cons.1 hp' with rfl | hp'
   ·exact hne
   exact hp p hp'
theorem bH4 {i:I} {d f:Nat} {args:List Od} {vs:List AV} {af:List Nat} {Post:AV→dA→Prop} (hi:i.o=.call f args) (hd:i.d=some d) (hg:GK D.fs i) (hbits:Nat.beq (an.getD j 0 ||| D.last) (an.getD j 0)=true) (hpj:(D.pj.all fun q=>!(an.getD j 0).testBit q)=true) (hzT:∀ b k,D.fs.z b k→D.T b k)
    (ha:args.map D.fs.ev=vs) (hc:FC call f vs D.fs.z Post) (hw:∀ v z',zle D.fs.z z'→Post v z'→FD call B an (j+1) l ⟨⟨aBk D.fs.e d v,z',D.fs.H⟩,D.T,j+1,an.getD j 0 ||| (1 <<< j),D.pj,D.lj⟩ Q):FD call B an j (⟨i,af⟩::l) D Q:=fun a r=>by
  have hgo:=aF5 (d:=⟨i,af⟩) r.rf hg
  obtain ⟨m,ml,hm⟩:=r.hd
  have hhd:=r.seqget hm
  obtain ⟨v,mem',nx',z',H',h1,h2,h3,h4,h5,h6,h7,h8,h9⟩:=hc m a.nx ⟨fun b k hb=>⟨r.t0 (D.tag,m) (by rw [hm];exact List.mem_cons_self ..) b k (hzT b k hb),(r.rf.hold.z b k hb).2.1,by simp [pR]⟩,fun a ha=>(by cases ha),fun b hb=>(by simp [pR] at hb),by simp [pR]⟩
  subst h8
  have hev:∀ m n,args.map (⟨mS a.env (CE.D.sl ⟨i,af⟩),m,n⟩:AS).ev=vs:=fun m n=>by
    rw [← ha]
    refine List.map_congr_left fun x hx=>?_
    rw [Og (m':=a.seq.mem) (n':=a.seq.nx) fun q hq=>J8 (d:=⟨i,af⟩) (by rw [hi];simp only [lS.sl,Od.sls,List.mem_flatMap];exact ⟨x,hx,hq⟩)]
    exact r.rf.ev x
  have hp:=bCu (bits:=an.getD j 0) (l:=a.pend) (by rw [r.pj];exact hpj)
  have hT:∀ b k,D.T b k→mem'.get b=some k:=fun b k hb=>by
    rw [h3 b (r.tlt b k hb) (by simp [pR])]
    exact r.t0 (D.tag,m) (by rw [hm];exact List.mem_cons_self ..) b k hb
  obtain ⟨fl',hf1,hf2⟩:=Xr (bits:=an.getD j 0) (m:=mem') (l:=a.fl) fun p hp=>(r.fl p hp).2 mem' hT
  refine aEI (a':=⟨O1 a.env i.d v,nx',(j+1,mem')::a.mems,a.pend.filter (fun p=>!(an.getD j 0).testBit p.1),fl',(an.getD j 0) ||| (1 <<< j)⟩) ?_ ?_
  · simp only [K5]
    rw [show gOk i ⟨mS a.env (CE.D.sl ⟨i,af⟩),.nil,a.nx⟩=some true from hgo]
    simp only [hi,bQ,Rz,eP,hm,hp.1,ovl,Zg,callee,hev,h1,r.last,hbits,hf1]
  · rw [hd,hp.2]
    refine hw v z' h5 h9 _ ⟨?_,⟨mem',a.mems,rfl⟩,fun p hp' b k hb=>?_,fun b k hb=>Nat.lt_of_lt_of_le (r.tlt b k hb) h2,fun p hp'=>r.np p hp',fun p hp=>r.fl p (hf2 p hp),rfl,r.pj,fun p hp'=>Nat.lt_of_lt_of_le (r.plt p hp') h2⟩
    · have hnp:∀ b k,z' b k→∀ p,p∈a.pend→p.2.1≠b:=fun b k hb p hp' e=>by
        rcases h6 b k hb with g | g | g
        · exact r.np p hp' k (hzT _ _ (e ▸ g))
        · have:=r.plt p hp';omega
        · simp [pR] at g
      have := r.rf.callR (Hs := []) (Hr := D.fs.H) rfl (mem' := ovl mem' a.pend) (nx' := nx') (z' := z') (H' := []) h2 (fun b hb hb2 => by
        simp only [O9.seq,hhd]
        exact bHt fun _=>h3 b hb hb2) ⟨fun b k hb=>⟨aDC (hnp b k hb) (h4.z b k hb).1,(h4.z b k hb).2⟩,fun a ha=>(by cases ha),fun b hb=>(by simp [pR] at hb),by simp [pR]⟩ h5 h6 (fun b hb=>by simp [pR] at hb)
      exact this.put d v
    · rcases List.mem_cons.1 hp' with rfl | hp'
      · exact hT b k hb
      · exact r.t0 p hp' b k hb
theorem bRk {i:I} {d:Nat} {af:List Nat} {k:mU} {w:Nat→AV} (hd:i.d=some d) (hg:GK D.fs i) (hl:Rz i.o=false) (hq:∀ st:AS,bQ i.o st=none) (he:∀ st:AS,(∀ q,q∈i.o.sl→st.get q=D.fs.e q)→eP i.o st=some (st.new k,w st.nx))
  (hw:∀ b,(∀ k,¬ D.T b k)→FD call B an (j+1) l ⟨⟨aBk D.fs.e d (w b),D.fs.z,.blk b k::D.fs.H⟩,D.T,D.tag,D.last,j::D.pj,D.lj⟩ Q):FD call B an j (⟨i,af⟩::l) D Q:=fun a r=>by
 have hgo:=aF5 (d:=⟨i,af⟩) r.rf hg
 have he':eP i.o ⟨mS a.env (CE.D.sl ⟨i,af⟩),.nil,a.nx⟩=some ((⟨mS a.env (CE.D.sl ⟨i,af⟩),.nil,a.nx⟩:AS).new k,w a.nx):=he _ fun q hq=>by
  have:=aFS (a:=a) (d:=⟨i,af⟩) (J8 (d:=⟨i,af⟩) hq)
  exact this.trans (r.rf.env q)
 have h1:((⟨mS a.env (CE.D.sl ⟨i,af⟩),.nil,a.nx⟩:AS).new k).mem.get a.nx=some k:=by rw [Jw,if_pos rfl]
 have h2:Nat.beq ((⟨mS a.env (CE.D.sl ⟨i,af⟩),.nil,a.nx⟩:AS).new k).nx (a.nx+1)=true:=Nat.beq_refl _
 refine aEI (a':=⟨O1 a.env i.d (w a.nx),a.nx+1,a.mems,(j,a.nx,k)::a.pend,a.fl,a.last⟩) ?_ ?_
 ·simp only [K5]
  rw [show gOk i ⟨mS a.env (CE.D.sl ⟨i,af⟩),.nil,a.nx⟩=some true from hgo]
  simp only [hq,hl,he',h1,h2]
 rw [hd]
 have r1:=r.rf.new (a:=.blk a.nx k) (m':=(a.seq.new k).mem) (by show (a.seq.new k).mem.get a.seq.nx=some k;rw [Jw,if_pos rfl]) rfl (fun b hb=>by rw [Jw,if_neg fun e=>hb e.symm])
 refine hw a.nx (fun k hb=>absurd (r.tlt _ _ hb) (Nat.lt_irrefl _)) _ ⟨r1.put d (w a.nx),r.hd,r.t0,fun b k' hb=>Nat.lt_succ_of_lt (r.tlt b k' hb),fun p hp k' hb=>?_,r.fl,r.last,?_,fun p hp=>?_⟩
 ·rcases List.mem_cons.1 hp with rfl | hp
  ·exact absurd (r.tlt _ _ hb) (Nat.lt_irrefl _)
  exact r.np p hp k' hb
 ·simp only [List.map_cons,r.pj]
 rcases List.mem_cons.1 hp with rfl | hp
 ·exact Nat.lt_succ_self _
 exact Nat.lt_succ_of_lt (r.plt p hp)
theorem aZO {i:I} {af:List Nat} (hg:GK D.fs i) (hl:Rz i.o=false) (hbits:Nat.beq (an.getD j 0 ||| D.last) (an.getD j 0)=true) (hpj:(D.pj.all fun q=>(an.getD j 0).testBit q)=true) (hlj:(D.lj.all fun q=>(an.getD j 0).testBit q)=true)
    (hq:∀ st:AS,bQ i.o st=none) (he:∀ st:AS,(∀ q,q∈i.o.sl→st.get q=D.fs.e q)→st.mem=.nil→eP i.o st=none) (hev:∀ (env:Tr AV) (ls:List Nat) (m:Tr mU) (n:Nat),(∀ q,q∈i.o.sl→q∈ls)→Zg call i.o ⟨mS env ls,m,n⟩=Zg call i.o ⟨env,m,n⟩)
    (h:FL call B [⟨i.d,none,i.o⟩] D.fs fun fs'=>FD call B an (j+1) l ⟨fs',fun _ _=>False,j+1,an.getD j 0 ||| (1 <<< j),[],[]⟩ Q):FD call B an j (⟨i,af⟩::l) D Q:=fun a r=>by
  have hgo:=aF5 (d:=⟨i,af⟩) r.rf hg
  obtain ⟨m,ml,hm⟩:=r.hd
  have hhd:=r.seqget hm
  have hp:=aCC (bits:=an.getD j 0) (l:=a.pend) (by rw [r.pj];exact hpj)
  have h1:=h a.seq r.rf
  simp only [Jb,evI,gOk] at h1
  cases hv:Zg call i.o a.seq with
  | none=>rw [hv] at h1;exact h1.elim
  | some q =>
    obtain ⟨v,mem',nx'⟩:=q
    rw [hv] at h1
    have hv':Zg call i.o ⟨mS a.env (CE.D.sl ⟨i,af⟩),ovl m a.pend,a.nx⟩=some (v,mem',nx'):=by
      rw [hev _ _ _ _ fun q hq=>J8 (d:=⟨i,af⟩) hq,← hv]
      simp only [O9.seq,hhd]
    have he' : eP i.o ⟨mS a.env (CE.D.sl ⟨i, af⟩), .nil, a.nx⟩ = none := he _ (fun q hq => by
      have:=aFS (a:=a) (d:=⟨i,af⟩) (J8 (d:=⟨i,af⟩) hq)
      exact this.trans (r.rf.env q)) rfl
    have hf:=bIG (bits:=an.getD j 0) (m:=mem') (l:=a.fl) fun p hp=>bL3 hlj (r.fl p hp).1
    refine aEI (a':=⟨O1 a.env i.d v,nx',(j+1,mem')::a.mems,a.pend.filter (fun p=>!(an.getD j 0).testBit p.1),[],(an.getD j 0) ||| (1 <<< j)⟩) ?_ ?_
    · simp only [K5]
      rw [show gOk i ⟨mS a.env (CE.D.sl ⟨i,af⟩),.nil,a.nx⟩=some true from hgo]
      simp only [hq,hl,he',hm,hp.1,hv',r.last,hbits,hf]
    · rw [hp.2]
      obtain ⟨fs',r',hn⟩:=h1
      refine hn _ ⟨?_,⟨mem',a.mems,rfl⟩,fun p _ b k hb=>hb.elim,fun b k hb=>hb.elim,fun p hp=>by simp at hp,fun p hp=>by simp at hp,rfl,rfl,fun p hp=>by simp at hp⟩
      cases hdd:i.d with
      | none=>rw [hdd] at r';exact r'
      | some d=>rw [hdd] at r';exact r'
theorem aWX {i:I} {af:List Nat} (hg:GK D.fs i) (hl:Rz i.o=false) (hbits:Nat.beq (an.getD j 0 ||| D.last) (an.getD j 0)=true) (hpj:(D.pj.all fun q=>(an.getD j 0).testBit q)=true)
    (hq:∀ st:AS,bQ i.o st=none) (he:∀ st:AS,(∀ q,q∈i.o.sl→st.get q=D.fs.e q)→st.mem=.nil→eP i.o st=none) (hev:∀ (env:Tr AV) (ls:List Nat) (m:Tr mU) (n:Nat),(∀ q,q∈i.o.sl→q∈ls)→Zg call i.o ⟨mS env ls,m,n⟩=Zg call i.o ⟨env,m,n⟩)
    (hk:∀ (st:AS) v m' n',Rf B D.fs st→Zg call i.o st=some (v,m',n')→st.nx≤n'∧∀ b k,D.T b k→st.mem.get b=some k→m'.get b=some k)
    (h:FL call B [⟨i.d,none,i.o⟩] D.fs fun fs'=>FD call B an (j+1) l ⟨fs',D.T,j+1,an.getD j 0 ||| (1 <<< j),[],D.lj⟩ Q):FD call B an j (⟨i,af⟩::l) D Q:=fun a r=>by
  have hgo:=aF5 (d:=⟨i,af⟩) r.rf hg
  obtain ⟨m,ml,hm⟩:=r.hd
  have hhd:=r.seqget hm
  have hp:=aCC (bits:=an.getD j 0) (l:=a.pend) (by rw [r.pj];exact hpj)
  have h1:=h a.seq r.rf
  simp only [Jb,evI,gOk] at h1
  cases hv:Zg call i.o a.seq with
  | none=>rw [hv] at h1;exact h1.elim
  | some q =>
    obtain ⟨v,mem',nx'⟩:=q
    rw [hv] at h1
    obtain ⟨hn,hkk⟩:=hk _ _ _ _ r.rf hv
    have hT:∀ b k,D.T b k→mem'.get b=some k:=fun b k hb=>by
      refine hkk b k hb ?_
      show (ovl a.hd a.pend).get b=some k
      rw [hhd]
      exact aDC (fun p hp' e=>r.np p hp' k (e ▸ hb)) (r.t0 (D.tag,m) (by rw [hm];exact List.mem_cons_self ..) b k hb)
    obtain ⟨fl',hf1,hf2⟩:=Xr (bits:=an.getD j 0) (m:=mem') (l:=a.fl) fun p hp=>(r.fl p hp).2 mem' hT
    have hv':Zg call i.o ⟨mS a.env (CE.D.sl ⟨i,af⟩),ovl m a.pend,a.nx⟩=some (v,mem',nx'):=by
      rw [hev _ _ _ _ fun q hq=>J8 (d:=⟨i,af⟩) hq,← hv]
      simp only [O9.seq,hhd]
    have he' : eP i.o ⟨mS a.env (CE.D.sl ⟨i, af⟩), .nil, a.nx⟩ = none := he _ (fun q hq => by
      have:=aFS (a:=a) (d:=⟨i,af⟩) (J8 (d:=⟨i,af⟩) hq)
      exact this.trans (r.rf.env q)) rfl
    refine aEI (a':=⟨O1 a.env i.d v,nx',(j+1,mem')::a.mems,a.pend.filter (fun p=>!(an.getD j 0).testBit p.1),fl',(an.getD j 0) ||| (1 <<< j)⟩) ?_ ?_
    · simp only [K5]
      rw [show gOk i ⟨mS a.env (CE.D.sl ⟨i,af⟩),.nil,a.nx⟩=some true from hgo]
      simp only [hq,hl,he',hm,hp.1,hv',r.last,hbits,hf1]
    · rw [hp.2]
      obtain ⟨fs',r',hnn⟩:=h1
      refine hnn _ ⟨?_,⟨mem',a.mems,rfl⟩,fun p hp' b k hb=>?_,fun b k hb=>Nat.lt_of_lt_of_le (r.tlt b k hb) hn,fun p hp=>by simp at hp,fun p hp=>r.fl p (hf2 p hp),rfl,rfl,fun p hp=>by simp at hp⟩
      · cases hdd:i.d with
        | none=>rw [hdd] at r';exact r'
        | some d=>rw [hdd] at r';exact r'
      · rcases List.mem_cons.1 hp' with rfl | hp'
        · exact hT b k hb
        · exact r.t0 p hp' b k hb
theorem aDS {o:lS} (hs:(∃ s x y,o=.store s x y)∨∃ ty s b zr x y,o=.app ty s b zr x y) (env:Tr AV) (ls:List Nat) (m:Tr mU) (n:Nat) (h:∀ q,q∈o.sl→q∈ls):Zg call o ⟨mS env ls,m,n⟩=Zg call o ⟨env,m,n⟩:=by
  have hev:∀ x,(∀ q,q∈Od.sl x→q∈o.sl)→(⟨mS env ls,m,n⟩:AS).ev x=(⟨env,m,n⟩:AS).ev x:=fun x hx=>Og fun q hq=>h q (hx q hq)
  rcases hs with ⟨s,x,y,rfl⟩ | ⟨ty,s,b1,zr,x,y,rfl⟩
  · simp only [Zg, callee, bQ, eP, hev x (fun q hq => by simp [lS.sl, hq]), hev y (fun q hq => by simp [lS.sl, hq])]
    cases (⟨env,m,n⟩:AS).ev x with
    | c c =>
      cases c with
      | ptr b o =>
        cases ((⟨env,m,n⟩:AS).ev y).cells? with
        | none=>rfl
        | some ds =>
          simp only
          cases m.get b with
          | none=>rfl
          | some k =>
            cases k with
            | cells ty cs =>
              simp only [need]
              by_cases hc:ds.length=s∧o+s≤cs.length
              · rw [if_pos hc,if_pos hc];rfl
              · rw [if_neg hc,if_neg hc]
            | _=>rfl
      | _=>rfl
    | _=>rfl
  · have hrow:∀ v,(⟨mS env ls,m,n⟩:AS).row s v=(⟨env,m,n⟩:AS).row s v:=fun v=>by
      cases v with
      | c c=>cases c<;>rfl
      | _=>rfl
    simp only [Zg,callee,bQ,eP,hev x (fun q hq=>by simp [lS.sl,hq]),hev y (fun q hq=>by simp [lS.sl,hq]),hrow]
    cases (⟨env,m,n⟩:AS).row s ((⟨env,m,n⟩:AS).ev y) with
    | none=>rfl
    | some p =>
      obtain ⟨c,news⟩:=p
      cases c with
      | zero =>
        simp only
        cases (⟨env,m,n⟩:AS).ev x with
        | c c =>
          cases c with
          | v x =>
            cases x with
            | slice A l c =>
              cases A with
              | none=>cases l<;>cases c<;>rfl
              | some A=>rfl
            | _=>rfl
          | _=>rfl
        | _=>rfl
      | succ c =>
        simp only
        cases (⟨env,m,n⟩:AS).ev x with
        | c c' =>
          cases c' with
          | v x =>
            cases x with
            | slice A l cc =>
              cases A with
              | none =>
                cases l with
                | zero =>
                  cases cc with
                  | zero =>
                    simp only [need]
                    by_cases hc:(c+1) * b1≤140737488355328∧c+1≤9223372036854775807∧0<c+1
                    · rw [if_pos hc,if_pos hc];rfl
                    · rw [if_neg hc,if_neg hc]
                  | succ _=>rfl
                | succ _=>rfl
              | some A=>rfl
            | _=>rfl
          | sl b o n' s' =>
            simp only
            cases m.get b with
            | none=>rfl
            | some k =>
              cases k with
              | cells ty' cs =>
                simp only [need]
                by_cases hc:o+n' * s'=cs.length∧ty'=ty∧s'=s∧(n'+(c+1)) * b1≤140737488355328∧n'+(c+1)≤9223372036854775807
                · rw [if_pos hc,if_pos hc];rfl
                · rw [if_neg hc,if_neg hc]
              | _=>rfl
          | _=>rfl
        | _=>rfl
theorem bDr (s:Nat) {t:Bool} (h:D.fs.e s=.c (.v (.bool t))) (h1:t=true→FD call B an j l ⟨D.fs.put s (.c (.v (.bool true))),D.T,D.tag,D.last,D.pj,D.lj⟩ Q) (h2:t=false→FD call B an j l ⟨D.fs.put s (.c (.v (.bool false))),D.T,D.tag,D.last,D.pj,D.lj⟩ Q):FD call B an j l D Q:=by
 obtain ⟨fs,T,tag,last,pj,lj⟩:=D
 have e:fs.put s (.c (.v (.bool t)))=fs:=by
  cases fs;simp only [Sf.put];rw [aIX h]
 cases t with
 | true=>have:=h1 rfl;simp only [e] at this;exact this
 | false=>have:=h2 rfl;simp only [e] at this;exact this
theorem bFv {i:I} {s:Nat} {x y:Od} {b o:Nat} {af:List Nat} (hi:i.o=.store s x y) (hg:GK D.fs i) (hbits:Nat.beq (an.getD j 0 ||| D.last) (an.getD j 0)=true) (hpj:(D.pj.all fun q=>(an.getD j 0).testBit q)=true) (hlj:(D.lj.all fun q=>(an.getD j 0).testBit q)=true) (hx:D.fs.ev x=.c (.ptr b o))
  (h:FL call B [⟨i.d,none,.store s x y⟩] D.fs fun fs'=>FD call B an (j+1) l ⟨fs',fun _ _=>False,j+1,an.getD j 0 ||| (1 <<< j),[],[]⟩ Q):FD call B an j (⟨i,af⟩::l) D Q:=by
 refine aZO hg (by rw [hi];rfl) hbits hpj hlj (fun st=>by rw [hi];rfl) (fun st hst hm=>?_) (by rw [hi];exact aDS (.inl ⟨_,_,_,rfl⟩)) (by rw [hi];exact h)
 rw [hi]
 have:st.ev x=.c (.ptr b o):=by
  rw [← hx]
  cases x with
  | t q=>exact hst q (by rw [hi];simp [lS.sl,Od.sl])
  | _=>rfl
 simp only [eP,this,hm,Tr.get_nil]
 cases (st.ev y).cells?<;>rfl
theorem bCm {i:I} {s:Nat} {x y:Od} {b o:Nat} {af:List Nat} (hi:i.o=.store s x y) (hg:GK D.fs i) (hbits:Nat.beq (an.getD j 0 ||| D.last) (an.getD j 0)=true) (hpj:(D.pj.all fun q=>(an.getD j 0).testBit q)=true) (hx:D.fs.ev x=.c (.ptr b o)) (hT:∀ k,¬ D.T b k)
  (h:FL call B [⟨i.d,none,.store s x y⟩] D.fs fun fs'=>FD call B an (j+1) l ⟨fs',D.T,j+1,an.getD j 0 ||| (1 <<< j),[],D.lj⟩ Q):FD call B an j (⟨i,af⟩::l) D Q:=by
 refine aWX hg (by rw [hi];rfl) hbits hpj (fun st=>by rw [hi];rfl) (fun st hst hm=>?_) (by rw [hi];exact aDS (.inl ⟨_,_,_,rfl⟩)) (fun st v m' n' r hv=>?_) (by rw [hi];exact h)
 ·rw [hi]
  have:st.ev x=.c (.ptr b o):=by
   rw [← hx]
   cases x with
   | t q=>exact hst q (by rw [hi];simp [lS.sl,Od.sl])
   | _=>rfl
  simp only [eP,this,hm,Tr.get_nil]
  cases (st.ev y).cells?<;>rfl
 rw [hi] at hv
 simp only [Zg,callee,bQ,eP,r.ev,hx] at hv
 cases hc:(D.fs.ev y).cells? with
 | none=>rw [hc] at hv;cases hv
 | some ds =>
  rw [hc] at hv
  simp only at hv
  cases hm:st.mem.get b with
  | none=>rw [hm] at hv;cases hv
  | some k0 =>
   rw [hm] at hv
   cases k0 with
   | cells ty cs =>
    simp only [need] at hv
    by_cases hcc:ds.length=s∧o+s≤cs.length
    ·rw [if_pos hcc] at hv
     injection hv with hv
     obtain ⟨_,hv⟩:=Prod.mk.inj hv
     obtain ⟨h1,h2⟩:=Prod.mk.inj hv
     subst h1 h2
     refine ⟨Nat.le_refl _,fun b' k' hb hg=>?_⟩
     rw [aCl,if_neg fun e=>hT k' (by rw [e];exact hb)]
     exact hg
    rw [if_neg hcc] at hv;cases hv
   | ro _=>cases hv
   | sit _ _=>cases hv
   | mp _ _=>cases hv
   | mit _ _ _ _=>cases hv
   | mcur _ _ _=>cases hv
theorem bQe {i:I} {ty s bytes:Nat} {zr:List Value} {x y:Od} {b o n:Nat} {af:List Nat} (hi:i.o=.app ty s bytes zr x y) (hg:GK D.fs i) (hbits:Nat.beq (an.getD j 0 ||| D.last) (an.getD j 0)=true) (hpj:(D.pj.all fun q=>(an.getD j 0).testBit q)=true) (hlj:(D.lj.all fun q=>(an.getD j 0).testBit q)=true) (hy:D.fs.ev y=.c (.sl b o n s))
  (h:FL call B [⟨i.d,none,.app ty s bytes zr x y⟩] D.fs fun fs'=>FD call B an (j+1) l ⟨fs',fun _ _=>False,j+1,an.getD j 0 ||| (1 <<< j),[],[]⟩ Q):FD call B an j (⟨i,af⟩::l) D Q:=by
 refine aZO hg (by rw [hi];rfl) hbits hpj hlj (fun st=>by rw [hi];rfl) (fun st hst hm=>?_) (by rw [hi];exact aDS (.inr ⟨_,_,_,_,_,_,rfl⟩)) (by rw [hi];exact h)
 rw [hi]
 have:st.ev y=.c (.sl b o n s):=by
  rw [← hy]
  cases y with
  | t q=>exact hst q (by rw [hi];simp [lS.sl,Od.sl])
  | _=>rfl
 simp only [eP,this,AS.row,AS.read,AS.blk,hm,Tr.get_nil]
end
def FG (call:eE) (B:pK) (an:List Nat) (j:Nat) (l:List CE.D) (fs:Sf) (T:dA) (tag last:Nat) (pj lj:List Nat) (Q:Sf→Prop):Prop:=FD call B an j l ⟨fs,T,tag,last,pj,lj⟩ Q
section
variable {call:eE} {B:pK} {an:List Nat} {j:Nat} {l:List CE.D} {fs:Sf} {T:dA} {tag last:Nat} {pj lj:List Nat} {Q:Sf→Prop}
theorem mL (h:Q fs):FG call B an j [] fs T tag last pj lj Q:=bQ0 (D:=⟨fs,T,tag,last,pj,lj⟩) h
theorem wC {k:Nat} {ds:List CE.D} {Q:Exit→Sf→Prop} (h:FG call B an 0 ds fs (tz fs.z fs.H) 0 0 [] [] (Q .normal)):FX call k B (.draw ds an) fs Q:=bAc h
theorem iN {k:Nat} {ds:List CE.D} {c:XC} {Q:Exit→Sf→Prop} (h:FG call B an 0 ds fs (tz fs.z fs.H) 0 0 [] [] (fun fs'=>FX call k B c fs' Q)):FX call k B (.seq (.draw ds an) c) fs Q:=bIK h
theorem gP {i:I} {d:Nat} {af:List Nat} (hd:i.d=some d) (hp:aS5 i.o=true) (hg:GK fs i) (h:FL call B [⟨some d,none,i.o⟩] fs fun fs'=>FG call B an (j+1) l fs' T tag last pj lj Q):FG call B an j (⟨i,af⟩::l) fs T tag last pj lj Q:=bIZ (D:=⟨fs,T,tag,last,pj,lj⟩) hd hp hg h
theorem bOl {i:I} {d s:Nat} {want:Bool} {af:List Nat} (hd:i.d=some d) (hg:i.g=some (s,want)) (hs:fs.e s=.c (.v (.bool (!want)))∨fs.e s=.tup []) (hw:FG call B an (j+1) l (fs.put d (.tup [])) T tag last pj lj Q):FG call B an j (⟨i,af⟩::l) fs T tag last pj lj Q:=bP3 (D:=⟨fs,T,tag,last,pj,lj⟩) hd hg hs hw
theorem Hi {i:I} {d:Nat} {agg:Bool} {size:Nat} {x:Od} {b o:Nat} {k:mU} {full:List C} {v:AV} {af:List Nat} (hi:i.o=.load agg size x) (hd:i.d=some d) (hg:GK fs i) (hx:fs.ev x=.c (.ptr b o)) (hT:T b k) (hk:k.cs=some full) (hl:o+size≤full.length) (hv:I0 agg ((full.drop o).take size)=v)
  (hs:Iu v v=true) (hw:FG call B an (j+1) l (fs.put d v) T tag last pj (j::lj) Q):FG call B an j (⟨i,af⟩::l) fs T tag last pj lj Q:=bAl (D:=⟨fs,T,tag,last,pj,lj⟩) hi hd hg hx hT hk hl hv hs hw
theorem oD {i:I} {d:Nat} {agg:Bool} {size:Nat} {x:Od} {b q p off:Nat} {cs:List C} {v:AV} {af:List Nat} {z:dA} (hi:i.o=.load agg size x) (hd:i.d=some d) (hg:GK fs i) (hx:fs.ev x=.c (.ptr b q)) (ha:At z b p cs) (hz:∀ b k,z b k→T b k) (hq:q=p+off) (hl:off+size≤cs.length) (hv:I0 agg ((cs.drop off).take size)=v)
  (hs:Iu v v=true) (hw:FG call B an (j+1) l (fs.put d v) T tag last pj (j::lj) Q):FG call B an j (⟨i,af⟩::l) fs T tag last pj lj Q:=bL9 (D:=⟨fs,T,tag,last,pj,lj⟩) hi hd hg hx ha hz hq hl hv hs hw
theorem Bg {i:I} {d f:Nat} {args:List Od} {vs:List AV} {af:List Nat} {Post:AV→dA→Prop} (hi:i.o=.call f args) (hd:i.d=some d) (hg:GK fs i) (hbits:Nat.beq (an.getD j 0 ||| last) (an.getD j 0)=true) (hpj:(pj.all fun q=>(an.getD j 0).testBit q)=true)
  (ha:args.map fs.ev=vs) (hc:FC call f vs fs.z Post) (hw:∀ v z',zle fs.z z'→Post v z'→FG call B an (j+1) l (fs.res d v z' fs.H) T (j+1) (an.getD j 0 ||| (1 <<< j)) [] lj Q):FG call B an j (⟨i,af⟩::l) fs T tag last pj lj Q:=bI4 (D:=⟨fs,T,tag,last,pj,lj⟩) hi hd hg hbits hpj ha hc hw
theorem wE {i:I} {d:Nat} {af:List Nat} {k:mU} {w:Nat→AV} (hd:i.d=some d) (hg:GK fs i) (hl:Rz i.o=false) (hq:∀ st:AS,bQ i.o st=none) (he:∀ st:AS,(∀ q,q∈i.o.sl→st.get q=fs.e q)→eP i.o st=some (st.new k,w st.nx))
  (hw:∀ b,(∀ k,¬ T b k)→FG call B an (j+1) l (fs.own d (w b) (.blk b k)) T tag last (j::pj) lj Q):FG call B an j (⟨i,af⟩::l) fs T tag last pj lj Q:=bRk (D:=⟨fs,T,tag,last,pj,lj⟩) hd hg hl hq he hw
theorem aDQ (s:Nat) {t:Bool} (h:fs.e s=.c (.v (.bool t))) (h1:t=true→FG call B an j l (fs.put s (.c (.v (.bool true)))) T tag last pj lj Q) (h2:t=false→FG call B an j l (fs.put s (.c (.v (.bool false)))) T tag last pj lj Q):FG call B an j l fs T tag last pj lj Q:=bDr (D:=⟨fs,T,tag,last,pj,lj⟩) s h h1 h2
theorem bIJ {i:I} {s:Nat} {x y:Od} {b o:Nat} {af:List Nat} (hi:i.o=.store s x y) (hg:GK fs i) (hbits:Nat.beq (an.getD j 0 ||| last) (an.getD j 0)=true) (hpj:(pj.all fun q=>(an.getD j 0).testBit q)=true) (hlj:(lj.all fun q=>(an.getD j 0).testBit q)=true) (hx:fs.ev x=.c (.ptr b o))
  (h:FL call B [⟨i.d,none,.store s x y⟩] fs fun fs'=>FG call B an (j+1) l fs' (fun _ _=>False) (j+1) (an.getD j 0 ||| (1 <<< j)) [] [] Q):FG call B an j (⟨i,af⟩::l) fs T tag last pj lj Q:=bFv (D:=⟨fs,T,tag,last,pj,lj⟩) hi hg hbits hpj hlj hx h
theorem bCR {i:I} {s:Nat} {x y:Od} {b o:Nat} {af:List Nat} (hi:i.o=.store s x y) (hg:GK fs i) (hbits:Nat.beq (an.getD j 0 ||| last) (an.getD j 0)=true) (hpj:(pj.all fun q=>(an.getD j 0).testBit q)=true) (hx:fs.ev x=.c (.ptr b o)) (hT:∀ k,¬ T b k)
  (h:FL call B [⟨i.d,none,.store s x y⟩] fs fun fs'=>FG call B an (j+1) l fs' T (j+1) (an.getD j 0 ||| (1 <<< j)) [] lj Q):FG call B an j (⟨i,af⟩::l) fs T tag last pj lj Q:=bCm (D:=⟨fs,T,tag,last,pj,lj⟩) hi hg hbits hpj hx hT h
theorem Dm {i:I} {ty s bytes:Nat} {zr:List Value} {x y:Od} {b o n:Nat} {af:List Nat} (hi:i.o=.app ty s bytes zr x y) (hg:GK fs i) (hbits:Nat.beq (an.getD j 0 ||| last) (an.getD j 0)=true) (hpj:(pj.all fun q=>(an.getD j 0).testBit q)=true) (hlj:(lj.all fun q=>(an.getD j 0).testBit q)=true) (hy:fs.ev y=.c (.sl b o n s))
  (h:FL call B [⟨i.d,none,.app ty s bytes zr x y⟩] fs fun fs'=>FG call B an (j+1) l fs' (fun _ _=>False) (j+1) (an.getD j 0 ||| (1 <<< j)) [] [] Q):FG call B an j (⟨i,af⟩::l) fs T tag last pj lj Q:=bQe (D:=⟨fs,T,tag,last,pj,lj⟩) hi hg hbits hpj hlj hy h
end
section
variable {call:eE} {B:pK} {fs:Sf} {l:List I} {Q:Sf→Prop}
def JQ (fs:Sf) (ls:Bool→List (Nat×AV)) (P:Prop) (fs':Sf):Prop:=∃ r:Bool,fs'.H=fs.H∧zle fs.z fs'.z∧Vx fs'.e (ls r)∧(r=true↔P)
theorem Pg (n s:Nat) (ls:Bool→List (Nat×AV)) (P:Prop) {t:Bool} (hs:fs.e s=.c (.v (.bool t))) (h1:t=true→FL call B (l.take n) (fs.put s (.c (.v (.bool true)))) (JQ fs ls P)) (h0:t=false→FL call B (l.take n) (fs.put s (.c (.v (.bool false)))) (JQ fs ls P))
  (hw:∀ e z' r,zle fs.z z'→(r=true↔P)→FL call B (l.drop n) ⟨aSl e (ls r),z',fs.H⟩ Q):FL call B l fs Q:=by
 rw [← List.take_append_drop n l]
 refine bPR (J:=JQ fs ls P) (nC s hs h1 h0) fun fs' ⟨r,g1,g2,g3,g4⟩=>?_
 have:=hw fs'.e fs'.z r g2 g4
 rw [g3.eq,← g1] at this
 exact this
theorem zT {fs0:Sf} {ls:Bool→List (Nat×AV)} {P:Prop} (r:Bool) (hH:fs.H=fs0.H) (hz:zle fs0.z fs.z) (ha:Vx fs.e (ls r)) (hr:r=true↔P):FL call B [] fs (JQ fs0 ls P):=lN ⟨r,hH,hz,ha,hr⟩
end
theorem P8 {s:Bool} {P Q:Prop} (hs:s=true↔P) (h:s=true):true=true↔P∨Q:=⟨fun _=>.inl (hs.1 h),fun _=>rfl⟩
theorem O8 {r s:Bool} {P Q:Prop} (hs:s=true↔P) (h:s=false) (hr:r=true↔Q):r=true↔P∨Q:=by
 constructor
 ·intro g;exact .inr (hr.1 g)
 intro q
 rcases q with q | q
 ·rw [hs.2 q] at h;cases h
 exact hr.2 q
theorem iF {P:Prop} [Decidable P]:decide P=true↔P:=decide_eq_true_iff
theorem sK {r:Bool} {P:Prop} (h:r=true↔P) (hr:r=false):¬ P:=fun p=>by rw [h.2 p] at hr;cases hr
open Go.RowKit
open Go.Eng (Od need need_pos iE kN binV binBV setL_length Bi)
def zd (z0 z:dA):dA:=fun b k=>z b k∧(∀ k',¬ z0 b k')∧k.isRo=false
theorem jF {z0 z:dA}:zle (zd z0 z) z:=⟨fun _ _ h=>h.1⟩
instance zlm {z a b:dA} [h:Zl a b]:Zl (zd z a) b:=⟨jF.trans h.h⟩
theorem jO {z0 z z':dA} (h:zle z z'):zle (zd z0 z) (zd z0 z'):=⟨fun b k g=>⟨h b k g.1,g.2⟩⟩
theorem qY {z0 z1 z:dA} (h:zle z0 z1):zle (zd z1 z) (zd z0 z):=⟨fun b k g=>⟨g.1,fun k' h'=>g.2.1 k' (h b k' h'),g.2.2⟩⟩
section
variable {call:eE} {B:pK} {fs:Sf} {l:List I} {Q:Sf→Prop} {d:Nat}
theorem aOs {α:Type} {size:Nat} {R:RT α} [RMono R] {k:Nat} {c:XC} {Q:Exit→Sf→Prop} {u:AV} {ty n:Nat} {cs:List C} {r:List α} {p q:List HA} {z0:dA} (e:fs.H=p++.row u ty size n cs::q) (hz0:zle z0 fs.z) (hc:CL size R (zd z0 fs.z) cs r) (hn:r.length=n) (hm:n≤9223372036854775807)
    (hw:∀ z',zle fs.z z'→SZ size R (zd z0 z') u r→FX call k B c (fs.frz z' (p++q)) Q):FX call k B c fs Q:=fun st rf=>by
  obtain ⟨g1,g2⟩:=rf.hold.h (.row u ty size n cs) (by rw [e];simp)
  rcases g2 with ⟨h0,rfl⟩ | ⟨b,rfl,h3⟩
  · have hr0 : r = [] := List.eq_nil_of_length_eq_zero (by omega)
    subst hr0
    refine hw fs.z (zle.refl _) .nil st ?_
    have hsub:(p++q).Sublist fs.H:=by rw [e];exact (List.Sublist.refl p).append (List.sublist_cons_self _ _)
    exact ⟨rf.env,rf.hold.sub hsub,rf.le,rf.old,fun b hb=>rf.own b ((Eh hsub).subset hb),rf.zle,rf.zin⟩
  · have h1 := rf.frz (p := p) (q := q) (b := b) (k := .cells ty cs) (a := .row (.c (.sl b 0 n size)) ty size n cs) e rfl (fun m hm => by
      obtain ⟨_,hm⟩:=hm
      rcases hm with ⟨_,hm⟩ | ⟨b',hb',hm⟩
      · cases hm
      · injection hb' with hb';injection hb' with hb';subst hb';exact hm)
    have hnb:∀ k',¬ z0 b k':=fun k' hb=>(rf.hold.z b k' (hz0 b k' hb)).2.2 (by rw [e,jM,iJ];simp [HA.fp])
    exact hw _ ⟨fun _ _ h=>.inl h⟩ ((hc.mono (jO ⟨fun _ _ h=>.inl h⟩)).sz hn hm ⟨.inr ⟨rfl,rfl⟩,hnb,rfl⟩) st h1
theorem bA2 {k:NK} {ne:Bool} {x y:Od} {u v:AV} {a b r:Bool} (hx:fs.ev x=u) (hy:fs.ev y=v) (ha:aS8 k u=some a) (hb:aS8 k v=some b) (hab:(a || b)=true) (hr:((a && b) != ne)=r) (hw:FL call B l (fs.put d (.c (.v (.bool r)))) Q):FL call B (⟨some d,none,.cmpn k ne x y⟩::l) fs Q:=
  aGg (fun _ => rfl) (fun st rf => by
    simp only [bQ,rf.ev,hx,hy,ha,hb,hab,hr];rfl) hw
theorem Rf.asblk {st:AS} (h:Rf B fs st) {u:AV} {b ty n size:Nat} {cs:List C} {p q:List HA} (e:fs.H=p++.row u ty size n cs::q) (hu:u=.c (.sl b 0 n size)) (hb0:st.mem.get b=some (.cells ty cs)):Rf B (fs.heap (p++.blk b (.cells ty cs)::q)) st:=by
 subst hu
 have e2:pR (p++.blk b (.cells ty cs)::q)=pR fs.H:=by rw [e,jM,jM,iJ,iJ];rfl
 refine ⟨h.env,⟨fun x k hb=>?_,fun a ha=>?_,fun x hb=>?_,?_⟩,h.le,h.old,fun x hb=>?_,h.zle,h.zin⟩
 ·show _∧_∧x ∉ pR (p++.blk b (.cells ty cs)::q)
  rw [e2];exact h.hold.z x k hb
 ·have ha:a∈p++.blk b (.cells ty cs)::q:=ha
  rcases List.mem_append.1 ha with ha | ha
  ·exact h.hold.h a (by rw [e];simp [ha])
  rcases List.mem_cons.1 ha with rfl | ha
  ·exact hb0
  exact h.hold.h a (by rw [e];simp [ha])
 ·have hb:x∈pR (p++.blk b (.cells ty cs)::q):=hb
  rw [e2] at hb;exact h.hold.lt x hb
 ·show (pR (p++.blk b (.cells ty cs)::q)).Nodup
  rw [e2];exact h.hold.nd
 have hb:x∈pR (p++.blk b (.cells ty cs)::q):=hb
 rw [e2] at hb;exact h.own x hb
theorem aGu {u:AV} {ty n size:Nat} {cs:List C} {p q:List HA} (e:fs.H=p++.row u ty size n cs::q) (hn:0<n) (h1:∀ b,u=.c (.sl b 0 n size)→FL call B l (fs.heap (p++.blk b (.cells ty cs)::q)) Q):FL call B l fs Q:=fun st r=>by
 obtain ⟨g1,g2⟩:=r.hold.h (.row u ty size n cs) (by rw [e];simp)
 rcases g2 with ⟨h0,_⟩ | ⟨b,hu,h3⟩
 ·omega
 exact h1 b hu st (r.asblk e hu h3)
theorem aW2 {x:Od} {u:AV} {ty n size:Nat} {cs:List C} (hx:fs.ev x=u) (hm:HA.row u ty size n cs∈fs.H) (hw:FL call B l (fs.put d (.c (.v (.int .i64 n)))) Q):FL call B (⟨some d,none,.len false x⟩::l) fs Q:=fun st r=>by
 obtain ⟨g1,g2⟩:=r.hold.h _ hm
 have hl:lenOf u=some n:=by
  rcases g2 with ⟨h0,rfl⟩ | ⟨b,rfl,h3⟩
  ·rw [h0];rfl
  rfl
 exact aCT hx hl hw st r
theorem bJW {α:Type} (l:List α) (j:Nat) (x:List α) (h:j+x.length≤l.length) (i:Nat):(kN l j x)[i]? = if j≤i∧i<j+x.length then x[i - j]? else l[i]?:=by
 rw [Bi l j x h]
 by_cases h1:i<j
 ·rw [if_pos h1,if_neg (by omega)]
 rw [if_neg h1]
 by_cases h2:i<j+x.length
 ·rw [if_pos h2,if_pos (by omega)]
 rw [if_neg h2,if_neg (by omega)]
end
theorem aEJ {fs:Sf} {ts:List RR} {vs:List AV} {x:Exit} {Post:AV→dA→List HA→Prop} {H':List HA} (hx:x=.ret∨x=.normal) (h:Vf fs ts vs) (hs:H'.Sublist fs.H) (hp:Post (aTD vs) fs.z H'):aZq ts Post x fs:=⟨hx,vs,H',h,hs,hp⟩
def bL0 (ty size bytes:Nat) (zero:List Value):XC:=.seq (.region [⟨some 2,none,.mv (.k (.slice none 0 0))⟩])
  (.seq (.seq (.region [⟨some 3, none, .mv (.t 0)⟩, ⟨some 4, none, .cmpn .sl false (.t 3) (.k (.slice none 0 0))⟩]) (.cond (.t 4) (.seq (.region [⟨some 2, none, .mv (.k (.slice none 0 0))⟩]) .ret) .skip))
  (.seq (.region [⟨some 5,none,.bslice ty size 0 zero []⟩,⟨some 6,none,.mv (.t 0)⟩,⟨some 7,none,.app ty size bytes zero (.t 5) (.t 6)⟩,⟨some 2,none,.mv (.t 7)⟩]) .ret))
def aLB {α:Type} (ty size:Nat) (R:RT α) (z:dA) (l:List α) (v:AV) (z':dA) (H':List HA):Prop:=∃ cs,H'=[.row v ty size l.length cs]∧CL size R z' cs l∧z'=z∧∃ c,v=.c c∧pO c c=true
theorem aTa {T:Tr FE} {hand:eE} {k0 k f ty size bytes:Nat} {zero:List Value} {α:Type} {R:RT α} [RMono R] {z:dA} {v:AV} {l:List α} (hT:T.get f=some ⟨8,bL0 ty size bytes zero,[.t 2]⟩) (hk:1≤k) (hv:SZ size R z v l) (hb:l.length * bytes≤140737488355328) :
    Lp (evF T hand k0 k) f [v] z [] (aLB ty size R z l):=by
  refine aDK hT hk (by show 1≤8;omega) fun B j hj=>?_
  have hle:=hv.le
  refine xR (lM rfl (lN ?_))
  refine Xb (xR (lM rfl ?_))
  have key : aS8 .sl v = some false → FL (evF T hand k0 j) B [⟨some 4, none, .cmpn .sl false (.t 3) (.k (.slice none 0 0))⟩] (((⟨aOd [v], z, []⟩ : Sf).put 2 rC).put 3 v) fun fs' => FX (evF T hand k0 j) k0 B (.seq (.cond (.t 4) (.seq (.region [⟨some 2, none, .mv (.k (.slice none 0 0))⟩]) .ret) .skip)
      (.seq (.region [⟨some 5,none,.bslice ty size 0 zero []⟩,⟨some 6,none,.mv (.t 0)⟩,⟨some 7,none,.app ty size bytes zero (.t 5) (.t 6)⟩,⟨some 2,none,.mv (.t 7)⟩]) .ret)) fs' (aZq [.t 2] (aLB ty size R z l)):=fun hn=>by
    refine bA2 (a:=false) (b:=true) rfl rfl hn rfl rfl rfl (lN ?_)
    refine Ew (aDJ rfl (cP (xR ?_)))
    refine cX rfl fun b=>?_
    refine lM rfl ?_
    refine Dq (p:=[]) (n:=0) (cs:=Ld 0 (zero.map fun v=>.v v)) (size:=size) (b:=b) (ty:=ty) (q:=[]) rfl (by simp [Ld]) ?_
    refine aWt rfl rfl hv (fun _ _=>iW) (by rw [Nat.zero_add];exact hb) (by omega) fun c' hc' news hnews=>?_
    refine lM rfl (lN (xT ?_))
    refine aEJ (.inl rfl) (rt rfl rn) (List.Sublist.refl _) ⟨news,?_,hnews,rfl,c',rfl,hc'⟩
    simp only [List.nil_append,Nat.zero_add,Ld]
    rfl
  cases hv with
  | nil =>
    refine bA2 (a:=true) (b:=true) rfl rfl rfl rfl rfl rfl (lN ?_)
    refine Ew (aRo rfl (Xb (xR (lM rfl (oW ty size (lN (jX ?_)))))))
    exact aEJ (.inl rfl) (rt rfl rn) (List.Sublist.refl _) ⟨[],rfl,CL.nil,rfl,_,rfl,bEV⟩
  | em=>exact key rfl
  | sl b o n k full l hl hm hz hk hf hh=>exact key rfl
theorem Lp.clone {call:eE} {f ty size:Nat} {α:Type} {R:RT α} {z:dA} {v:AV} {l:List α} (h:Lp call f [v] z [] (aLB ty size R z l)) (hR:∀ {z1 z2:dA} {cs:List C} {a:α},R z1 cs a→R z2 cs a) (hm:l.length≤9223372036854775807):FC call f [v] z fun v' z'=>SZ size R (zd z z') v' l:=fun mem nx hh=>by
  obtain ⟨w,mem',nx',z',H',h1,h2,h3,h4,h5,h6,h7,cs,e1,hcl,e2,c,e3,hc⟩:=h mem nx hh
  subst e1 e2 e3
  obtain ⟨g1,g2⟩:=h4.h _ (List.mem_singleton.2 rfl)
  rcases g2 with ⟨h0,hw⟩ | ⟨b,hw,h8⟩
  · have e : l = [] := List.eq_nil_of_length_eq_zero (by omega)
    subst e
    injection hw with hw
    subst hw
    exact ⟨_,mem',nx',z',[],h1,h2,h3,h4.sub (List.nil_sublist _),h5,h6,fun b hb=>by simp [pR] at hb,rfl,.nil⟩
  · injection hw with hw
    subst hw
    have hfb:b∈pR [HA.row (.c (.sl b 0 l.length size)) ty size l.length cs]:=by simp [pR,HA.fp]
    refine ⟨_,mem',nx',fun x y=>z' x y∨(x=b∧y=.cells ty cs),[],h1,h2,h3,⟨fun x k hx=>?_,fun a ha=>by simp at ha,fun x hx=>by simp [pR] at hx,by simp [pR]⟩,⟨fun _ _ hx=>.inl hx⟩,fun x k hx=>?_,fun x hx=>by simp [pR] at hx,rfl,?_⟩
    · rcases hx with hx | ⟨rfl,rfl⟩
      · obtain ⟨k1, k2, _⟩ := h4.z x k hx
        exact ⟨k1,k2,by simp [pR]⟩
      · exact ⟨h8,h4.lt _ hfb,by simp [pR]⟩
    · rcases hx with hx | ⟨rfl,rfl⟩
      · exact .inl hx
      · rcases h7 _ hfb with k | k
        · exact .inr (.inl k)
        · simp [pR] at k
    · refine CL.sz (ty:=ty) (cs:=cs) ⟨hcl.1,fun i a hi=>⟨(hcl.2 i a hi).1,hR (hcl.2 i a hi).2⟩⟩ rfl hm ⟨.inr ⟨rfl,rfl⟩,fun k' hb=>(h4.z b k' hb).2.2 hfb,rfl⟩
open Go.RowKit
open Go.Eng (Od need need_pos iE kN binV binBV setL_length)
section
variable {call:eE} {B:pK} {fs:Sf} {l:List I} {Q:Sf→Prop} {d:Nat} {U:dA} {G pre:List HA}
theorem bFf {H H':List HA} (h:H.Perm H'):(pR H).Perm (pR H'):=by
 induction h with
 | nil=>exact .refl _
 | cons a _ ih=>rw [iJ,iJ];exact ih.append_left _
 | swap a b l=>rw [iJ,iJ,iJ,iJ,← List.append_assoc,← List.append_assoc];exact List.perm_append_comm.append_right _
 | trans _ _ h1 h2=>exact h1.trans h2
theorem aD8 {H':List HA} (hp:fs.H.Perm H') (hw:FL call B l (fs.heap H') Q):FL call B l fs Q:=fun st r=>by
 have hf:=bFf hp
 refine hw st ⟨r.env,⟨fun b k hb=>?_,fun a ha=>r.hold.h a (hp.mem_iff.2 ha),fun b hb=>r.hold.lt b (hf.mem_iff.2 hb),hf.nodup r.hold.nd⟩,r.le,r.old,fun b hb=>r.own b (hf.mem_iff.2 hb),r.zle,r.zin⟩
 obtain ⟨h1,h2,h3⟩:=r.hold.z b k hb
 exact ⟨h1,h2,fun h=>h3 (hf.mem_iff.2 h)⟩
end
theorem FC.lent {call:eE} {f:Nat} {args:List AV} {z:dA} {G:List HA} {Post:AV→dA→Prop} (h:FC call f args (tz z G) Post) (hG:∀ a,a∈G→∃ b k,a=.blk b k) :
    Lp call f args z G fun v z' H'=>H'=G∧∃ z1,Post v z1∧zle (zd (tz z G) z1) z':=fun mem nx hh=>by
  have hfp:∀ b,b∈pR G↔∃ k,HA.blk b k∈G:=fun b=>by
    constructor
    · intro hb
      obtain ⟨a,ha,hb⟩:=uY.1 hb
      obtain ⟨b',k,rfl⟩:=hG a ha
      simp [HA.fp] at hb
      subst hb
      exact ⟨k,ha⟩
    · rintro ⟨k,hk⟩
      exact uY.2 ⟨_,hk,by simp [HA.fp]⟩
  obtain ⟨v, mem', nx', z1, H', h1, h2, h3, h4, h5, h6, h7, e, hp⟩ := h mem nx ⟨fun b k hb => by
    rcases hb with hb | hb
    · obtain ⟨g1, g2, _⟩ := hh.z b k hb
      exact ⟨g1,g2,by simp [pR]⟩
    · exact ⟨hh.h _ hb,hh.lt b ((hfp b).2 ⟨k,hb⟩),by simp [pR]⟩,fun a ha=>by simp at ha,fun b hb=>by simp [pR] at hb,by simp [pR]⟩
  subst e
  refine ⟨v,mem',nx',fun b k=>z1 b k∧b ∉ pR G,G,h1,h2,fun b hb hn=>h3 b hb (by simp [pR]),⟨fun b k hb=>?_,fun a ha=>?_,fun b hb=>Nat.lt_of_lt_of_le (hh.lt b hb) h2,hh.nd⟩,⟨fun b k hb=>⟨h5 b k (.inl hb),(hh.z b k hb).2.2⟩⟩,fun b k hb=>?_,fun b hb=>.inr hb,rfl,z1,hp,⟨fun b k hb=>⟨hb.1,fun hn=>?_⟩⟩⟩
  · obtain ⟨g1, g2, _⟩ := h4.z b k hb.1
    exact ⟨g1,g2,hb.2⟩
  · obtain ⟨b, k, rfl⟩ := hG a ha
    show mem'.get b=some k
    rw [h3 b (hh.lt b ((hfp b).2 ⟨k,ha⟩)) (by simp [pR])]
    exact hh.h _ ha
  · rcases h6 b k hb.1 with (g | g) | g | g
    · exact .inl g
    · exact .inr (.inr ((hfp b).2 ⟨k,g⟩))
    · exact .inr (.inl g)
    · simp [pR] at g
  · obtain ⟨k', hk⟩ := (hfp b).1 hn
    exact hb.2.1 k' (.inr hk)
open Go.RowKit
open Go.Eng (Od need need_pos iE kN binV binBV setL_length aCf)
open Go.Num (nJ fV)
abbrev eW (x:UInt32):Value:=.int .u32 (x.toNat:Nat)
abbrev eN (n:Nat):Value:=.int .i64 (n:Nat)
def RE {α:Type} (e:α→Value):RT α:=fun _ cs a=>cs=[.v (e a)]
abbrev RW:RT UInt32:=RE eW
abbrev RN:RT Nat:=RE eN
instance:RMono (RE eW):=⟨fun _ h=>h⟩
instance:RMono (RE eN):=⟨fun _ h=>h⟩
def cE {α:Type} (e:α→Value) (l:List α):List C:=l.map fun a=>.v (e a)
section
variable {α:Type} {e:α→Value} {l:List α}
theorem aDH:(cE e l).length=l.length:=by simp [cE]
theorem aLy {a:α} {j:Nat} (h:l[j]? = some a):(cE e l)[j]? = some (.v (e a)):=by simp [cE,h]
theorem bII {j:Nat} {a:α} (h:j<l.length):kN (cE e l) j [.v (e a)]=cE e (l.set j a):=by
 rw [aCf,List.set_eq_take_append_cons_drop,if_pos h]
 simp [cE,List.map_take,List.map_drop]
theorem bHU (n:Nat) (a:α):Ld n [.v (e a)]=cE e (List.replicate n a):=by
 induction n with
 | zero=>rfl
 | succ n ih=>rw [Ld,ih,List.replicate_succ];rfl
theorem aWc {r:List α}:cE e l++cE e r=cE e (l++r):=by simp [cE]
theorem Oe {z:dA}:CL 1 (RE e) z (cE e l) l:=by
 refine ⟨by rw [aDH,Nat.mul_one],fun i a h=>?_⟩
 have hlt:=(List.getElem?_eq_some_iff.1 h).1
 have:((cE e l).drop (i * 1)).take 1=[.v (e a)]:=by
  apply List.ext_getElem?
  intro q
  cases q with
  | zero=>rw [List.getElem?_take,if_pos (by omega),List.getElem?_drop,Nat.mul_one,Nat.add_zero,aLy h];rfl
  | succ q=>rw [List.getElem?_eq_none (by rw [List.length_take];omega),List.getElem?_eq_none (by simp)]
 rw [this]
 exact ⟨rfl,rfl⟩
end
abbrev Ed {α:Type} (e:α→Value) (u:AV) (ty:Nat) (l:List α):HA:=.row u ty 1 l.length (cE e l)
abbrev Fq {α:Type} (e:α→Value) (b:Nat) (ty:Nat) (l:List α):HA:=.blk b (.cells ty (cE e l))
def PE (z:dA) (p:AV) (w:Value):Prop:=∃ b o,p=.c (.ptr b o)∧At z b o [.v w]
theorem aZv {r:List UInt32} {j:Nat} (h:j<r.length):eW r[j]=.int .u32 (nJ r j:Nat):=by
 simp [eW,nJ,List.getD_eq_getElem?_getD,List.getElem?_eq_getElem h]
theorem bAW {r:List Nat} {j:Nat} (h:j<r.length):eN r[j]=.int .i64 (fV r j:Nat):=by
 simp [eN,fV,List.getD_eq_getElem?_getD,List.getElem?_eq_getElem h]
section
variable {call:eE} {B:pK} {fs:Sf} {l:List I} {Q:Sf→Prop} {d:Nat}
theorem Lu {α:Type} {size n:Nat} {R:RT α} {zz:dA} {x:Od} {v:AV} {r:List α} (hx:fs.ev x=v) (hr:SZ size R zz v r) (hn:r.length=n) (hw:FL call B l (fs.put d (.c (.v (.int .i64 (n:Nat))))) Q):FL call B (⟨some d,none,.len false x⟩::l) fs Q:=aCT hx (by rw [← hn];exact hr.len) hw
theorem Hh {α:Type} {e:α→Value} {zz:dA} {x i:Od} {v:AV} {r:List α} {kd:IntKind} {z:Int} (hx:fs.ev x=v) (hi:fs.ev i=.c (.v (.int kd z))) (hr:SZ 1 (RE e) zz v r) (j:Nat) (hj:z=(j:Int)) (h:j<r.length)
  (hw:∀ p,PE zz p (e r[j])→FL call B l (fs.put d p) Q):FL call B (⟨some d,none,.iad 1 x i⟩::l) fs Q:=
 dE hx hi hr j hj r[j] (List.getElem?_eq_getElem h) fun b p cs ha hR=>hw _ ⟨b,p,rfl,by rw [← hR];exact ha⟩
theorem sJ {zz:dA} {x i:Od} {v:AV} {r:List UInt32} {kd:IntKind} {z:Int} (hx:fs.ev x=v) (hi:fs.ev i=.c (.v (.int kd z))) (hr:SZ 1 RW zz v r) (j:Nat) (hj:z=(j:Int)) (h:j<r.length)
  (hw:∀ p,PE zz p (.int .u32 (nJ r j:Nat))→FL call B l (fs.put d p) Q):FL call B (⟨some d,none,.iad 1 x i⟩::l) fs Q:=Hh hx hi hr j hj h (by rw [aZv h];exact hw)
theorem yR {zz:dA} {x i:Od} {v:AV} {r:List Nat} {kd:IntKind} {z:Int} (hx:fs.ev x=v) (hi:fs.ev i=.c (.v (.int kd z))) (hr:SZ 1 RN zz v r) (j:Nat) (hj:z=(j:Int)) (h:j<r.length)
  (hw:∀ p,PE zz p (.int .i64 (fV r j:Nat))→FL call B l (fs.put d p) Q):FL call B (⟨some d,none,.iad 1 x i⟩::l) fs Q:=Hh hx hi hr j hj h (by rw [bAW h];exact hw)
theorem uO {x:Od} {p:AV} {w:Value} (hx:fs.ev x=p) (hp:PE fs.z p w) (hw:FL call B l (fs.put d (.c (.v w))) Q):FL call B (⟨some d,none,.load false 1 x⟩::l) fs Q:=by
 obtain ⟨b,o,rfl,h⟩:=hp
 exact nQ (off:=0) hx h rfl (by simp) rfl hw
theorem aGM {x:Od} {b p ty:Nat} {r:List UInt32} (j:Nat) (hx:fs.ev x=.c (.ptr b p)) (hm:Fq eW b ty r∈fs.H) (hj:p=j) (h:j<r.length) (hw:FL call B l (fs.put d (.c (.v (.int .u32 (nJ r j:Nat))))) Q):FL call B (⟨some d,none,.load false 1 x⟩::l) fs Q:=fun st rf =>
 aWo ((rf.ev x).trans hx) (rf.hold.h _ hm) (by rw [hj,aLy (List.getElem?_eq_getElem h),aZv h]) (hw _ (rf.put _ _))
theorem aWS {x:Od} {b p ty:Nat} {r:List Nat} (j:Nat) (hx:fs.ev x=.c (.ptr b p)) (hm:Fq eN b ty r∈fs.H) (hj:p=j) (h:j<r.length) (hw:FL call B l (fs.put d (.c (.v (.int .i64 (fV r j:Nat))))) Q):FL call B (⟨some d,none,.load false 1 x⟩::l) fs Q:=fun st rf =>
 aWo ((rf.ev x).trans hx) (rf.hold.h _ hm) (by rw [hj,aLy (List.getElem?_eq_getElem h),bAW h]) (hw _ (rf.put _ _))
theorem Ek {x y:Od} {b p ty:Nat} {r:List UInt32} {z:Int} {H':List HA} (j n:Nat) (hx:fs.ev x=.c (.ptr b p)) (hy:fs.ev y=.c (.v (.int .u32 z))) (hr:By fs.H (Fq eW b ty r) (Fq eW b ty (r.set j (UInt32.ofNat n))) H') (hz:z=(n:Int)) (hn:n<4294967296) (hp:p=j) (hj:j<r.length)
  (hw:FL call B l (fs.heap H') Q):FL call B (⟨none,none,.store 1 x y⟩::l) fs Q:=by
 subst hz hp
 refine aGQ (ds:=[.v (eW (UInt32.ofNat n))]) hx hy ?_ (by rw [bII hj];exact hr) rfl (by rw [aDH];omega) hw
 rw [eW,Go.Num.ofNat_toNat hn]
 rfl
theorem aXn {x y:Od} {b p ty:Nat} {r:List Nat} {z:Int} {H':List HA} (j n:Nat) (hx:fs.ev x=.c (.ptr b p)) (hy:fs.ev y=.c (.v (.int .i64 z))) (hr:By fs.H (Fq eN b ty r) (Fq eN b ty (r.set j n)) H') (hz:z=(n:Int)) (hp:p=j) (hj:j<r.length)
  (hw:FL call B l (fs.heap H') Q):FL call B (⟨none,none,.store 1 x y⟩::l) fs Q:=by
 subst hz hp
 exact aGQ (ds:=[.v (eN n)]) hx hy rfl (by rw [bII hj];exact hr) rfl (by rw [aDH];omega) hw
theorem aSU {ty bytes n:Nat} {lo c:Od} {kd kd':IntKind} {z:Int} (hl:fs.ev lo=.c (.v (.int kd z))) (hc:fs.ev c=.c (.v (.int kd' z))) (hz:z=(n:Int)) (h:n * bytes≤140737488355328) (hn:n≤9223372036854775807)
    (hw:∀ b,FL call B l (fs.own d (.c (.sl b 0 n 1)) (Fq eW b ty (List.replicate n 0))) Q):FL call B (⟨some d,none,.mksl ty 1 bytes [.int .u32 0] lo c⟩::l) fs Q:=
  aLz (w := fun b => .c (.sl b 0 n 1)) (fun _ => rfl) (fun _ => rfl) (fun st r => by
    simp only [eP,r.ev,hl,hc,AV.int?,hz]
    rw [need_pos ⟨by omega,by omega,bLI.2 h,by omega⟩]
    rw [← bHU];rfl) hw
theorem bHN {ty bytes n:Nat} {lo c:Od} {kd kd':IntKind} {z:Int} (hl:fs.ev lo=.c (.v (.int kd z))) (hc:fs.ev c=.c (.v (.int kd' z))) (hz:z=(n:Int)) (h:n * bytes≤140737488355328) (hn:n≤9223372036854775807)
    (hw:∀ b,FL call B l (fs.own d (.c (.sl b 0 n 1)) (Fq eN b ty (List.replicate n 0))) Q):FL call B (⟨some d,none,.mksl ty 1 bytes [.int .i64 0] lo c⟩::l) fs Q:=
  aLz (w := fun b => .c (.sl b 0 n 1)) (fun _ => rfl) (fun _ => rfl) (fun st r => by
    simp only [eP,r.ev,hl,hc,AV.int?,hz]
    rw [need_pos ⟨by omega,by omega,bLI.2 h,by omega⟩]
    rw [← bHU];rfl) hw
theorem aAU {α:Type} {e:α→Value} {d1 ty ty' bytes:Nat} {zero zero':List Value} {x y:Od} {u:AV} {r:List α} {w:Value} {a:α} {H':AV→List HA} (hy:fs.ev y=.c (.v w)) (hw0:w=e a) (hz:(Ld 1 (zero.map fun v=>C.v v)).length=1)
    (hx:∀ b,(fs.own d1 (.c (.sl b 0 1 1)) (.blk b (.cells ty [.v w]))).ev x=u) (hr:∀ u',By fs.H (Ed e u ty' r) (Ed e u' ty' (r++[a])) (H' u')) (hb:(r.length+1) * bytes≤140737488355328) (hn:r.length+1≤9223372036854775807)
    (hw:∀ b (c:C),pO c c=true→FL call B l ⟨aBk (aBk fs.e d1 (.c (.sl b 0 1 1))) d (.c c),fs.z,.blk b (.cells ty [.v w])::H' (.c c)⟩ Q) :
    FL call B (⟨some d1,none,.bslice ty 1 1 zero [(0,y)]⟩::⟨some d,none,.app ty' 1 bytes zero' x (.t d1)⟩::l) fs Q:=by
  subst hw0
  refine cX (cs:=[.v (e a)]) ?_ fun b=>?_
  · obtain ⟨c, hc⟩ := List.length_eq_one_iff.1 hz
    rw [hc]
    simp only [aCi,hy,AV.cells?]
    rfl
  · refine mV (m := 1) (cs := cE e r) (news := [.v (e a)]) (b := b) (H' := fun u' => .blk b (.cells ty [.v (e a)]) :: H' u') (hx b) (by show aBk fs.e d1 _ d1 = _; rw [aGy, if_pos rfl]) mem0 rfl (fun u' => mR ?_) hb hn fun c hc => hw b c hc
    have:By fs.H (Ed e u ty' r) (.row u' ty' 1 (r++[a]).length (cE e (r++[a]))) (H' u'):=hr u'
    rw [show cE e (r++[a])=cE e r++[.v (e a)] from aWc.symm,show (r++[a]).length=r.length+1 by simp] at this
    exact this
def aZH (fs:Sf) (o:Option Od) (dflt i:Nat):Prop:=match o with
 | none=>i=dflt
 | some x=>∃ k,fs.ev x=.c (.v (.int k (i:Nat)))
theorem aWi {st:AS} (rf:Rf B fs st) {o:Option Od} {dflt i:Nat} (h:aZH fs o dflt i):bnd st o dflt=some (i:Int):=by
 cases o with
 | none=>simp only [aZH] at h;subst h;rfl
 | some x =>
  obtain ⟨k,h⟩:=h
  simp only [bnd,rf.ev,h]
  rfl
def aXf (v:AV) (i j:Nat):AV:=match v with
 | .c (.sl b o n s)=>if i=0 then .c (.sl b o j s) else if i<n then .c (.sl b (o+i * s) (j - i) s) else .c .em
 | v=>v
theorem SZ.sub {α:Type} {size:Nat} {R:RT α} {zz:dA} {v:AV} {r:List α} (h:SZ size R zz v r) {i j:Nat} (hij:i≤j) (hj:j≤r.length):SZ size R zz (aXf v i j) ((r.take j).drop i):=by
  cases h with
  | nil => simp only [aXf]; have : (([] : List α).take j).drop i = [] := by simp
           rw [this];exact .nil
  | em => simp only [aXf]; have : (([] : List α).take j).drop i = [] := by simp
          rw [this];exact .em
  | sl b o n k full l hl hm hz hk hf h =>
    subst hl
    have Ff:((r.take j).drop i).length=j - i:=by rw [List.length_drop,List.length_take];omega
    have hget:∀ q a,((r.take j).drop i)[q]? = some a→r[i+q]? = some a:=fun q a hq=>by
      rw [List.getElem?_drop,List.getElem?_take] at hq
      split at hq
      · exact hq
      · cases hq
    have hjs:j * size≤r.length * size:=Nat.mul_le_mul_right _ hj
    have his:i * size+(j - i) * size=j * size:=by rw [← Nat.add_mul];congr 1;omega
    have key:SZ size R zz (.c (.sl b (o+i * size) (j - i) size)) ((r.take j).drop i):=by
      refine .sl b _ _ k full _ Ff (by omega) hz hk (by omega) fun q a hq=>?_
      have:=h (i+q) a (hget q a hq)
      rw [Nat.add_mul] at this
      rw [Nat.add_assoc]
      exact this
    simp only [aXf]
    by_cases h0:i=0
    · subst h0
      rw [if_pos rfl]
      simpa using key
    · rw [if_neg h0]
      by_cases h1:i<r.length
      · rw [if_pos h1];exact key
      · rw [if_neg h1]
        have e:(r.take j).drop i=[]:=List.eq_nil_of_length_eq_zero (by omega)
        rw [e];exact .em
theorem aOt {α:Type} {size:Nat} {R:RT α} {zz:dA} {r:List α} {x:Od} {lo hi:Option Od} {v:AV} {i j:Nat} (hx:fs.ev x=v) (hr:SZ size R zz v r) (hlo:aZH fs lo 0 i) (hhi:aZH fs hi r.length j) (hij:i≤j) (hj:j≤r.length)
    (hw:FL call B l (fs.put d (aXf v i j)) Q):FL call B (⟨some d,none,.slc size x lo hi⟩::l) fs Q:=
  aGg (fun _ => rfl) (fun st rf => by
    have h1:=aWi rf hlo
    have h2:=aWi rf hhi
    simp only [bQ,rf.ev,hx]
    cases hr with
    | nil => simp at hj; subst hj; have : i = 0 := by omega
             subst this;simp only [h1,List.length_nil] at h2 ⊢;simp only [h2];rfl
    | em => simp at hj; subst hj; have : i = 0 := by omega
            subst this;simp only [h1,List.length_nil] at h2 ⊢;simp only [h2];rfl
    | sl b o n k full _ hl hm hz hk hf h =>
      subst hl
      simp only [h1,h2]
      rw [need_pos (by refine ⟨?_,?_,?_,?_⟩<;>first | trivial | omega)]
      simp only [aXf,Int.toNat_natCast]
      congr 1
      by_cases h0:i=0
      · subst h0;simp
      · rw [if_neg (by omega), if_neg h0]
        by_cases h3:i<r.length
        · rw [if_pos (by omega),if_pos h3]
        · rw [if_neg (by omega),if_neg h3]) hw
theorem bKL {size b o n:Nat} {x:Od} {lo hi:Option Od} {i j:Nat} (hx:fs.ev x=.c (.sl b o n size)) (hlo:aZH fs lo 0 i) (hhi:aZH fs hi n j) (hij:i≤j) (hj:j≤n) (hin:i<n)
    (hw:FL call B l (fs.put d (.c (.sl b (o+i * size) (j - i) size))) Q):FL call B (⟨some d,none,.slc size x lo hi⟩::l) fs Q:=
  aGg (fun _ => rfl) (fun st rf => by
    have h1:=aWi rf hlo
    have h2:=aWi rf hhi
    simp only [bQ,rf.ev,hx,h1,h2]
    rw [need_pos (by refine ⟨?_,?_,?_,?_⟩<;>first | trivial | omega)]
    simp only [Int.toNat_natCast]
    congr 1
    by_cases h0:i=0
    · subst h0;simp
    · rw [if_neg (by omega),if_pos (by omega)]) hw
theorem bMy {x i:Od} {s:ByteArray} {kd:IntKind} {z:Int} (hx:fs.ev x=.c (.v (.string s))) (hi:fs.ev i=.c (.v (.int kd z))) (j:Nat) (hj:z=(j:Int)) (h:j<s.size) (hw:FL call B l (fs.put d (.c (.v (.int .u8 ((Go.Eng.bget s j).toNat:Nat))))) Q):FL call B (⟨some d,none,.ixs x i⟩::l) fs Q:=
  aGg (fun _ => rfl) (fun st rf => by
    subst hj
    simp only [bQ,rf.ev,hx,hi,AV.val?,AV.int?]
    rw [need_pos ⟨by omega,by omega⟩,Int.toNat_natCast]
    rfl) hw
theorem dK {x:Od} {b o ty:Nat} {cs:List C} {c:C} (hx:fs.ev x=.c (.ptr b o)) (hm:HA.blk b (.cells ty cs)∈fs.H) (h:cs[o]? = some c) (hw:FL call B l (fs.put d (.c c)) Q):FL call B (⟨some d,none,.load false 1 x⟩::l) fs Q:=
 fun st r=>aWo ((r.ev x).trans hx) (r.hold.h _ hm) h (hw _ (r.put _ _))
theorem iP {x:Od} {b o ty:Nat} {cs:List C} {c0 c1:C} (hx:fs.ev x=.c (.ptr b o)) (hm:HA.blk b (.cells ty cs)∈fs.H) (h:(cs.drop o).take 2=[c0,c1]) (hw:FL call B l (fs.put d (.agg [c0,c1])) Q):FL call B (⟨some d,none,.load true 2 x⟩::l) fs Q:=by
 refine mQ hx hm ?_ (by rw [h];rfl) hw
 have:=congrArg List.length h
 rw [List.length_take,List.length_drop] at this
 simp at this;omega
theorem sL {x:Od} {b o ty:Nat} {cs:List C} {c0 c1 c2 c3:C} (hx:fs.ev x=.c (.ptr b o)) (hm:HA.blk b (.cells ty cs)∈fs.H) (h:(cs.drop o).take 4=[c0,c1,c2,c3]) (hw:FL call B l (fs.put d (.agg [c0,c1,c2,c3])) Q):FL call B (⟨some d,none,.load true 4 x⟩::l) fs Q:=by
 refine mQ hx hm ?_ (by rw [h];rfl) hw
 have:=congrArg List.length h
 rw [List.length_take,List.length_drop] at this
 simp at this;omega
theorem iI {x y:Od} {b ty:Nat} {a0 a1 c0 c1:C} {H':List HA} (hx:fs.ev x=.c (.ptr b 0)) (hy:fs.ev y=.agg [c0,c1]) (hr:By fs.H (.blk b (.cells ty [a0,a1])) (.blk b (.cells ty [c0,c1])) H') (hw:FL call B l (fs.heap H') Q):FL call B (⟨none,none,.store 2 x y⟩::l) fs Q:=
 vB hx hy rfl hr rfl rfl (by simp) hw
theorem pA {x y:Od} {b ty:Nat} {a0 a1 a2 a3 c0 c1 c2 c3:C} {H':List HA} (hx:fs.ev x=.c (.ptr b 0)) (hy:fs.ev y=.agg [c0,c1,c2,c3]) (hr:By fs.H (.blk b (.cells ty [a0,a1,a2,a3])) (.blk b (.cells ty [c0,c1,c2,c3])) H') (hw:FL call B l (fs.heap H') Q):FL call B (⟨none,none,.store 4 x y⟩::l) fs Q:=
 vB hx hy rfl hr rfl rfl (by simp) hw
theorem oH {ty:Nat} {v0 v1:Value} (hw:∀ b,FL call B l (fs.own d (.c (.ptr b 0)) (.blk b (.cells ty [.v v0,.v v1]))) Q):FL call B (⟨some d,none,.alloc ty [v0,v1]⟩::l) fs Q:=kC hw
theorem uM {ty:Nat} {v0 v1 v2 v3:Value} (hw:∀ b,FL call B l (fs.own d (.c (.ptr b 0)) (.blk b (.cells ty [.v v0,.v v1,.v v2,.v v3]))) Q):FL call B (⟨some d,none,.alloc ty [v0,v1,v2,v3]⟩::l) fs Q:=kC hw
theorem iU {ty:Nat} {x:Od} {cs:List C} (hx:fs.ev x=.agg cs) (hw:∀ b,FL call B l (fs.own d (.c (.ptr b 0)) (.blk b (.cells ty cs))) Q):FL call B (⟨some d,none,.box ty x⟩::l) fs Q:=aDN hx rfl hw
theorem mN {zero:List Value} {parts:List (Nat×Nat×Od)} {cs:List C} (h:aS6 fs.ev (zero.map fun v=>.v v) parts=some cs) (hw:FL call B l (fs.put d (.agg cs)) Q):FL call B (⟨some d,none,.build zero parts⟩::l) fs Q:=He h hw
end
theorem aAV {x:Od} {off:Nat} {cs:List C} {c:C} {call:eE} {B:pK} {fs:Sf} {l:List I} {Q:Sf→Prop} {d:Nat} (hx:fs.ev x=.agg cs) (h:cs[off]? = some c) (hw:FL call B l (fs.put d (.c c)) Q):FL call B (⟨some d,none,.fld false 1 off x⟩::l) fs Q:=by
 have hlt:=(List.getElem?_eq_some_iff.1 h).1
 refine bIt hx (by omega) ?_ hw
 have:(cs.drop off).take 1=[c]:=by
  apply List.ext_getElem?
  intro q
  cases q with
  | zero=>rw [List.getElem?_take,if_pos (by omega),List.getElem?_drop,Nat.add_zero,h];rfl
  | succ q=>rw [List.getElem?_eq_none (by rw [List.length_take];omega),List.getElem?_eq_none (by simp)]
 rw [this];rfl
theorem aGw {x:Od} {off:Nat} {cs:List C} {c0 c1:C} {call:eE} {B:pK} {fs:Sf} {l:List I} {Q:Sf→Prop} {d:Nat} (hx:fs.ev x=.agg cs) (h:(cs.drop off).take 2=[c0,c1]) (hw:FL call B l (fs.put d (.agg [c0,c1])) Q):FL call B (⟨some d,none,.fld true 2 off x⟩::l) fs Q:=by
 refine bIt hx ?_ (by rw [h];rfl) hw
 have:=congrArg List.length h
 rw [List.length_take,List.length_drop] at this
 simp at this;omega
section
variable {call:eE} {B:pK} {an:List Nat} {j:Nat} {l:List CE.D} {fs:Sf} {T:dA} {tag last:Nat} {pj lj:List Nat} {Q:Sf→Prop} {i:I} {d:Nat} {x:Od} {af:List Nat}
theorem bNo {p:AV} {zz:dA} {k:IntKind} {n:Int} (hi:i.o=.load false 1 x) (hd:i.d=some d) (hg:GK fs i) (hx:fs.ev x=p) (hp:PE zz p (.int k n)) (hz:∀ b k,zz b k→T b k) (hw:FG call B an (j+1) l (fs.put d (.c (.v (.int k n)))) T tag last pj (j::lj) Q):FG call B an j (⟨i,af⟩::l) fs T tag last pj lj Q:=by
 obtain ⟨b,o,rfl,h⟩:=hp
 exact oD (v:=.c (.v (.int k n))) (off:=0) hi hd hg hx h hz rfl (by simp) rfl (by simp [Iu,pO,aTC]) hw
theorem aXk {b o ty:Nat} {cs:List C} {c:C} (hi:i.o=.load false 1 x) (hd:i.d=some d) (hg:GK fs i) (hx:fs.ev x=.c (.ptr b o)) (hT:T b (.cells ty cs)) (h:cs[o]? = some c) (hs:Iu (.c c) (.c c)=true) (hw:FG call B an (j+1) l (fs.put d (.c c)) T tag last pj (j::lj) Q):FG call B an j (⟨i,af⟩::l) fs T tag last pj lj Q:=by
 have hlt:=(List.getElem?_eq_some_iff.1 h).1
 have e:(cs.drop o).take 1=[c]:=by
  apply List.ext_getElem?
  intro q
  cases q with
  | zero=>rw [List.getElem?_take,if_pos (by omega),List.getElem?_drop,Nat.add_zero,h];rfl
  | succ q=>rw [List.getElem?_eq_none (by rw [List.length_take];omega),List.getElem?_eq_none (by simp)]
 exact Hi hi hd hg hx hT rfl (by omega) (by rw [e];rfl) hs hw
theorem bQ3 {b o ty:Nat} {cs:List C} {c0 c1:C} (hi:i.o=.load true 2 x) (hd:i.d=some d) (hg:GK fs i) (hx:fs.ev x=.c (.ptr b o)) (hT:T b (.cells ty cs)) (h:(cs.drop o).take 2=[c0,c1]) (hs:Iu (.agg [c0,c1]) (.agg [c0,c1])=true) (hw:FG call B an (j+1) l (fs.put d (.agg [c0,c1])) T tag last pj (j::lj) Q):FG call B an j (⟨i,af⟩::l) fs T tag last pj lj Q:=by
 refine Hi hi hd hg hx hT rfl ?_ (by rw [h];rfl) hs hw
 have:=congrArg List.length h
 rw [List.length_take,List.length_drop] at this
 simp at this;omega
theorem bHm {b o ty:Nat} {cs:List C} {c0 c1 c2 c3:C} (hi:i.o=.load true 4 x) (hd:i.d=some d) (hg:GK fs i) (hx:fs.ev x=.c (.ptr b o)) (hT:T b (.cells ty cs)) (h:(cs.drop o).take 4=[c0,c1,c2,c3]) (hs:Iu (.agg [c0,c1,c2,c3]) (.agg [c0,c1,c2,c3])=true) (hw:FG call B an (j+1) l (fs.put d (.agg [c0,c1,c2,c3])) T tag last pj (j::lj) Q):FG call B an j (⟨i,af⟩::l) fs T tag last pj lj Q:=by
 refine Hi hi hd hg hx hT rfl ?_ (by rw [h];rfl) hs hw
 have:=congrArg List.length h
 rw [List.length_take,List.length_drop] at this
 simp at this;omega
theorem aPe {b p ty:Nat} {r:List UInt32} (q:Nat) (hi:i.o=.load false 1 x) (hd:i.d=some d) (hg:GK fs i) (hx:fs.ev x=.c (.ptr b p)) (hT:T b (.cells ty (cE eW r))) (hq:p=q) (h:q<r.length) (hw:FG call B an (j+1) l (fs.put d (.c (.v (.int .u32 (nJ r q:Nat))))) T tag last pj (j::lj) Q):FG call B an j (⟨i,af⟩::l) fs T tag last pj lj Q:=
 aXk hi hd hg hx hT (by rw [hq,aLy (List.getElem?_eq_getElem h),aZv h]) (by simp [Iu,pO,aTC]) hw
theorem yP (s:Nat) {P:Prop} [Decidable P] (h:fs.e s=.c (.v (.bool (decide P)))) (h1:P→FG call B an j l (fs.put s (.c (.v (.bool true)))) T tag last pj lj Q) (h2:¬ P→FG call B an j l (fs.put s (.c (.v (.bool false)))) T tag last pj lj Q):FG call B an j l fs T tag last pj lj Q:=aDQ s h (fun h=>h1 (of_decide_eq_true h)) (fun h=>h2 (of_decide_eq_false h))
theorem aLH (s:Nat) {P:Prop} [Decidable P] (h:fs.e s=.c (.v (.bool (!decide P)))) (h1:¬ P→FG call B an j l (fs.put s (.c (.v (.bool true)))) T tag last pj lj Q) (h2:P→FG call B an j l (fs.put s (.c (.v (.bool false)))) T tag last pj lj Q):FG call B an j l fs T tag last pj lj Q:=aDQ s h (fun h=>h1 (by simpa using h)) (fun h=>h2 (by simpa using h))
end
section
variable {call:eE} {B:pK} {fs:Sf}
theorem bBb {α:Type} {size:Nat} {R:RT α} [RMono R] {G:AS→Prop} {u:AV} {ty n:Nat} {cs:List C} {r:List α} {p q:List HA} {z0:dA} (e:fs.H=p++.row u ty size n cs::q) (hz0:zle z0 fs.z) (hc:CL size R (zd z0 fs.z) cs r) (hn:r.length=n) (hm:n≤9223372036854775807)
    (hw:∀ z',zle fs.z z'→SZ size R (zd z0 z') u r→∀ st,Rf B (fs.frz z' (p++q)) st→G st):∀ st,Rf B fs st→G st:=fun st rf=>by
  obtain ⟨g1,g2⟩:=rf.hold.h (.row u ty size n cs) (by rw [e];simp)
  rcases g2 with ⟨h0,rfl⟩ | ⟨b,rfl,h3⟩
  · have hr0 : r = [] := List.eq_nil_of_length_eq_zero (by omega)
    subst hr0
    refine hw fs.z (zle.refl _) .nil st ?_
    have hsub:(p++q).Sublist fs.H:=by rw [e];exact (List.Sublist.refl p).append (List.sublist_cons_self _ _)
    exact ⟨rf.env,rf.hold.sub hsub,rf.le,rf.old,fun b hb=>rf.own b ((Eh hsub).subset hb),rf.zle,rf.zin⟩
  · have h1 := rf.frz (p := p) (q := q) (b := b) (k := .cells ty cs) (a := .row (.c (.sl b 0 n size)) ty size n cs) e rfl (fun m hm => by
      obtain ⟨_,hm⟩:=hm
      rcases hm with ⟨_,hm⟩ | ⟨b',hb',hm⟩
      · cases hm
      · injection hb' with hb';injection hb' with hb';subst hb';exact hm)
    have hnb:∀ k',¬ z0 b k':=fun k' hb=>(rf.hold.z b k' (hz0 b k' hb)).2.2 (by rw [e,jM,iJ];simp [HA.fp])
    exact hw _ ⟨fun _ _ h=>.inl h⟩ ((hc.mono (jO ⟨fun _ _ h=>.inl h⟩)).sz hn hm ⟨.inr ⟨rfl,rfl⟩,hnb,rfl⟩) st h1
variable {α:Type} {e:α→Value} [RMono (RE e)]
theorem bLh {l:List I} {Q:Sf→Prop} {u:AV} {ty:Nat} {r:List α} {p q:List HA} (z0:dA) (h:fs.H=p++Ed e u ty r::q) (hz0:zle z0 fs.z) (hm:r.length≤9223372036854775807) (hw:∀ z',zle fs.z z'→SZ 1 (RE e) (zd z0 z') u r→FL call B l (fs.frz z' (p++q)) Q):FL call B l fs Q:=bBb h hz0 Oe rfl hm hw
theorem bIN {l:List I} {Q:Sf→Prop} {b ty n:Nat} {r:List α} {p q:List HA} (z0:dA) (h:fs.H=p++Fq e b ty r::q) (hz0:zle z0 fs.z) (hn:r.length=n) (hm:n≤9223372036854775807) (hw:∀ z',zle fs.z z'→SZ 1 (RE e) (zd z0 z') (.c (.sl b 0 n 1)) r→FL call B l (fs.frz z' (p++q)) Q):FL call B l fs Q:=
 Dq (n:=n) (size:=1) h (by rw [aDH];omega) (bBb (fs:=fs.heap _) (ty:=ty) (p:=p) (q:=q) (cs:=cE e r) rfl hz0 Oe hn hm hw)
end
theorem aWr {call:eE} {B:pK} {fs:Sf} {l:List I} {Q:Sf→Prop} {α:Type} {e:α→Value} {u:AV} {ty:Nat} {r:List α} {p q:List HA} (h:fs.H=p++Ed e u ty r::q) (hn:0<r.length) (h1:∀ b,u=.c (.sl b 0 r.length 1)→FL call B l (fs.heap (p++Fq e b ty r::q)) Q):FL call B l fs Q:=aGu h hn h1
theorem aJS {call:eE} {B:pK} {fs:Sf} {l:List I} {Q:Sf→Prop} {α:Type} {e:α→Value} {b ty n:Nat} {r:List α} {p q:List HA} (h:fs.H=p++Fq e b ty r::q) (hn:r.length=n) (hw:FL call B l (fs.heap (p++Ed e (.c (.sl b 0 n 1)) ty r::q)) Q):FL call B l fs Q:=by
 subst hn
 exact Dq h (by rw [aDH,Nat.mul_one]) hw
def LI (z0:dA) (H:List HA) (ls:List (Nat×AV)) (fs:Sf):Prop:=∃ e z Hx,fs=⟨e,z,Hx++H⟩∧zle z0 z∧Vx e ls
theorem LI.mk {z0 z:dA} {H:List HA} {ls:List (Nat×AV)} {e:Lq} (Hx:List HA) (hz:zle z0 z) (ha:Vx e ls):LI z0 H ls ⟨e,z,Hx++H⟩:=⟨e,z,Hx,rfl,hz,ha⟩
theorem LI.open {call:eE} {k:Nat} {B:pK} {c:XC} {Q:Exit→Sf→Prop} {z0:dA} {H:List HA} {ls:List (Nat×AV)} {fs:Sf} (h:LI z0 H ls fs) (hw:∀ e z,zle z0 z→FX call k B c ⟨aSl e ls,z,H⟩ Q):FX call k B c fs Q:=by
 obtain ⟨e,z,Hx,rfl,hz,ha⟩:=h
 exact zQ ha fun e=>uG (List.sublist_append_right _ _) (hw e z hz)
theorem Ik {call : eE} {k : Nat} {B : pK} {fs : Sf} {Q : Exit → Sf → Prop} {a b : XC} (J : Sf → Prop) (h : FX call k B a fs (bJh J Q)) (g : ∀ fs', J fs' → FX call k B b fs' Q) : FX call k B (.seq a b) fs Q := aT (bKd h fun e fs' q => by
  cases e with
  | normal=>exact g fs' q
  | _=>exact q)
theorem bHh {α:Type} {e:α→Value} {z:dA} {cs:List C} {l:List α} (h:CL 1 (RE e) z cs l):cs=cE e l:=by
 apply List.ext_getElem?
 intro i
 rcases Nat.lt_or_ge i l.length with hi | hi
 ·have h1:=(h.2 i l[i] (List.getElem?_eq_getElem hi)).2
  have h2:((cs.drop (i * 1)).take 1)[0]? = cs[i]?:=by rw [List.getElem?_take,if_pos (by omega),List.getElem?_drop,Nat.mul_one,Nat.add_zero]
  rw [← h2,show (cs.drop (i * 1)).take 1=[.v (e l[i])] from h1,aLy (List.getElem?_eq_getElem hi)]
  rfl
 rw [List.getElem?_eq_none (by rw [h.1];omega),List.getElem?_eq_none (by rw [aDH];exact hi)]
theorem Za {fs:Sf} {i b ty:Nat} {c0 c1:C} {rs:List RR} {vs:List AV} (hp:fs.e i=.c (.ptr b 0)) (hm:HA.blk b (.cells ty [c0,c1])∈fs.H) (t:Vf fs rs vs):Vf fs (.c i true 2::rs) (.agg [c0,c1]::vs):=rc hp hm (by simp) rfl t
theorem rc4 {fs:Sf} {i b ty:Nat} {c0 c1 c2 c3:C} {rs:List RR} {vs:List AV} (hp:fs.e i=.c (.ptr b 0)) (hm:HA.blk b (.cells ty [c0,c1,c2,c3])∈fs.H) (t:Vf fs rs vs):Vf fs (.c i true 4::rs) (.agg [c0,c1,c2,c3]::vs):=rc hp hm (by simp) rfl t
theorem wI {z:Int} {n:Nat} (h:z=n) (h2:n<9223372036854775808):IntKind.i64.wrap z=n:=by rw [h];exact vF ⟨by omega,by omega⟩
theorem wQ {z:Int} {n:Nat} (h:z=n) (h2:n<18446744073709551616):IntKind.u64.wrap z=n:=by rw [h];exact bVn ⟨by omega,by omega⟩
theorem wD {z:Int} {n:Nat} (h:z=n) (h2:n<4294967296):IntKind.u32.wrap z=n:=by rw [h];exact bRW ⟨by omega,by omega⟩
theorem wDm (n:Nat):IntKind.u32.wrap (n:Int)=((n % 4294967296:Nat):Int):=by rw [bGr];omega
theorem gI {a b:Int} {n:Nat} (h:a+b=n) (h2:n<9223372036854775808):pS .add (.int .i64 a) (.int .i64 b)=some (.int .i64 n):=tG (wI h h2)
theorem vO {a b:Int} {n:Nat} (h:a - b=n) (h2:n<9223372036854775808):pS .sub (.int .i64 a) (.int .i64 b)=some (.int .i64 n):=wF (wI h h2)
theorem aZx {a b:Int} {n:Nat} (h:a * b=n) (h2:n<9223372036854775808):pS .mul (.int .i64 a) (.int .i64 b)=some (.int .i64 n):=aZl (wI h h2)
theorem aFP {a b:Int} {n:Nat} (h:a+b=n) (h2:n<18446744073709551616):pS .add (.int .u64 a) (.int .u64 b)=some (.int .u64 n):=tG (wQ h h2)
theorem aZm {a b:Int} {n:Nat} (h:a - b=n) (h2:n<18446744073709551616):pS .sub (.int .u64 a) (.int .u64 b)=some (.int .u64 n):=wF (wQ h h2)
theorem aXl {a b:Int} {n:Nat} (h:a * b=n) (h2:n<18446744073709551616):pS .mul (.int .u64 a) (.int .u64 b)=some (.int .u64 n):=aZl (wQ h h2)
theorem bGe {a b:Int} {n:Nat} (h:a+b=n) (h2:n<4294967296):pS .add (.int .u32 a) (.int .u32 b)=some (.int .u32 n):=tG (wD h h2)
theorem bGp {a b n:Nat} (hb:0<b) (h:a / b=n) (ha:a<9223372036854775808):pS .quo (.int .i64 a) (.int .i64 b)=some (.int .i64 n):=aS0 (by omega) (by omega) (wI (by rw [← h,Int.natCast_ediv]) (by have:=Nat.div_le_self a b;omega))
theorem bGD {a b n:Nat} (hb:0<b) (h:a % b=n):pS .rem (.int .i64 a) (.int .i64 b)=some (.int .i64 n):=aS9 (by omega) (by omega) (by rw [← h,Int.natCast_emod])
theorem bHL {a b n:Nat} (hb:0<b) (h:a / b=n) (ha:a<18446744073709551616):pS .quo (.int .u64 a) (.int .u64 b)=some (.int .u64 n):=aS0 (by omega) (by omega) (wQ (by rw [← h,Int.natCast_ediv]) (by have:=Nat.div_le_self a b;omega))
theorem bFK {a b n:Nat} (hb:0<b) (h:a % b=n):pS .rem (.int .u64 a) (.int .u64 b)=some (.int .u64 n):=aS9 (by omega) (by omega) (by rw [← h,Int.natCast_emod])
theorem aHm {k kb:IntKind} {a s n:Nat} (hs:s≤k.bits) (h:a / 2 ^ s=n):pS .shr (.int k a) (.int kb s)=some (.int k n):=by
 subst h
 simp only [pS,binV]
 rw [need_pos (by omega),Int.toNat_natCast,Nat.min_eq_left hs,Int.fdiv_eq_ediv_of_nonneg _ (by exact Int.pow_nonneg (by omega))]
 have:((a / 2 ^ s:Nat):Int)=(a:Int) / 2 ^ s:=by simp
 rw [this]
theorem bLu {k kb:IntKind} {a s n:Nat} (hs:s≤k.bits) (h:k.wrap ((a * 2 ^ s:Nat):Int)=n):pS .shl (.int k a) (.int kb s)=some (.int k n):=by
 simp only [pS,binV]
 rw [need_pos (by omega),Int.toNat_natCast,Nat.min_eq_left hs,← h]
 simp
theorem bJR {k:IntKind} {a b:Nat} (ha:a<2 ^ k.bits) (hb:b<2 ^ k.bits):(BitVec.ofInt k.bits (a:Int) &&& BitVec.ofInt k.bits (b:Int)).toNat=a &&& b:=by
 rw [BitVec.toNat_and,BitVec.toNat_ofInt,BitVec.toNat_ofInt,Int.emod_eq_of_lt (by omega) (by exact_mod_cast ha),Int.emod_eq_of_lt (by omega) (by exact_mod_cast hb)]
 simp
theorem bF1 {k:IntKind} {a b:Nat} (ha:a<2 ^ k.bits) (hb:b<2 ^ k.bits):(BitVec.ofInt k.bits (a:Int) ||| BitVec.ofInt k.bits (b:Int)).toNat=a ||| b:=by
 rw [BitVec.toNat_or,BitVec.toNat_ofInt,BitVec.toNat_ofInt,Int.emod_eq_of_lt (by omega) (by exact_mod_cast ha),Int.emod_eq_of_lt (by omega) (by exact_mod_cast hb)]
 simp
theorem bJi {k:IntKind} {a b:Nat} (ha:a<2 ^ k.bits) (hb:b<2 ^ k.bits):(BitVec.ofInt k.bits (a:Int) ^^^ BitVec.ofInt k.bits (b:Int)).toNat=a ^^^ b:=by
 rw [BitVec.toNat_xor,BitVec.toNat_ofInt,BitVec.toNat_ofInt,Int.emod_eq_of_lt (by omega) (by exact_mod_cast ha),Int.emod_eq_of_lt (by omega) (by exact_mod_cast hb)]
 simp
theorem bHk {a b n:Nat} (ha:a<18446744073709551616) (hb:b<18446744073709551616) (h:a ||| b=n):pS .or (.int .u64 a) (.int .u64 b)=some (.int .u64 n):=by
 have h2:a ||| b<2 ^ 64:=Nat.or_lt_two_pow ha hb
 simp only [pS,binV]
 rw [need_pos trivial,bF1 (k:=.u64) ha hb,wQ (n:=n) (by rw [h]) (by omega)]
theorem bGY {a b n:Nat} (ha:a<4294967296) (hb:b<4294967296) (h:a &&& b=n):pS .and (.int .u32 a) (.int .u32 b)=some (.int .u32 n):=by
 have h2:a &&& b<2 ^ 32:=Nat.and_lt_two_pow _ hb
 simp only [pS,binV]
 rw [need_pos trivial,bJR (k:=.u32) ha hb,wD (n:=n) (by rw [h]) (by omega)]
theorem bUG {a b n:Nat} (ha:a<4294967296) (hb:b<4294967296) (h:a ||| b=n):pS .or (.int .u32 a) (.int .u32 b)=some (.int .u32 n):=by
 have h2:a ||| b<2 ^ 32:=Nat.or_lt_two_pow ha hb
 simp only [pS,binV]
 rw [need_pos trivial,bF1 (k:=.u32) ha hb,wD (n:=n) (by rw [h]) (by omega)]
theorem bQp {a b n:Nat} (ha:a<4294967296) (hb:b<4294967296) (h:a ^^^ b=n):pS .xor (.int .u32 a) (.int .u32 b)=some (.int .u32 n):=by
 have h2:a ^^^ b<2 ^ 32:=Nat.xor_lt_two_pow ha hb
 simp only [pS,binV]
 rw [need_pos trivial,bJi (k:=.u32) ha hb,wD (n:=n) (by rw [h]) (by omega)]
theorem bFo {a n:Nat} (ha:a<4294967296) (h:4294967295 - a=n):unW .xor (.int .u32 a)=some (.int .u32 n):=by
 have e:(BitVec.ofInt 32 (4294967295:Int) ^^^ BitVec.ofInt 32 (a:Int)).toNat=4294967295 - a:=by
  rw [show BitVec.ofInt 32 (4294967295:Int)=BitVec.allOnes 32 by decide,BitVec.allOnes_xor,BitVec.toNat_not,BitVec.toNat_ofInt]
  omega
 show some (Value.int .u32 (IntKind.u32.wrap (((BitVec.ofInt 32 (4294967295:Int) ^^^ BitVec.ofInt 32 (a:Int)).toNat:Nat):Int)))=_
 rw [e,wD (n:=n) (by rw [h]) (by omega)]
theorem aYZ {k:IntKind} {z r:Int} (h:k.wrap (0 - z)=r):unW .neg (.int k z)=some (.int k r):=by
 simp only [unW,Go.Eng.unV,h]
open Go.RowKit
open Go.Eng (callable Od)
def bA8:eE:=fun _ _ _ _=>none
theorem aYA {P:Program}:Bt P bA8:=fun _ _ _ _ _ _ _ h=>by cases h
def aLQ (g ty:Nat) (h0:eE):eE:=fun f args mem nx=>match Nat.beq f g with
 | true=>match args with
  | [.c (.v (.slice none 0 0)),.c (.v (.int .i64 n))]=>match decide (0<n) && decide (n≤35184372088832) with
   | true=>some (.c (.sl nx 0 0 1),Tr.put (nx+1) mem nx (some (.cells ty [])),nx+1)
   | false=>none
  | _=>none
 | false=>h0 f args mem nx
def aX3 (P:Program) (g ty:Nat):Prop:=∀ (n:Nat) (w:World),0<n→n≤35184372088832 →
 Calls P g #[.slice none 0 0,.int .i64 n] w fun e w'=>∃ cap cur,e=.returned (.slice (some ⟨w.heap.size,0,none⟩) 0 cap)∧cap≤maxLen∧cur.size=cap∧w'=w.drew.alloc (.cells cur ty)
theorem bDz {P:Program} {g ty:Nat} {h0:eE} (hg:callable P g=true) (hG:aX3 P g ty) (hh:Bt P h0):Bt P (aLQ g ty h0):=by
 intro f args mem nx res mem' nx' h
 unfold aLQ at h
 split at h
 case h_2=>exact hh _ _ _ _ _ _ _ h
 rename_i hf
 have:=Nat.eq_of_beq_eq_true hf
 subst this
 split at h
 case h_2=>cases h
 rename_i z
 split at h
 case h_2=>cases h
 rename_i hz
 simp only [Bool.and_eq_true,decide_eq_true_eq] at hz
 simp only [Option.some.injEq,Prod.mk.injEq] at h
 obtain ⟨rfl,rfl,rfl⟩:=h
 obtain ⟨n,rfl⟩:∃ n:Nat,z=(n:Int):=⟨z.toNat,by omega⟩
 refine ⟨⟨by omega,fun b k' hb=>?_,fun b k hb hr=>?_⟩,fun K w0 ρ w vs hms hfree hl hrep=>.inl ⟨hg,?_⟩⟩
 ·rcases E2 (nx:=nx) (mem:=mem) b k' hb with ⟨rfl,_⟩ | ⟨_,h⟩
  ·exact .inr ⟨Nat.le_refl _,by omega⟩
  exact .inl ⟨k',h⟩
 ·rcases E2 (nx:=nx) (mem:=mem) b k hb with ⟨_,rfl⟩ | ⟨_,h⟩
  ·cases hr
  exact h
 have hvs:vs = #[.slice none 0 0,.int .i64 n]:=by
  have h0:=hrep 0 _ rfl
  have h1:=hrep 1 _ rfl
  have hsz:vs.size=2:=hl
  have e0:vs.getD 0 undef=.slice none 0 0:=by
   generalize vs.getD 0 undef=x at h0
   cases h0 with
   | c _ _ h0=>cases h0 with
    | v _ _=>rfl
  have e1:vs.getD 1 undef=.int .i64 n:=by
   generalize vs.getD 1 undef=x at h1
   cases h1 with
   | c _ _ h1=>cases h1 with
    | v _ _=>rfl
  apply Array.ext
  ·simpa using hsz
  intro i hi1 hi2
  have hi:i=0∨i=1:=by simp at hi2;omega
  rcases hi with rfl | rfl
  ·simp [Array.getD,hsz] at e0;simpa using e0
  simp [Array.getD,hsz] at e1;simpa using e1
 subst hvs
 refine (hG n w (by omega) (by omega)).mono fun e w' hq=>?_
 obtain ⟨cap,cur,rfl,hcap,hcur,rfl⟩:=hq
 have hn:ρ nx=none:=hfree nx (Nat.le_refl _) (by omega)
 have hgr:=Ak hn ⟨w.heap.size,0,cur.size⟩
 refine ⟨_,_,rfl,hgr,hms.new hn (w':=w.drew.alloc (.cells cur ty)) (.cells ty []) ⟨w.heap.size,0,cur.size⟩ (.cells ty [] cur (heap_alloc_new w.drew _) rfl (by simp) fun i c hc=>by simp at hc) ⟨Nat.le_refl _,by simp⟩ rfl rfl rfl (by simp) (fun b hb=>heap_alloc_old w.drew _ hb) E2,?_⟩
 refine .c _ _ (kO.sl (ρ:=upd ρ nx ⟨w.heap.size,0,cur.size⟩) nx 0 0 1 cap ⟨w.heap.size,0,cur.size⟩ (pW _ _ _) (by show 0+0+cap * 1≤cur.size;omega) (Nat.zero_le _) hcap)
theorem bLd {T:Tr FE} {g ty k0 k n:Nat} {h0:eE} (hT:T.get g=none) (hk:1≤k) {z:dA} (h1:0<n) (h2:n≤35184372088832) (h00:Nat.blt g 1000000=true:=by rfl):Lp (evF T (aLQ g ty h0) k0 k) g [rC,.c (.v (.int .i64 (n:Nat)))] z [] fun v _ H'=>H'=[Ed eW v ty []]:=fun mem nx hh=>by
  obtain ⟨j,rfl⟩:∃ j,k=j+1:=⟨k - 1,by omega⟩
  have r0:Rf ⟨mem,nx,z,[]⟩ ⟨fun _=>.any,z,[]⟩ ⟨.nil,mem,nx⟩:=⟨fun i=>by simp [AS.get,Tr.get_nil],hh,Nat.le_refl _,fun b _ _=>rfl,fun b hb=>by simp [pR] at hb,⟨fun _ _ h=>h⟩,fun b k hb=>.inl hb⟩
  have r1 := r0.new (a := .row (.c (.sl nx 0 0 1)) ty 1 0 []) (m' := Tr.put (nx + 1) mem nx (some (.cells ty []))) ⟨rfl, .inr ⟨nx, rfl, by rw [Tr.get_put _ _ _ _ _ (by omega), if_pos rfl]⟩⟩ rfl (fun b hb => by
    by_cases hlt:b<nx+1
    · rw [Tr.get_put _ _ _ _ _ (by omega),if_neg (fun e=>hb e.symm)]
    · rw [Tr.get_put _ _ _ _ _ (by omega),if_neg (fun e=>hb e.symm)])
  refine ⟨.c (.sl nx 0 0 1),_,nx+1,z,_,?_,by omega,fun b hb _=>r1.old b hb (by simp),r1.hold,zle.refl _,fun b k hb=>.inl hb,fun b hb=>(r1.own b hb).imp (fun h=>h) (fun h=>by simp at h),rfl⟩
  rw [aSx hT h00]
  unfold aLQ
  rw [Nat.beq_refl]
  simp only
  rw [show (decide (0<(n:Int)) && decide ((n:Int)≤35184372088832))=true by simp;omega]
def RLs:RT (List UInt32):=fun z cs l=>∃ c,cs=[c]∧CZ 1 RW z c l
instance:RMono RLs:=⟨fun hz ⟨c,h,g⟩=>⟨c,h,g.mono hz⟩⟩
def aEr (ls:List (List UInt32)):Nat:=(ls.map List.length).sum
theorem aLM {ls:List (List UInt32)} {i:Nat} (h:i<ls.length):aEr (ls.take (i+1))=aEr (ls.take i)+ls[i].length:=by
 unfold aEr
 rw [List.take_add_one,List.getElem?_eq_getElem h]
 simp only [Option.toList,List.map_append,List.map_cons,List.map_nil,List.sum_append,List.sum_cons,List.sum_nil,Nat.add_zero]
theorem aWv {ls:List (List UInt32)} (i:Nat):aEr (ls.take i)≤aEr ls:=by
 conv=>rhs;rw [← List.take_append_drop i ls]
 unfold aEr
 rw [List.map_append,List.sum_append]
 omega
theorem aY5 (ls:List (List UInt32)):ls.flatten.length=aEr ls:=by rw [List.length_flatten];rfl
theorem bEp {ls:List (List UInt32)} {i:Nat} (h:i<ls.length):(ls.take (i+1)).flatten=(ls.take i).flatten++ls[i]:=by
 rw [List.take_add_one,List.getElem?_eq_getElem h]
 simp only [Option.toList,List.flatten_append,List.flatten_cons,List.flatten_nil,List.append_nil]
theorem aWG {call:eE} {B:pK} {fs:Sf} {l:List I} {Q:Sf→Prop} {d:Nat} {α:Type} {e:α→Value} {ty bytes:Nat} {zero:List Value} {x y:Od} {u v:AV} {r s:List α} {H':AV→List HA} (hx:fs.ev x=u) (hy:fs.ev y=v) (hs:SZ 1 (RE e) fs.z v s) (hr:∀ u',By fs.H (Ed e u ty r) (Ed e u' ty (r++s)) (H' u'))
  (hb:(r.length+s.length) * bytes≤140737488355328) (hn:r.length+s.length≤9223372036854775807) (hw:∀ c:C,pO c c=true→FL call B l (fs.res d (.c c) fs.z (H' (.c c))) Q):FL call B (⟨some d,none,.app ty 1 bytes zero x y⟩::l) fs Q:=fun st rf=>by
 obtain ⟨news,h1,h2⟩:=hs.src (st:=st) fun b k hb=>(rf.hold.z b k hb).1
 have:=bHh h2
 subst this
 refine aZ0 (cs:=cE e r) rf hx hy h1 (H':=H') (fun u'=>?_) h2.1 hb hn hw
 have h:=hr u'
 have e1:Ed e u' ty (r++s)=.row u' ty 1 (r.length+s.length) (cE e r++cE e s):=by rw [aWc];simp [Ed]
 rw [e1] at h
 exact h
theorem bMu {call:eE} {B:pK} {an:List Nat} {j:Nat} {l:List CE.D} {fs:Sf} {T:dA} {tag last:Nat} {pj lj:List Nat} {Q:Sf→Prop} {a:HA} {p q:List HA} {b:Nat} {k:mU} (e:fs.H=p++a::q) (hfp:a.fp=[b]) (ha:∀ m,a.ok m→m.get b=some k)
  (hw:∀ z',zle fs.z z'→z' b k→FG call B an j l (fs.frz z' (p++q)) T tag last pj lj Q):FG call B an j l fs T tag last pj lj Q:=fun x r=>by
 have h:=r.rf.frz e hfp ha
 exact hw _ ⟨fun _ _ h=>.inl h⟩ (.inr ⟨rfl,rfl⟩) x ⟨h,r.hd,r.t0,r.tlt,r.np,r.fl,r.last,r.pj,r.plt⟩
section
variable {call:eE} {B:pK} {fs:Sf} {l:List I} {Q:Sf→Prop} {d:Nat}
theorem lC {x:Od} {c:C} (hx:fs.ev x=.c c) (hw:FL call B l (fs.put d (.c c)) Q):FL call B (⟨some d,none,.mv x⟩::l) fs Q:=lM hx hw
theorem lZ (z0:dA) {f:Nat} {args:List Od} {vs:List AV} {Post:AV→dA→Prop} (hc:FC call f vs z0 Post) (ha:args.map fs.ev=vs) (hz0:fs.z=z0)
  (hw:∀ v z',zle z0 z'→Post v z'→FL call B l (fs.res d v z' fs.H) Q):FL call B (⟨some d,none,.call f args⟩::l) fs Q:=by
 subst hz0
 exact aF7 ha hc hw
theorem uW (z0:dA) (Hs:List HA) {Hr:List HA} {f:Nat} {args:List Od} {vs:List AV} {Post:AV→dA→List HA→Prop} (hc:Lp call f vs z0 Hs Post) (ha:args.map fs.ev=vs) (hz0:fs.z=z0) (e:fs.H=Hs++Hr)
  (hw:∀ v z' H',zle z0 z'→Post v z' H'→FL call B l (fs.res d v z' (H'++Hr)) Q):FL call B (⟨some d,none,.call f args⟩::l) fs Q:=by
 subst hz0
 exact aYz ha e hc hw
theorem Dx {α:Type} {e:α→Value} [RMono (RE e)] {u:AV} {ty:Nat} {r:List α} {p q:List HA} (z0 z1:dA) (h:fs.H=p++Ed e u ty r::q) (h1:fs.z=z1) (hz0:zle z0 z1) (hm:r.length≤9223372036854775807) (hw:∀ z',zle z1 z'→SZ 1 (RE e) (zd z0 z') u r→FL call B l (fs.frz z' (p++q)) Q):FL call B l fs Q:=by
 subst h1
 exact bLh z0 h hz0 hm hw
theorem A7 {α:Type} {e:α→Value} [RMono (RE e)] {b ty n:Nat} {r:List α} {p q:List HA} (z0 z1:dA) (h:fs.H=p++Fq e b ty r::q) (h1:fs.z=z1) (hz0:zle z0 z1) (hn:r.length=n) (hm:n≤9223372036854775807) (hw:∀ z',zle z1 z'→SZ 1 (RE e) (zd z0 z') (.c (.sl b 0 n 1)) r→FL call B l (fs.frz z' (p++q)) Q):FL call B l fs Q:=by
 subst h1
 exact bIN z0 h hz0 hn hm hw
theorem yB {a:HA} {p q:List HA} {b:Nat} {k:mU} (z1:dA) (e:fs.H=p++a::q) (h1:fs.z=z1) (hfp:a.fp=[b]) (ha:∀ m,a.ok m→m.get b=some k) (hw:∀ z',zle z1 z'→z' b k→FL call B l (fs.frz z' (p++q)) Q):FL call B l fs Q:=by
 subst h1
 exact bQL e hfp ha hw
end
theorem gZ {call:eE} {B:pK} {an:List Nat} {j:Nat} {l:List CE.D} {fs:Sf} {T:dA} {tag last:Nat} {pj lj:List Nat} {Q:Sf→Prop} (z0:dA) {i:I} {d f:Nat} {args:List Od} {vs:List AV} {af:List Nat} {Post:AV→dA→Prop} (hc:FC call f vs z0 Post) (hi:i.o=.call f args) (hd:i.d=some d) (hg:GK fs i) (hbits:Nat.beq (an.getD j 0 ||| last) (an.getD j 0)=true) (hpj:(pj.all fun q=>(an.getD j 0).testBit q)=true)
  (ha:args.map fs.ev=vs) (hz0:fs.z=z0) (hw:∀ v z',zle z0 z'→Post v z'→FG call B an (j+1) l (fs.res d v z' fs.H) T (j+1) (an.getD j 0 ||| (1 <<< j)) [] lj Q):FG call B an j (⟨i,af⟩::l) fs T tag last pj lj Q:=by
 subst hz0
 exact Bg hi hd hg hbits hpj ha hc hw
theorem aPp {call:eE} {B:pK} {an:List Nat} {j:Nat} {l:List CE.D} {fs:Sf} {T:dA} {tag last:Nat} {pj lj:List Nat} {Q:Sf→Prop} {a:HA} {p q:List HA} {b:Nat} {k:mU} (z1:dA) (e:fs.H=p++a::q) (h1:fs.z=z1) (hfp:a.fp=[b]) (ha:∀ m,a.ok m→m.get b=some k)
  (hw:∀ z',zle z1 z'→z' b k→FG call B an j l (fs.frz z' (p++q)) T tag last pj lj Q):FG call B an j l fs T tag last pj lj Q:=by
 subst h1
 exact bMu e hfp ha hw
theorem aS1 {a n:Nat} {kb:IntKind} (h:a * 4294967296=n) (h2:n<18446744073709551616):pS .shl (.int .u64 a) (.int kb 32)=some (.int .u64 n):=by
 have:=bLu (k:=.u64) (kb:=kb) (a:=a) (s:=32) (n:=n) (by decide) (by rw [show a * 2 ^ 32=n from h];exact wQ rfl h2)
 exact this
theorem bEC {call:eE} {B:pK} {an:List Nat} {j:Nat} {l:List CE.D} {fs:Sf} {T:dA} {tag last:Nat} {pj lj:List Nat} {Q:Sf→Prop} (z0:dA) {i:I} {d f:Nat} {args:List Od} {vs:List AV} {af:List Nat} {Post:AV→dA→List HA→Prop} (hc:Lp call f vs z0 [] Post) (hi:i.o=.call f args) (hd:i.d=some d) (hg:GK fs i) (hbits:Nat.beq (an.getD j 0 ||| last) (an.getD j 0)=true) (hpj:(pj.all fun q=>(an.getD j 0).testBit q)=true)
  (ha:args.map fs.ev=vs) (hz0:fs.z=z0) (hw:∀ v z' H',zle z0 z'→Post v z' H'→FG call B an (j+1) l (fs.res d v z' (H'++fs.H)) T (j+1) (an.getD j 0 ||| (1 <<< j)) [] lj Q):FG call B an j (⟨i,af⟩::l) fs T tag last pj lj Q:=by
 subst hz0
 exact bF7 (D:=⟨fs,T,tag,last,pj,lj⟩) hi hd hg hbits hpj ha hc hw
theorem bDK {call:eE} {B:pK} {an:List Nat} {j:Nat} {l:List CE.D} {fs:Sf} {T:dA} {tag last:Nat} {pj lj:List Nat} {Q:Sf→Prop} (z0:dA) {i:I} {d f:Nat} {args:List Od} {vs:List AV} {af:List Nat} {Post:AV→dA→Prop} (hc:FC call f vs z0 Post) (hi:i.o=.call f args) (hd:i.d=some d) (hg:GK fs i) (hbits:Nat.beq (an.getD j 0 ||| last) (an.getD j 0)=true) (hpj:(pj.all fun q=>!(an.getD j 0).testBit q)=true)
  (ha:args.map fs.ev=vs) (hz0:fs.z=z0) (hzT:∀ b k,z0 b k→T b k) (hw:∀ v z',zle z0 z'→Post v z'→FG call B an (j+1) l (fs.res d v z' fs.H) T (j+1) (an.getD j 0 ||| (1 <<< j)) pj lj Q):FG call B an j (⟨i,af⟩::l) fs T tag last pj lj Q:=by
 subst hz0
 exact bH4 (D:=⟨fs,T,tag,last,pj,lj⟩) hi hd hg hbits hpj hzT ha hc hw
theorem Zm {call:eE} {B:pK} {fs:Sf} {l:List I} {Q:Sf→Prop} {d:Nat} {x:Od} {b p:Nat} {c:C} (hx:fs.ev x=.c (.ptr b p)) (ha:At fs.z b p [c]) (hw:FL call B l (fs.put d (.c c)) Q):FL call B (⟨some d,none,.load false 1 x⟩::l) fs Q:=nQ (off:=0) hx ha rfl (by simp) rfl hw
theorem bAC {s n:Nat} {kb:IntKind} (hs:s≤31) (h:2 ^ s=n):pS .shl (.int .u32 1) (.int kb s)=some (.int .u32 n):=by
 have h2:2 ^ s<4294967296:=Nat.lt_of_le_of_lt (Nat.pow_le_pow_right (by decide) hs) (by decide)
 exact bLu (k:=.u32) (a:=1) (by show s≤32;omega) (by rw [Nat.one_mul,h];exact wD rfl (by omega))
theorem bOS {call:eE} {B:pK} {fs:Sf} {l:List I} {Q:Sf→Prop} {H':List HA} (hs:H'.Sublist fs.H) (hw:FL call B l (fs.heap H') Q):FL call B l fs Q:=fun st rf =>
 hw st ⟨rf.env,rf.hold.sub hs,rf.le,rf.old,fun b hb=>rf.own b ((Eh hs).subset hb),rf.zle,rf.zin⟩
theorem bAr {call:eE} {B:pK} {fs:Sf} {l:List I} {Q:Sf→Prop} {d ty n:Nat} {zero:List Value} {y:Od} (hy:fs.ev y=.c (.v (.int .u32 (n:Nat)))) (hn:n<4294967296) (hz:(Ld 1 (zero.map fun v=>C.v v)).length=1) (hw:∀ b,FL call B l (fs.own d (.c (.sl b 0 1 1)) (Fq eW b ty [UInt32.ofNat n])) Q):FL call B (⟨some d,none,.bslice ty 1 1 zero [(0,y)]⟩::l) fs Q:=by
 refine cX (cs:=cE eW [UInt32.ofNat n]) ?_ hw
 obtain ⟨c,hc⟩:=List.length_eq_one_iff.1 hz
 rw [hc]
 have e:cE eW [UInt32.ofNat n]=[.v (.int .u32 (n:Nat))]:=by simp only [cE,List.map,eW,Go.Num.ofNat_toNat hn]
 rw [e]
 simp only [aCi,hy,AV.cells?]
 rfl
def bJI (fs:Sf) (o:Option Od) (dflt i:Nat):Prop:=match o with
 | none=>i=dflt
 | some x=>∃ k z,fs.ev x=.c (.v (.int k z))∧z=(i:Int)
theorem bJI.e {fs:Sf} {o:Option Od} {dflt i:Nat} (h:bJI fs o dflt i):aZH fs o dflt i:=by
 cases o with
 | none=>exact h
 | some x =>
  obtain ⟨k,z,h1,rfl⟩:=h
  exact ⟨k,h1⟩
theorem bIw {call:eE} {B:pK} {fs:Sf} {l:List I} {Q:Sf→Prop} {d:Nat} {size b o n:Nat} {x:Od} {lo hi:Option Od} {i j:Nat} (oo nn:Nat) (hx:fs.ev x=.c (.sl b o n size)) (hlo:bJI fs lo 0 i) (hhi:bJI fs hi n j) (hij:i≤j) (hj:j≤n) (hin:i<n) (h1:o+i * size=oo) (h2:j - i=nn)
  (hw:FL call B l (fs.put d (.c (.sl b oo nn size))) Q):FL call B (⟨some d,none,.slc size x lo hi⟩::l) fs Q:=by
 subst h1 h2
 exact bKL hx hlo.e hhi.e hij hj hin hw
theorem Lp.told {call:eE} {f:Nat} {args:List AV} {z:dA} {α:Type} {e:α→Value} [RMono (RE e)] {ty:Nat} {l:List α} {P:AV→AV→Prop} (h:Lp call f args z [] fun v _ H'=>∃ u,P v u∧H'=[Ed e u ty l]) (hm:l.length≤9223372036854775807):FC call f args z fun v z'=>∃ u,P v u∧SZ 1 (RE e) (zd z z') u l:=fun mem nx hh=>by
  obtain ⟨w,mem',nx',z',H',h1,h2,h3,h4,h5,h6,h7,u,hP,e1⟩:=h mem nx hh
  subst e1
  obtain ⟨g1,g2⟩:=h4.h _ (List.mem_singleton.2 rfl)
  rcases g2 with ⟨h0,rfl⟩ | ⟨b,rfl,h8⟩
  · have e : l = [] := List.eq_nil_of_length_eq_zero (by omega)
    subst e
    exact ⟨_,mem',nx',z',[],h1,h2,h3,h4.sub (List.nil_sublist _),h5,h6,fun b hb=>by simp [pR] at hb,rfl,_,hP,.nil⟩
  · have hfb : b ∈ pR [HA.row (.c (.sl b 0 l.length 1)) ty 1 l.length (cE e l)] := by simp [pR, HA.fp]
    refine ⟨_,mem',nx',fun x y=>z' x y∨(x=b∧y=.cells ty (cE e l)),[],h1,h2,h3,⟨fun x k hx=>?_,fun a ha=>by simp at ha,fun x hx=>by simp [pR] at hx,by simp [pR]⟩,⟨fun _ _ hx=>.inl (h5 _ _ hx)⟩,fun x k hx=>?_,fun x hx=>by simp [pR] at hx,rfl,_,hP,?_⟩
    · rcases hx with hx | ⟨rfl,rfl⟩
      · obtain ⟨k1, k2, _⟩ := h4.z x k hx
        exact ⟨k1,k2,by simp [pR]⟩
      · exact ⟨h8,h4.lt _ hfb,by simp [pR]⟩
    · rcases hx with hx | ⟨rfl,rfl⟩
      · exact h6 x k hx
      · rcases h7 _ hfb with k | k
        · exact .inr (.inl k)
        · simp [pR] at k
    · refine CL.sz (ty:=ty) (cs:=cE e l) Oe rfl hm ⟨.inr ⟨rfl,rfl⟩,fun k' hb=>(h4.z b k' (h5 _ _ hb)).2.2 hfb,rfl⟩
def LZ (z0 zz:dA) (H:List HA) (ls:List (Nat×AV)) (fs:Sf):Prop:=∃ e Hx,fs=⟨e,zz,Hx++H⟩∧zle z0 zz∧Vx e ls
theorem LZ.mk {z0 zz:dA} {H:List HA} {ls:List (Nat×AV)} {e:Lq} (Hx:List HA) (hz:zle z0 zz) (ha:Vx e ls):LZ z0 zz H ls ⟨e,zz,Hx++H⟩:=⟨e,Hx,rfl,hz,ha⟩
theorem LZ.open {call:eE} {k:Nat} {B:pK} {c:XC} {Q:Exit→Sf→Prop} {z0 zz:dA} {H:List HA} {ls:List (Nat×AV)} {fs:Sf} (h:LZ z0 zz H ls fs) (hw:∀ e,zle z0 zz→FX call k B c ⟨aSl e ls,zz,H⟩ Q):FX call k B c fs Q:=by
 obtain ⟨e,Hx,rfl,hz,ha⟩:=h
 exact zQ ha fun e=>uG (List.sublist_append_right _ _) (hw e hz)
theorem bBc {call:eE} {B:pK} {fs:Sf} {l:List I} {Q:Sf→Prop} {d ty n m:Nat} {zero:List Value} {y y':Od} (hy:fs.ev y=.c (.v (.int .u32 (n:Nat)))) (hy':fs.ev y'=.c (.v (.int .u32 (m:Nat)))) (hn:n<4294967296) (hm:m<4294967296) (hz:(Ld 2 (zero.map fun v=>C.v v)).length=2) (hw:∀ b,FL call B l (fs.own d (.c (.sl b 0 2 1)) (Fq eW b ty [UInt32.ofNat n,UInt32.ofNat m])) Q):FL call B (⟨some d,none,.bslice ty 1 2 zero [(0,y),(1,y')]⟩::l) fs Q:=by
 refine cX (cs:=cE eW [UInt32.ofNat n,UInt32.ofNat m]) ?_ hw
 obtain ⟨c,c',hc⟩:∃ c c',Ld 2 (zero.map fun v=>C.v v)=[c,c']:=by
  match h:Ld 2 (zero.map fun v=>C.v v),hz with
  | [c,c'],_=>exact ⟨c,c',rfl⟩
 rw [hc]
 have e:cE eW [UInt32.ofNat n,UInt32.ofNat m]=[.v (.int .u32 (n:Nat)),.v (.int .u32 (m:Nat))]:=by simp only [cE,List.map,eW,Go.Num.ofNat_toNat hn,Go.Num.ofNat_toNat hm]
 rw [e]
 simp only [aCi,hy,hy',AV.cells?]
 rfl
theorem bVr {z:dA} {b ty:Nat} {c d:C} {l m:List UInt32} (h0:CZ 1 RW z c l) (h1:CZ 1 RW z d m) (h2:z b (.cells ty [c,d])):SZ 1 RLs z (.c (.sl b 0 2 1)) [l,m]:=by
 refine CL.sz (cs:=[c,d]) ?_ rfl (by simp) h2
 exact CL.append (cs:=[c]) (l:=[l]) (cs':=[d]) (l':=[m]) (CL.one rfl ⟨_,rfl,h0⟩) (CL.one rfl ⟨_,rfl,h1⟩)
def IV (z:dA) (v:AV) (a:Int):Prop:=∃ c,v=.agg [.v (.bool (decide (a<0))),c]∧CZ 1 RW z c (Go.Num.toL a.natAbs)
def QV (z:dA) (v:AV) (q:Rat):Prop:=∃ c d,v=.agg [.v (.bool (decide (q.num<0))),c,.v (.bool (decide ((q.den:Int)<0))),d]∧CZ 1 RW z c (Go.Num.toL q.num.natAbs)∧CZ 1 RW z d (Go.Num.toL q.den)
end Go.CE
