/- Rows of calls; states as functions; arguments as blocks that are read alone. -/
import Derived.WalkKit
import Derived.Orders
import Derived.Test.YtcnpoojdochapaaGreatDoorRA3
import Derived.Test.YtcnpoojdochapaaGreatDoorRB1
set_option linter.unusedVariables false
set_option linter.unusedSimpArgs false
namespace Go.CE
open Go.RowKit
open Go.Eng (Od need jX jF oH binV binBV)
def Wp (r:Option AS) (Q:AS→Prop):Prop:=match r with
 | some st=>Q st
 | none=>False
section
variable {call:jO} {st:AS} {d:Nat}
theorem bRq {i:I} {l:List I} {st':AS} {Q:AS→Prop} (h:evI call i st=some st'):Wp (Pz call (i::l) st) Q=Wp (Pz call l st') Q:=by simp only [Pz,h]
theorem bKE {o:jM} {v:AV} {mem:Tr pA} {nx:Nat} (h:evV call o st=some (v,mem,nx)):evI call ⟨some d,none,o⟩ st=some ((⟨st.env,mem,nx⟩:AS).put d v):=by simp only [evI,gOk,h];rfl
theorem bNC {o:jM} {v:AV} {mem:Tr pA} {nx:Nat} (h:evV call o st=some (v,mem,nx)):evI call ⟨none,none,o⟩ st=some (⟨st.env,mem,nx⟩:AS):=by simp only [evI,gOk,h];rfl
theorem i_q {o:jM} {v:AV} (hc:callee st o=none) (h:cP o st=some v):evI call ⟨some d,none,o⟩ st=some (st.put d v):=bKE (by simp only [evV,hc,h])
theorem bUG {dd:Option Nat} {s:Nat} {want:Bool} {o:jM} (h:st.get s=.c (.v (.bool want))):evI call ⟨dd,some (s,want),o⟩ st=evI call ⟨dd,none,o⟩ st:=by
 simp only [evI,gOk,gd,h]
 cases want<;>rfl
theorem bWJ {s:Nat} {want:Bool} {o:jM} (h:st.get s=.c (.v (.bool (!want)))):evI call ⟨some d,some (s,want),o⟩ st=some (st.put d (.tup [])):=by
 simp only [evI,gOk,gd,h]
 cases want<;>rfl
theorem bXv {s:Nat} {want:Bool} {o:jM} (h:st.get s=.tup []):evI call ⟨some d,some (s,want),o⟩ st=some (st.put d (.tup [])):=by
 simp only [evI,gOk,gd,h];rfl
theorem bXI {x:Od}:evI call ⟨some d,none,.mv x⟩ st=some (st.put d (st.ev x)):=i_q rfl rfl
theorem bSW {op:BinOp} {x y:Od} {u v r:Value} (hx:st.ev x=.c (.v u)) (hy:st.ev y=.c (.v v)) (h:pR op u v=some r):evI call ⟨some d,none,.bin op x y⟩ st=some (st.put d (.c (.v r))):=i_q rfl (by simp only [cP,hx,hy,AV.val?,h];rfl)
theorem bVj {op:UnOp} {x:Od} {u r:Value} (hx:st.ev x=.c (.v u)) (h:unW op u=some r):evI call ⟨some d,none,.un op x⟩ st=some (st.put d (.c (.v r))):=i_q rfl (by simp only [cP,hx,AV.val?,h];rfl)
theorem bSn {size:Nat} {x i:Od} {b o n:Nat} {kd:IntKind} {j:Nat} (hx:st.ev x=.c (.sl b o n size)) (hi:st.ev i=.c (.v (.int kd (j:Nat)))) (h:j<n):evI call ⟨some d,none,.iad size x i⟩ st=some (st.put d (.c (.ptr b (o+j * size)))):=
 i_q rfl (by simp only [cP,hx,hi,AV.int?];rw [jX ⟨trivial,by simp,by simp;omega⟩];simp)
theorem bGx {size:Nat} {x:Od} {b o ty:Nat} {agg:Bool} {cs:List C} (hx:st.ev x=.c (.ptr b o)) (hm:st.mem.get b=some (.cells ty cs)) (h:o+size≤cs.length):evI call ⟨some d,none,.load agg size x⟩ st=some (st.put d (Xs agg ((cs.drop o).take size))):=
 i_q rfl (by simp only [cP,hx,AS.read,AS.blk,hm];rw [jX h])
theorem bLa {x:Od} {b o ty:Nat} {cs:List C} {c:C} (hx:st.ev x=.c (.ptr b o)) (hm:st.mem.get b=some (.cells ty cs)) (h:cs[o]? = some c):evI call ⟨some d,none,.load false 1 x⟩ st=some (st.put d (.c c)):=by
 have hl:o<cs.length:=(List.getElem?_eq_some_iff.1 h).1
 rw [bGx hx hm (by omega)]
 have:(cs.drop o).take 1=[c]:=by
  rw [List.drop_eq_getElem_cons hl]
  have:=(List.getElem?_eq_some_iff.1 h).2
  simp [this]
 rw [this]
 rfl
variable {l:List I} {Q:AS→Prop}
theorem bS5 (h:Q st):Wp (Pz call [] st) Q:=h
theorem aAV {i:I} {st':AS} (h:evI call i st=some st') (hw:Wp (Pz call l st') Q):Wp (Pz call (i::l) st) Q:=by rw [bRq h];exact hw
theorem bW1 {x:Od} {v:AV} (hx:st.ev x=v) (hw:Wp (Pz call l (st.put d v)) Q):Wp (Pz call (⟨some d,none,.mv x⟩::l) st) Q:=aAV bXI (by rw [hx];exact hw)
theorem bRT {op:BinOp} {x y:Od} {u v r:Value} (hx:st.ev x=.c (.v u)) (hy:st.ev y=.c (.v v)) (h:pR op u v=some r) (hw:Wp (Pz call l (st.put d (.c (.v r)))) Q):Wp (Pz call (⟨some d,none,.bin op x y⟩::l) st) Q:=aAV (bSW hx hy h) hw
theorem bXt {op:UnOp} {x:Od} {u r:Value} (hx:st.ev x=.c (.v u)) (h:unW op u=some r) (hw:Wp (Pz call l (st.put d (.c (.v r)))) Q):Wp (Pz call (⟨some d,none,.un op x⟩::l) st) Q:=aAV (bVj hx h) hw
theorem bT1 {size:Nat} {x i:Od} {b o n:Nat} {kd:IntKind} {j:Nat} (hx:st.ev x=.c (.sl b o n size)) (hi:st.ev i=.c (.v (.int kd (j:Nat)))) (h:j<n) (hw:Wp (Pz call l (st.put d (.c (.ptr b (o+j * size))))) Q):Wp (Pz call (⟨some d,none,.iad size x i⟩::l) st) Q:=aAV (bSn hx hi h) hw
theorem aVG {x:Od} {b o ty:Nat} {cs:List C} {c:C} (hx:st.ev x=.c (.ptr b o)) (hm:st.mem.get b=some (.cells ty cs)) (h:cs[o]? = some c) (hw:Wp (Pz call l (st.put d (.c c))) Q):Wp (Pz call (⟨some d,none,.load false 1 x⟩::l) st) Q:=aAV (bLa hx hm h) hw
theorem bW3 {dd:Option Nat} {s:Nat} {want:Bool} {o:jM} (h:st.get s=.c (.v (.bool want))) (hw:Wp (Pz call (⟨dd,none,o⟩::l) st) Q):Wp (Pz call (⟨dd,some (s,want),o⟩::l) st) Q:=by
 simp only [Pz,bUG h]
 exact hw
theorem bWR {s:Nat} {want:Bool} {o:jM} (h:st.get s=.c (.v (.bool (!want)))) (hw:Wp (Pz call l (st.put d (.tup []))) Q):Wp (Pz call (⟨some d,some (s,want),o⟩::l) st) Q:=aAV (bWJ h) hw
theorem bVh {s:Nat} {want:Bool} {o:jM} (h:st.get s=.tup []) (hw:Wp (Pz call l (st.put d (.tup []))) Q):Wp (Pz call (⟨some d,some (s,want),o⟩::l) st) Q:=aAV (bXv h) hw
theorem bSF (k:IntKind) (a b:Int):pR .gtr (.int k a) (.int k b)=some (.bool (decide (b<a))):=by simp [pR,binV,need]
theorem bFA (k:IntKind) (a b:Int):pR .lss (.int k a) (.int k b)=some (.bool (decide (a<b))):=by simp [pR,binV,need]
theorem bSs (k:IntKind) (a b:Int):pR .geq (.int k a) (.int k b)=some (.bool (decide (b≤a))):=by simp [pR,binV,need]
theorem bSu (k:IntKind) (a b:Int):pR .leq (.int k a) (.int k b)=some (.bool (decide (a≤b))):=by simp [pR,binV,need]
theorem bDx (k:IntKind) (a b:Int):pR .eql (.int k a) (.int k b)=some (.bool (decide (a=b))):=by
 simp only [pR,binV,need,if_true]
 congr 2
theorem bLV (k:IntKind) (a b:Int):pR .neq (.int k a) (.int k b)=some (.bool (!decide (a=b))):=by
 simp only [pR,binV,need,if_true]
 congr 2
theorem bSa (k:IntKind) (a b:Int):pR .add (.int k a) (.int k b)=some (.int k (k.wrap (a+b))):=by simp [pR,binV,need]
theorem bSl (k:IntKind) (a b:Int):pR .sub (.int k a) (.int k b)=some (.int k (k.wrap (a - b))):=by simp [pR,binV,need]
theorem bMd (k:IntKind) (a b:Int):pR .mul (.int k a) (.int k b)=some (.int k (k.wrap (a * b))):=by simp [pR,binV,need]
theorem bMc {m b q:Nat}:(Int.ofNat m * (b:Int)≤(q:Int))↔m * b≤q:=by
 rw [show Int.ofNat m * (b:Int)=((m * b:Nat):Int) from rfl]
 exact Int.ofNat_le
end
def Wx (r:Option (Exit×AS)) (Q:Exit→AS→Prop):Prop:=match r with
 | some (e,st)=>Q e st
 | none=>False
def onN (Qn:AS→Prop) (Q:Exit→AS→Prop):Exit→AS→Prop:=fun e st=>match e with
 | .normal=>Qn st
 | e=>Q e st
theorem Wx.mono {r:Option (Exit×AS)} {Q R:Exit→AS→Prop} (h:Wx r Q) (g:∀ e st,Q e st→R e st):Wx r R:=by
 cases r with
 | none=>exact h
 | some p=>exact g _ _ h
section
variable {call:jO} {k:Nat} {st:AS} {Q:Exit→AS→Prop}
theorem bBb {l:List I} (h:Wp (Pz call l st) (Q .normal)):Wx (V2 call k (.region l) st) Q:=by
 simp only [V2]
 cases he:Pz call l st with
 | none=>rw [he] at h;exact h
 | some st'=>rw [he] at h;exact h
theorem bNB {a b:XC} (h:Wx (V2 call k a st) (onN (fun st=>Wx (V2 call k b st) Q) Q)):Wx (V2 call k (.seq a b) st) Q:=by
 simp only [V2]
 cases he:V2 call k a st with
 | none=>rw [he] at h;exact h
 | some p =>
  obtain ⟨e,st'⟩:=p
  rw [he] at h
  cases e<;>exact h
theorem bKo {c:Od} {a b:XC} {t:Bool} (hc:st.ev c=.c (.v (.bool t))) (h:Wx (V2 call k (if t=true then a else b) st) Q):Wx (V2 call k (.cond c a b) st) Q:=by
 simp only [V2,hc,AV.bool?]
 cases t<;>exact h
theorem bDB {id:Nat} {b:XC} (h:Wx (V2 call k b st) (fun e=>Q (aTH id e))):Wx (V2 call k (.block id b) st) Q:=by
 simp only [V2]
 cases he:V2 call k b st with
 | none=>rw [he] at h;exact h
 | some p=>rw [he] at h;exact h
theorem bKW {b:XC} (h:Wx (aDE (V2 call k b) k st) Q):Wx (V2 call k (.loop b) st) Q:=h
theorem bJR {body:AS→Option (Exit×AS)} {n:Nat} (h:Wx (body st) (onN (fun st=>Wx (aDE body n st) Q) Q)):Wx (aDE body (n+1) st) Q:=by
 simp only [aDE]
 cases he:body st with
 | none=>rw [he] at h;exact h
 | some p =>
  obtain ⟨e,st'⟩:=p
  rw [he] at h
  cases e<;>exact h
end
open Go.RowKit
open Go.Eng (Od need jX jF oH binV binBV)
def Wd (r:Option Acc) (Q:Acc→Prop):Prop:=match r with
 | some a=>Q a
 | none=>False
def Acc.see (a:Acc) (d:D):AS:=⟨nE a.env d.sl,.nil,a.nx⟩
section
variable {call:jO} {an:List Nat} {j:Nat} {ds:List D} {a:Acc} {Q:Acc→Prop}
theorem bNF (h:Q a):Wd (aSU call an j [] a) Q:=h
theorem aHh {d:D} {a':Acc} (h:Y0 call j d (an.getD j 0) a=some a') (hw:Wd (aSU call an (j+1) ds a') Q):Wd (aSU call an j (d::ds) a) Q:=by
 simp only [aSU,h]
 exact hw
theorem bLF {k:Nat} {an:List Nat} {st:AS} {R:Exit→AS→Prop} (h:Wd (aSU call an 0 ds ⟨st.env,st.nx,[(0,st.mem)],[],[],0⟩) (fun a=>R .normal a.fin)):Wx (V2 call k (.draw ds an) st) R:=by
 simp only [V2,evD]
 cases he:aSU call an 0 ds ⟨st.env,st.nx,[(0,st.mem)],[],[],0⟩ with
 | none=>rw [he] at h;exact h
 | some a=>rw [he] at h;exact h
theorem aW2 {env:Tr AV} {l:List Nat} {q:Nat} (hq:q∈l):(nE env l).get q=env.get q:=by
 cases he:env.get q with
 | none =>
  cases hr:(nE env l).get q with
  | none=>rfl
  | some v=>have:=(aUx hr).2;rw [he] at this;cases this
 | some v =>
  induction l with
  | nil=>cases hq
  | cons p l ih =>
   simp only [nE]
   cases hp:env.get p with
   | none =>
    rcases List.mem_cons.1 hq with rfl | h
    ·rw [he] at hp;cases hp
    exact ih h
   | some u =>
    simp only
    rw [Tr.get_put _ _ _ _ _ (by omega)]
    by_cases e:p=q
    ·subst e;rw [if_pos rfl,← hp,he]
    rw [if_neg e]
    rcases List.mem_cons.1 hq with h | h
    ·exact absurd h.symm e
    exact ih h
variable {d:Nat} {af:List Nat}
end
open Go.RowKit
open Go.Eng (Od need jX jF oH binV binBV)
section
variable {call:jO} {st:AS} {d:Nat} {l:List I} {Q:AS→Prop}
theorem aDD (k:pA) (i:Nat):(st.new k).mem.get i=if st.nx=i then some k else st.mem.get i:=by
 show (Tr.put (st.nx+1) st.mem st.nx (some k)).get i=_
 rw [Tr.get_put _ _ _ _ _ (by omega)]
theorem aF6 (b:Nat) (k:pA) (i:Nat):(st.setB b k).mem.get i=if b=i then some k else st.mem.get i:=by
 show (Tr.put (b+1) st.mem b (some k)).get i=_
 rw [Tr.get_put _ _ _ _ _ (by omega)]
theorem aUW (b:Nat) (k:pA) (i:Nat):(st.moveB b k).mem.get i=if st.nx=i then some k else if b=i then none else st.mem.get i:=by
 show (Tr.put (st.nx+1) (Tr.put (b+1) st.mem b none) st.nx (some k)).get i=_
 rw [Tr.get_put _ _ _ _ _ (by omega),Tr.get_put _ _ _ _ _ (by omega)]
theorem i_e {o:jM} {v:AV} {st':AS} (hc:callee st o=none) (hq:cP o st=none) (h:eE o st=some (st',v)):evI call ⟨some d,none,o⟩ st=some ((⟨st.env,st'.mem,st'.nx⟩:AS).put d v):=bKE (by simp only [evV,hc,hq,h])
theorem bWX {o:jM} {v:AV} {st':AS} (hc:callee st o=none) (hq:cP o st=none) (h:eE o st=some (st',v)):evI call ⟨none,none,o⟩ st=some (⟨st.env,st'.mem,st'.nx⟩:AS):=bNC (v:=v) (by simp only [evV,hc,hq,h])
theorem bKy {size:Nat} {x y:Od} {b o ty:Nat} {cs ds:List C} {v:AV} (hx:st.ev x=.c (.ptr b o)) (hy:st.ev y=v) (hv:v.cells? = some ds) (hm:st.mem.get b=some (.cells ty cs)) (hs:ds.length=size) (h:o+size≤cs.length)
    (hw:Wp (Pz call l (st.setB b (.cells ty (oH cs o ds)))) Q):Wp (Pz call (⟨none,none,.store size x y⟩::l) st) Q:=
  aAV (bWX (st' := st.setB b (.cells ty (oH cs o ds))) (v := .any) rfl rfl (by
    simp only [eE,hx,hy,hv,hm]
    rw [jX ⟨hs,h⟩])) hw
theorem bN8 {f:Nat} {args:List Od} {vs:List AV} {v:AV} {mem:Tr pA} {nx:Nat} (ha:args.map st.ev=vs) (h:call f vs st.mem st.nx=some (v,mem,nx)) (hw:Wp (Pz call l ((⟨st.env,mem,nx⟩:AS).put d v)) Q):Wp (Pz call (⟨some d,none,.call f args⟩::l) st) Q:=
 aAV (bKE (by simp only [evV,callee,ha,h])) hw
theorem bMz {ty size bytes m:Nat} {zero:List Value} {x y:Od} {news:List C} {v:AV} (hx:st.ev x=.c (.v (.slice none 0 0))) (hy:st.ev y=v) (hr:st.row size v=some (m+1,news)) (h:(m+1) * bytes≤140737488355328) (hn:m+1≤9223372036854775807)
    (hw:Wp (Pz call l ((st.new (.cells ty news)).put d (.c (.sl st.nx 0 (m+1) size)))) Q):Wp (Pz call (⟨some d,none,.app ty size bytes zero x y⟩::l) st) Q:=
  aAV (i_e (st' := st.new (.cells ty news)) rfl rfl (by
    simp only [eE,hy,hr,hx]
    rw [jX ⟨h,hn,by omega⟩])) hw
theorem bTj {ty size bytes m b o n:Nat} {zero:List Value} {x y:Od} {news cs:List C} {v:AV} (hx:st.ev x=.c (.sl b o n size)) (hy:st.ev y=v) (hr:st.row size v=some (m+1,news)) (hm:st.mem.get b=some (.cells ty cs)) (hl:o+n * size=cs.length)
    (h:(n+(m+1)) * bytes≤140737488355328) (hn:n+(m+1)≤9223372036854775807)
    (hw:Wp (Pz call l ((st.moveB b (.cells ty (cs.drop o++news))).put d (.c (.sl st.nx 0 (n+(m+1)) size)))) Q):Wp (Pz call (⟨some d,none,.app ty size bytes zero x y⟩::l) st) Q:=
  aAV (i_e (st' := st.moveB b (.cells ty (cs.drop o ++ news))) rfl rfl (by
    simp only [eE,hy,hr,hx,hm]
    rw [jX ⟨hl,trivial,trivial,h,hn⟩])) hw
theorem bMH {ty size bytes:Nat} {zero:List Value} {x y:Od} {v u:AV} {news:List C} (hx:st.ev x=u) (hu:(∃ b o n s,u=.c (.sl b o n s))∨u=.c (.v (.slice none 0 0))) (hy:st.ev y=v) (hr:st.row size v=some (0,news))
    (hw:Wp (Pz call l (st.put d u)) Q):Wp (Pz call (⟨some d,none,.app ty size bytes zero x y⟩::l) st) Q:=
  aAV (i_e (st' := st) rfl rfl (by
    rcases hu with ⟨b,o,n,s,rfl⟩ | rfl<;>simp only [eE,hy,hr,hx])) hw
theorem bMR {size b o n ty:Nat} {cs:List C} (hm:st.mem.get b=some (.cells ty cs)) (h:o+n * size≤cs.length):st.row size (.c (.sl b o n size))=some (n,(cs.drop o).take (n * size)):=by
 simp only [AS.row,AS.read,AS.blk,hm]
 rw [jX h]
 simp only []
 rw [jX trivial]
end
open Go.Eng (Od)
section
variable {call:jO} {st:AS} {d:Nat} {l:List I} {Q:AS→Prop}
theorem bTK {off:Nat} {x:Od} {b o:Nat} (hx:st.ev x=.c (.ptr b o)) (hw:Wp (Pz call l (st.put d (.c (.ptr b (o+off))))) Q):Wp (Pz call (⟨some d,none,.fad off x⟩::l) st) Q:=
 aAV (i_q rfl (by simp only [cP,hx])) hw
theorem bTV {k:IntKind} {x:Od} {k':IntKind} {n:Int} (hx:st.ev x=.c (.v (.int k' n))) (hw:Wp (Pz call l (st.put d (.c (.v (.int k (k.wrap n)))))) Q):Wp (Pz call (⟨some d,none,.cvi k x⟩::l) st) Q:=
 aAV (i_q rfl (by simp only [cP,hx];rfl)) hw
theorem bMg (b:Bool):unW .not (.bool b)=some (.bool (!b)):=rfl
end
open Go.RowKit
open Go.Eng (Od need jX jF oH binV binBV)
theorem bKp {z:Int} (h : -9223372036854775808≤z) (h':z<9223372036854775808):IntKind.i64.wrap z=z:=by
 simp [IntKind.wrap,IntKind.bits,IntKind.signed]
 omega
open Go.RowKit
open Go.Eng (Od need jX jF oH binV binBV)
section
variable {call:jO} {an:List Nat} {j:Nat} {a:Acc}
theorem bHd {bits:Nat} {m:Tr pA}:∀ {l:List (Nat×jM×Tr AV×AV)},(∀ p,p∈l→bits.testBit p.1=true)→aVv bits m l=some []:=by
 intro l
 induction l with
 | nil=>intro _;rfl
 | cons p l ih =>
  intro h
  obtain ⟨q,o,re,v⟩:=p
  simp only [aVv,ih fun p hp=>h p (List.mem_cons_of_mem _ hp),h (q,o,re,v) (List.mem_cons_self ..)]
end
open Go.RowKit
open Go.Eng (Od need jX jF oH binV binBV)
abbrev Zv:=Nat→AV
def aE6 (e:Zv) (d:Nat) (v:AV):Zv:=fun i=>cond (Nat.beq d i) v (e i)
def aTw (e:Zv):List (Nat×AV)→Zv
 | []=>e
 | p::l=>aE6 (aTw e l) p.1 p.2
theorem aTO (e:Zv) (d i:Nat) (v:AV):aE6 e d v i=if d=i then v else e i:=by
 unfold aE6
 by_cases h:d=i
 ·subst h;simp
 rw [if_neg h]
 have:Nat.beq d i=false:=by
  cases hb:Nat.beq d i with
  | false=>rfl
  | true=>exact absurd (Nat.eq_of_beq_eq_true hb) h
 rw [this];rfl
theorem aSv {e:Zv} {d:Nat} {v:AV} (h:e d=v):aE6 e d v=e:=by
 funext i
 rw [aTO]
 split
 ·rename_i hh;rw [← hh,h]
 rfl
abbrev C4:AV:=.c (.v (.slice none 0 0))
inductive HA where
 | blk (b:Nat) (k:pA)
 | row (u:AV) (ty size n:Nat) (cs:List C)
def HA.fp:HA→List Nat
 | .blk b _=>[b]
 | .row u _ _ _ _=>match u with
  | .c (.sl b _ _ _)=>[b]
  | _=>[]
def HA.ok (m:Tr pA):HA→Prop
 | .blk b k=>m.get b=some k
 | .row u ty size n cs=>cs.length=n * size∧((n=0∧u=C4)∨∃ b,u=.c (.sl b 0 n size)∧m.get b=some (.cells ty cs))
def yI (H:List HA):List Nat:=H.flatMap HA.fp
theorem kY (a:HA) (H:List HA):yI (a::H)=a.fp++yI H:=rfl
theorem nF (H H':List HA):yI (H++H')=yI H++yI H':=by simp [yI]
theorem HA.ok_of {a:HA} {m m':Tr pA} (h:a.ok m) (hm:∀ b,b∈a.fp→m'.get b=m.get b):a.ok m':=by
 cases a with
 | blk b k=>show m'.get b=some k;rw [hm b (by simp [HA.fp])];exact h
 | row u ty size n cs =>
  obtain ⟨h1,h2⟩:=h
  refine ⟨h1,?_⟩
  rcases h2 with h2 | ⟨b,rfl,h3⟩
  ·exact .inl h2
  exact .inr ⟨b,rfl,by rw [hm b (by simp [HA.fp])];exact h3⟩
structure aFt (z:dE) (H:List HA) (m:Tr pA) (nx:Nat):Prop where
 z:∀ b k,z b k→m.get b=some k∧b<nx∧b ∉ yI H
 h:∀ a,a∈H→a.ok m
 lt:∀ b,b∈yI H→b<nx
 nd:(yI H).Nodup
class ZS (z:outParam dE) (z':dE):Prop where
 h:∀ b k,z b k→z' b k
abbrev zle (z z':dE):Prop:=ZS z z'
instance zcf {z z':dE}:CoeFun (ZS z z') fun _=>∀ b k,z b k→z' b k:=⟨fun h=>@ZS.h _ _ h⟩
theorem zle.refl (z:dE):zle z z:=⟨fun _ _ h=>h⟩
theorem ZS.trans {a b c:dE} (h:zle a b) (g:zle b c):zle a c:=⟨fun x k hx=>g x k (h x k hx)⟩
class Zl (a b:dE):Prop where
 h:zle a b
instance zlr {a:dE}:Zl a a:=⟨zle.refl _⟩
instance zls {a b c:dE} [h1:ZS b c] [h2:Zl a b]:Zl a c:=⟨h2.h.trans h1⟩
theorem zI {a b:dE} [h:Zl a b]:zle a b:=h.h
theorem zJ (b:dE) {a:dE} [h:Zl a b]:zle a b:=h.h
structure Sf where
 e:Zv
 z:dE
 H:List HA
abbrev Sf.put (fs:Sf) (d:Nat) (v:AV):Sf:=⟨aE6 fs.e d v,fs.z,fs.H⟩
abbrev Sf.own (fs:Sf) (d:Nat) (v:AV) (a:HA):Sf:=⟨aE6 fs.e d v,fs.z,a::fs.H⟩
abbrev Sf.heap (fs:Sf) (H:List HA):Sf:=⟨fs.e,fs.z,H⟩
abbrev Sf.res (fs:Sf) (d:Nat) (v:AV) (z:dE) (H:List HA):Sf:=⟨aE6 fs.e d v,z,H⟩
abbrev Sf.frz (fs:Sf) (z:dE) (H:List HA):Sf:=⟨fs.e,z,H⟩
def Sf.ev (fs:Sf):Od→AV
 | .t i=>fs.e i
 | .k v=>avk v
 | .f f=>.c (.fn f [] [])
 | .bad=>.any
structure sY where
 m:Tr pA
 n:Nat
 z:dE
 L:List Nat
structure Rf (B:sY) (fs:Sf) (st:AS):Prop where
 env:∀ i,st.get i=fs.e i
 hold:aFt fs.z fs.H st.mem st.nx
 le:B.n≤st.nx
 old:∀ b,b<B.n→b ∉ B.L→st.mem.get b=B.m.get b
 own:∀ b,b∈yI fs.H→B.n≤b∨b∈B.L
 zle:zle B.z fs.z
 zin:∀ b k,fs.z b k→B.z b k∨B.n≤b∨b∈B.L
section
variable {B:sY} {fs:Sf} {st:AS}
theorem Rf.ev (h:Rf B fs st) (x:Od):st.ev x=fs.ev x:=by
 cases x with
 | t i=>exact h.env i
 | _=>rfl
theorem Rf.put (h:Rf B fs st) (d:Nat) (v:AV):Rf B (fs.put d v) (st.put d v):=by
 refine ⟨fun i=>?_,h.hold,h.le,h.old,h.own,h.zle,h.zin⟩
 rw [get_put,show (fs.put d v).e=aE6 fs.e d v from rfl,aTO]
 split
 ·rfl
 exact h.env i
theorem aFt.new {z:dE} {H:List HA} {m m':Tr pA} {nx:Nat} (h:aFt z H m nx) (a:HA) (ha:a.ok m') (hfp:a.fp=[nx]) (hm:∀ b,b≠nx→m'.get b=m.get b):aFt z (a::H) m' (nx+1):=by
 have hne:∀ b,b∈yI H→b≠nx:=fun b hb e=>by have:=h.lt b hb;omega
 refine ⟨fun b k hb=>?_,fun x hx=>?_,fun b hb=>?_,?_⟩
 ·obtain ⟨h1,h2,h3⟩:=h.z b k hb
  refine ⟨by rw [hm b (by omega)];exact h1,by omega,?_⟩
  rw [kY,hfp]
  simp only [List.singleton_append,List.mem_cons,not_or]
  exact ⟨by omega,h3⟩
 ·rcases List.mem_cons.1 hx with rfl | hx
  ·exact ha
  refine HA.ok_of (h.h x hx) fun b hb=>hm b (hne b ?_)
  exact List.mem_flatMap.2 ⟨x,hx,hb⟩
 ·rw [kY,hfp] at hb
  rcases List.mem_cons.1 hb with rfl | hb
  ·omega
  have:=h.lt b hb;omega
 rw [kY,hfp]
 exact List.nodup_cons.2 ⟨fun hb=>hne _ hb rfl,h.nd⟩
theorem Rf.new (h:Rf B fs st) {a:HA} {m':Tr pA} (ha:a.ok m') (hfp:a.fp=[st.nx]) (hm:∀ b,b≠st.nx→m'.get b=st.mem.get b):Rf B ⟨fs.e,fs.z,a::fs.H⟩ ⟨st.env,m',st.nx+1⟩:=by
 refine ⟨h.env,h.hold.new a ha hfp hm,Nat.le_succ_of_le h.le,fun b hb hl=>?_,fun b hb=>?_,h.zle,h.zin⟩
 ·have:=h.le
  exact (hm b (by omega)).trans (h.old b hb hl)
 have hb:b∈yI (a::fs.H):=hb
 rw [kY,hfp] at hb
 rcases List.mem_cons.1 hb with rfl | hb
 ·exact .inl h.le
 exact h.own b hb
end
inductive Hy:List HA→HA→HA→List HA→Prop where
 | head (a a':HA) (l:List HA):Hy (a::l) a a' (a'::l)
 | tail (x a a':HA) (l l':List HA) (h:Hy l a a' l'):Hy (x::l) a a' (x::l')
theorem iP {a a':HA} {l:List HA}:Hy (a::l) a a' (a'::l):=.head ..
theorem D5 {x a a':HA} {l l':List HA} (h:Hy l a a' l'):Hy (x::l) a a' (x::l'):=.tail _ _ _ _ _ h
theorem Hy.mem {l l':List HA} {a a':HA} (h:Hy l a a' l'):a∈l:=by
 induction h with
 | head=>simp
 | tail x a a' l l' h ih=>simp [ih]
theorem Hy.split {l l':List HA} {a a':HA} (h:Hy l a a' l'):∃ p q,l=p++a::q∧l'=p++a'::q:=by
 induction h with
 | head a a' l=>exact ⟨[],l,rfl,rfl⟩
 | tail x a a' l l' h ih =>
  obtain ⟨p,q,rfl,rfl⟩:=ih
  exact ⟨x::p,q,rfl,rfl⟩
theorem aLB {H:List HA} {b:Nat}:b∈yI H↔∃ a,a∈H∧b∈a.fp:=by simp [yI,List.mem_flatMap]
section
variable {B:sY} {fs:Sf} {st:AS}
theorem Rf.rep (h:Rf B fs st) {a a':HA} {H':List HA} {m':Tr pA} {nx':Nat} (hr:Hy fs.H a a' H') (hn:st.nx≤nx') (ha:a'.ok m') (hf:∀ b,b∈a'.fp→b∈a.fp∨(st.nx≤b∧b<nx')) (hnd:a'.fp.Nodup)
  (hm:∀ b,b<st.nx→b ∉ a.fp→m'.get b=st.mem.get b):Rf B ⟨fs.e,fs.z,H'⟩ ⟨st.env,m',nx'⟩:=by
 obtain ⟨p,q,e1,e2⟩:=hr.split
 subst e2
 have hH:=h.hold
 rw [e1] at hH
 have hown:=h.own
 rw [e1] at hown
 have hnd0:=hH.nd
 rw [nF,kY] at hnd0
 obtain ⟨n1,n2,n3⟩:=List.nodup_append.1 hnd0
 obtain ⟨n4,n5,n6⟩:=List.nodup_append.1 n2
 have hin:∀ b,b∈yI p∨b∈yI q→b ∉ a.fp∧b<st.nx:=by
  intro b hb
  refine ⟨fun hba=>?_,hH.lt b (by rw [nF,kY];simp;rcases hb with hb | hb<;>simp [hb])⟩
  rcases hb with hb | hb
  ·exact n3 b hb b (by simp [hba]) rfl
  exact n6 b hba b hb rfl
 refine ⟨h.env,⟨fun b k hb=>?_,fun x hx=>?_,fun b hb=>?_,?_⟩,Nat.le_trans h.le hn,fun b hb hl=>?_,fun b hb=>?_,h.zle,h.zin⟩
 ·obtain ⟨h1,h2,h3⟩:=hH.z b k hb
  rw [nF,kY] at h3 ⊢
  simp only [List.mem_append,not_or] at h3 ⊢
  refine ⟨by rw [hm b h2 h3.2.1];exact h1,Nat.lt_of_lt_of_le h2 hn,h3.1,fun hb2=>?_,h3.2.2⟩
  rcases hf b hb2 with h4 | h4
  ·exact h3.2.1 h4
  omega
 ·simp only [List.mem_append,List.mem_cons] at hx
  have hk:∀ x,x∈p∨x∈q→x.ok m':=fun x hx=>by
   refine HA.ok_of (hH.h x (by simp;rcases hx with hx | hx<;>simp [hx])) fun b hb=>?_
   have:=hin b (by rcases hx with hx | hx;exact .inl (aLB.2 ⟨x,hx,hb⟩);exact .inr (aLB.2 ⟨x,hx,hb⟩))
   exact hm b this.2 this.1
  rcases hx with hx | rfl | hx
  ·exact hk x (.inl hx)
  ·exact ha
  exact hk x (.inr hx)
 ·rw [nF,kY] at hb
  simp only [List.mem_append] at hb
  rcases hb with hb | hb | hb
  ·exact Nat.lt_of_lt_of_le (hin b (.inl hb)).2 hn
  ·rcases hf b hb with h4 | h4
   ·exact Nat.lt_of_lt_of_le (hH.lt b (by rw [nF,kY];simp [h4])) hn
   exact h4.2
  exact Nat.lt_of_lt_of_le (hin b (.inr hb)).2 hn
 ·rw [nF,kY]
  have hd:∀ b,b∈yI p∨b∈yI q→b ∉ a'.fp:=fun b hb hb2=>by
   have:=hin b hb
   rcases hf b hb2 with h4 | h4
   ·exact this.1 h4
   omega
  refine List.nodup_append.2 ⟨n1,List.nodup_append.2 ⟨hnd,n5,fun x hx y hy e=>?_⟩,fun x hx y hy e=>?_⟩
  ·subst e;exact hd x (.inr hy) hx
  subst e
  rcases List.mem_append.1 hy with hy | hy
  ·exact hd x (.inl hx) hy
  exact n3 x hx x (by simp [hy]) rfl
 ·have hb1:b<st.nx:=Nat.lt_of_lt_of_le hb h.le
  refine (hm b hb1 fun hba=>?_).trans (h.old b hb hl)
  rcases hown b (by rw [nF,kY];simp [hba]) with h1 | h1
  ·omega
  exact hl h1
 have hb:b∈yI (p++a'::q):=hb
 rw [nF,kY] at hb
 simp only [List.mem_append] at hb
 rcases hb with hb | hb | hb
 ·exact hown b (by rw [nF,kY];simp [hb])
 ·rcases hf b hb with h4 | h4
  ·exact hown b (by rw [nF,kY];simp [h4])
  exact .inl (Nat.le_trans h.le h4.1)
 exact hown b (by rw [nF,kY];simp [hb])
theorem Rf.frz (h:Rf B fs st) {p q:List HA} {b:Nat} {k:pA} {a:HA} (e:fs.H=p++a::q) (hfp:a.fp=[b]) (ha:∀ m,a.ok m→m.get b=some k):Rf B ⟨fs.e,fun x y=>fs.z x y∨(x=b∧y=k),p++q⟩ st:=by
 have hH:=h.hold
 rw [e] at hH
 have hown:=h.own
 rw [e] at hown
 have hnd0:=hH.nd
 rw [nF,kY,hfp] at hnd0
 have hbk:=ha _ (hH.h a (by simp))
 have hnb:b ∉ yI (p++q):=by
  rw [nF]
  obtain ⟨n1,n2,n3⟩:=List.nodup_append.1 hnd0
  simp only [List.mem_append,not_or]
  refine ⟨fun hb=>n3 b hb b (by simp) rfl,fun hb=>?_⟩
  exact (List.nodup_cons.1 n2).1 hb
 refine ⟨h.env,⟨fun x y hx=>?_,fun x hx=>?_,fun x hx=>?_,?_⟩,h.le,h.old,fun x hx=>?_,⟨fun x y hx=>.inl (h.zle x y hx)⟩,fun x y hx=>?_⟩
 ·rcases hx with hx | ⟨rfl,rfl⟩
  ·obtain ⟨h1,h2,h3⟩:=hH.z x y hx
   refine ⟨h1,h2,fun h4=>h3 ?_⟩
   rw [nF] at h4 ⊢
   rw [kY]
   simp only [List.mem_append] at h4 ⊢
   rcases h4 with h4 | h4<;>simp [h4]
  exact ⟨hbk,hH.lt _ (by rw [nF,kY,hfp];simp),hnb⟩
 ·refine hH.h x ?_
  simp only [List.mem_append,List.mem_cons] at hx ⊢
  rcases hx with hx | hx<;>simp [hx]
 ·refine hH.lt x ?_
  have hx:x∈yI (p++q):=hx
  rw [nF] at hx ⊢
  rw [kY]
  simp only [List.mem_append] at hx ⊢
  rcases hx with hx | hx<;>simp [hx]
 ·rw [nF]
  obtain ⟨n1,n2,n3⟩:=List.nodup_append.1 hnd0
  exact List.nodup_append.2 ⟨n1,(List.nodup_cons.1 n2).2,fun x hx y hy=>n3 x hx y (by simp [hy])⟩
 ·refine hown x ?_
  have hx:x∈yI (p++q):=hx
  rw [nF] at hx ⊢
  rw [kY]
  simp only [List.mem_append] at hx ⊢
  rcases hx with hx | hx<;>simp [hx]
 rcases hx with hx | ⟨rfl,rfl⟩
 ·exact h.zin x y hx
 exact .inr (hown x (by rw [nF,kY,hfp];simp))
end
def FL (call:jO) (B:sY) (l:List I) (fs:Sf) (Q:Sf→Prop):Prop:=∀ st,Rf B fs st→Wp (Pz call l st) fun st'=>∃ fs',Rf B fs' st'∧Q fs'
def FX (call:jO) (k:Nat) (B:sY) (c:XC) (fs:Sf) (Q:Exit→Sf→Prop):Prop:=∀ st,Rf B fs st→Wx (V2 call k c st) fun e st'=>∃ fs',Rf B fs' st'∧Q e fs'
def bJL (Qn:Sf→Prop) (Q:Exit→Sf→Prop):Exit→Sf→Prop:=fun e fs=>match e with
 | .normal=>Qn fs
 | e=>Q e fs
section
variable {call:jO} {k:Nat} {B:sY} {fs:Sf} {Q:Exit→Sf→Prop}
theorem bJG {c:XC} {Q':Exit→Sf→Prop} (h:FX call k B c fs Q') (g:∀ e fs,Q' e fs→Q e fs):FX call k B c fs Q:=fun st r=>(h st r).mono fun e st' ⟨fs',r',q⟩=>⟨fs',r',g e fs' q⟩
theorem xG {l:List I} (h:FL call B l fs (Q .normal)):FX call k B (.region l) fs Q:=fun st r=>bBb (h st r)
theorem aT {a b : XC} (h : FX call k B a fs (bJL (fun fs' => FX call k B b fs' Q) Q)) : FX call k B (.seq a b) fs Q := fun st r => bNB ((h st r).mono fun e st' ⟨fs', r', q⟩ => by
  cases e with
  | normal=>exact q st' r'
  | _=>exact ⟨fs',r',q⟩)
theorem xR {l:List I} {b:XC} (h:FL call B l fs (fun fs'=>FX call k B b fs' Q)):FX call k B (.seq (.region l) b) fs Q:=aT (xG h)
theorem bDR {c c':XC} (he:∀ st,V2 call k c st=V2 call k c' st) (h:FX call k B c' fs Q):FX call k B c fs Q:=fun st r=>by rw [he];exact h st r
theorem aGM {a b c : XC} (h : FX call k B (.seq a (.seq b c)) fs Q) : FX call k B (.seq (.seq a b) c) fs Q := bDR (fun st => by
  simp only [V2]
  cases V2 call k a st with
  | none=>rfl
  | some p=>obtain ⟨e,st1⟩:=p;cases e<;>rfl) h
theorem dA {r:XC} (h:FX call k B r fs Q):FX call k B (.seq .skip r) fs Q:=bDR (fun _=>rfl) h
theorem dK {id:Nat} {r:XC} (h:Q (.exit id) fs):FX call k B (.seq (.exit id) r) fs Q:=fun st rf=>⟨fs,rf,h⟩
theorem mN {r:XC} (h:Q .ret fs):FX call k B (.seq .ret r) fs Q:=fun st rf=>⟨fs,rf,h⟩
theorem iF (h:Q .normal fs):FX call k B .skip fs Q:=fun st rf=>⟨fs,rf,h⟩
theorem xT (h:Q .ret fs):FX call k B .ret fs Q:=fun st rf=>⟨fs,rf,h⟩
theorem bAe {id:Nat} (h:Q (.exit id) fs):FX call k B (.exit id) fs Q:=fun st rf=>⟨fs,rf,h⟩
theorem aQ {id:Nat} {b:XC} (h:FX call k B b fs fun e=>Q (aTH id e)):FX call k B (.block id b) fs Q:=fun st r=>bDB (h st r)
theorem iO {c:Od} {a b:XC} {t:Bool} (hc:fs.ev c=.c (.v (.bool t))) (h1:t=true→FX call k B a fs Q) (h2:t=false→FX call k B b fs Q):FX call k B (.cond c a b) fs Q:=fun st r=>by
 refine bKo (t:=t) (by rw [r.ev];exact hc) ?_
 cases t with
 | true=>exact h1 rfl st r
 | false=>exact h2 rfl st r
theorem xD {c:Od} {a b:XC} {P:Prop} [Decidable P] (hc:fs.ev c=.c (.v (.bool (decide P)))) (h1:P→FX call k B a fs Q) (h2:¬ P→FX call k B b fs Q):FX call k B (.cond c a b) fs Q:=
 iO hc (fun h=>h1 (of_decide_eq_true h)) (fun h=>h2 (of_decide_eq_false h))
theorem uG {c:Od} {a b:XC} {P:Prop} [Decidable P] (hc:fs.ev c=.c (.v (.bool (!decide P)))) (h1:¬ P→FX call k B a fs Q) (h2:P→FX call k B b fs Q):FX call k B (.cond c a b) fs Q:=
 iO hc (fun h=>h1 (by simpa using h)) (fun h=>h2 (by simpa using h))
theorem aWv {c:Od} {a b:XC} (hc:fs.ev c=.c (.v (.bool true))) (h:FX call k B a fs Q):FX call k B (.cond c a b) fs Q:=iO hc (fun _=>h) (fun h=>by cases h)
theorem O3 {c:Od} {a b:XC} (hc:fs.ev c=.c (.v (.bool false))) (h:FX call k B b fs Q):FX call k B (.cond c a b) fs Q:=iO hc (fun h=>by cases h) (fun _=>h)
theorem Uw {c : Od} {a b r : XC} (h : FX call k B (.cond c (.seq a r) (.seq b r)) fs Q) : FX call k B (.seq (.cond c a b) r) fs Q := bDR (fun st => by
  simp only [V2]
  cases (st.ev c).bool? with
  | none=>rfl
  | some t=>cases t<;>rfl) h
theorem dN {Qn:Sf→Prop} (h:Qn fs):bJL Qn Q .normal fs:=h
theorem lS {Qn:Sf→Prop} (h:Q .ret fs):bJL Qn Q .ret fs:=h
def LQ (I:Nat→Sf→Prop) (n:Nat) (Q:Exit→Sf→Prop):Exit→Sf→Prop:=fun e fs=>match e with
 | .normal=>∃ n',n'<n∧I n' fs
 | e=>Q e fs
theorem lQ {I:Nat→Sf→Prop} {n n':Nat} (h:n'<n) (hi:I n' fs):LQ I n Q .normal fs:=⟨n',h,hi⟩
theorem B8 {I:Nat→Sf→Prop} {n:Nat} (h:Q .ret fs):LQ I n Q .ret fs:=h
theorem nQ {I:Nat→Sf→Prop} {n id:Nat} (h:Q (.exit id) fs):LQ I n Q (.exit id) fs:=h
theorem eA {b:XC} (I:Nat→Sf→Prop) (step:∀ n fs,I n fs→FX call k B b fs (LQ I n Q)) (n:Nat) (h0:I n fs) (hk:n<k):FX call k B (.loop b) fs Q:=by
 have key:∀ (n:Nat) (j:Nat) (fs:Sf) (st:AS),n<j→I n fs→Rf B fs st→Wx (aDE (V2 call k b) j st) fun e st'=>∃ fs',Rf B fs' st'∧Q e fs':=by
  intro n
  induction n using Nat.strongRecOn with
  | ind n ih =>
   intro j fs st hj hi r
   obtain ⟨j,rfl⟩:∃ i,j=i+1:=⟨j - 1,by omega⟩
   refine bJR ((step n fs hi st r).mono fun e st' ⟨fs',r',q⟩=>?_)
   cases e with
   | normal =>
    obtain ⟨n',hn,hi'⟩:=q
    exact ih n' hn j fs' st' (by omega) hi' r'
   | _=>exact ⟨fs',r',q⟩
 exact fun st r=>bKW (key n k fs st hk h0 r)
inductive AtL (e:Zv):List (Nat×AV)→Prop where
 | nil:AtL e []
 | cons (i:Nat) (v:AV) (l:List (Nat×AV)) (h:e i=v) (t:AtL e l):AtL e ((i,v)::l)
theorem Et {e:Zv}:AtL e []:=.nil
theorem jN {e:Zv} {i:Nat} {v:AV} {l:List (Nat×AV)} (h:e i=v) (t:AtL e l):AtL e ((i,v)::l):=.cons i v l h t
theorem AtL.eq {e:Zv} {l:List (Nat×AV)} (h:AtL e l):aTw e l=e:=by
 induction h with
 | nil=>rfl
 | cons i v l h t ih =>
  show aE6 (aTw e l) i v=e
  rw [ih]
  exact aSv h
theorem A9 {c:XC} {e:Zv} {z:dE} {H:List HA} {l:List (Nat×AV)} (h:AtL e l) (hx:∀ e',FX call k B c ⟨aTw e' l,z,H⟩ Q):FX call k B c ⟨e,z,H⟩ Q:=by
 have:=hx e
 rw [h.eq] at this
 exact this
end
open Go.RowKit
open Go.Eng (Od need jX jF oH binV binBV)
def lenOf:AV→Option Nat
 | .c (.v (.slice none 0 0))=>some 0
 | .c (.sl _ _ n _)=>some n
 | .c .em=>some 0
 | _=>none
def aEP (ev:Od→AV) (size:Nat):List C→List (Nat×Od)→Option (List C)
 | cs,[]=>some cs
 | cs,(i,x)::r=>match (ev x).cells? with
  | some ds=>need (ds.length=size∧i * size+size≤cs.length) (aEP ev size (oH cs (i * size) ds) r)
  | none=>none
theorem bEy (st:AS) (size:Nat) (cs:List C) (l:List (Nat×Od)):uZ st size cs l=aEP st.ev size cs l:=by
 induction l generalizing cs with
 | nil=>rfl
 | cons p l ih =>
  obtain ⟨i,x⟩:=p
  simp only [uZ,aEP]
  cases (st.ev x).cells? with
  | none=>rfl
  | some ds=>simp only [ih]
def aTm (ev:Od→AV):List C→List (Nat×Nat×Od)→Option (List C)
 | cs,[]=>some cs
 | cs,(off,size,x)::r=>match (ev x).cells? with
  | some ds=>need (ds.length=size∧off+size≤cs.length) (aTm ev (oH cs off ds) r)
  | none=>none
theorem bDm (st:AS) (cs:List C) (l:List (Nat×Nat×Od)):aB8 st cs l=aTm st.ev cs l:=by
 induction l generalizing cs with
 | nil=>rfl
 | cons p l ih =>
  obtain ⟨i,j,x⟩:=p
  simp only [aB8,aTm]
  cases (st.ev x).cells? with
  | none=>rfl
  | some ds=>simp only [ih]
def aUZ (ev:Od→AV):List Od→Option (List (Bool×List C))
 | []=>some []
 | x::r=>match ev x,aUZ ev r with
  | .c c,some l=>some ((false,[c])::l)
  | .agg cs,some l=>some ((true,cs)::l)
  | _,_=>none
theorem bCl (st:AS) (l:List Od):Kr st l=aUZ st.ev l:=by
 induction l with
 | nil=>rfl
 | cons x l ih =>
  simp only [Kr,aUZ,ih]
  cases st.ev x<;>cases aUZ st.ev l<;>rfl
theorem Rf.evf {B:sY} {fs:Sf} {st:AS} (h:Rf B fs st):st.ev=fs.ev:=funext h.ev
theorem mem0 {a:HA} {l:List HA}:a∈a::l:=List.mem_cons_self ..
theorem uD {a x:HA} {l:List HA} (h:a∈l):a∈x::l:=List.mem_cons_of_mem _ h
theorem aU {n m:Nat} (h:Nat.ble n m=true):n≤m:=Nat.le_of_ble_eq_true h
section
variable {call:jO} {B:sY} {fs:Sf} {l:List I} {Q:Sf→Prop} {d:Nat}
theorem lN (h:Q fs):FL call B [] fs Q:=fun st r=>bS5 ⟨fs,r,h⟩
theorem aIw {o:jM} {v:AV} (hc:∀ st:AS,callee st o=none) (h:∀ st,Rf B fs st→cP o st=some v) (hw:FL call B l (fs.put d v) Q):FL call B (⟨some d,none,o⟩::l) fs Q:=fun st r=>aAV (i_q (hc st) (h st r)) (hw _ (r.put d v))
theorem lM {x:Od} {v:AV} (hx:fs.ev x=v) (hw:FL call B l (fs.put d v) Q):FL call B (⟨some d,none,.mv x⟩::l) fs Q:=fun st r=>bW1 ((r.ev x).trans hx) (hw _ (r.put d v))
theorem lB {op:BinOp} {x y:Od} {u v r:Value} (hx:fs.ev x=.c (.v u)) (hy:fs.ev y=.c (.v v)) (h:pR op u v=some r) (hw:FL call B l (fs.put d (.c (.v r))) Q):FL call B (⟨some d,none,.bin op x y⟩::l) fs Q:=
 fun st rf=>bRT ((rf.ev x).trans hx) ((rf.ev y).trans hy) h (hw _ (rf.put _ _))
theorem I3 {op:BinOp} {x y:Od} {u v r:Value} (hx:fs.ev x=.c (.v u)) (hy:fs.ev y=.c (.v v)) (h:binBV op u v=some r) (hw:FL call B l (fs.put d (.c (.v r))) Q):FL call B (⟨some d,none,.binB op x y⟩::l) fs Q:=
 aIw (fun _=>rfl) (fun st rf=>by simp only [cP,rf.ev,hx,hy,AV.val?,h];rfl) hw
theorem aNN {op:UnOp} {x:Od} {u r:Value} (hx:fs.ev x=.c (.v u)) (h:unW op u=some r) (hw:FL call B l (fs.put d (.c (.v r))) Q):FL call B (⟨some d,none,.un op x⟩::l) fs Q:=fun st rf=>bXt ((rf.ev x).trans hx) h (hw _ (rf.put _ _))
theorem mB {k:IntKind} {x:Od} {k':IntKind} {n m:Int} (hx:fs.ev x=.c (.v (.int k' n))) (h:k.wrap n=m) (hw:FL call B l (fs.put d (.c (.v (.int k m)))) Q):FL call B (⟨some d,none,.cvi k x⟩::l) fs Q:=fun st rf=>bTV ((rf.ev x).trans hx) (by rw [h];exact hw _ (rf.put _ _))
theorem aFy {x:Od} {v:AV} {n:Nat} (hx:fs.ev x=v) (h:lenOf v=some n) (hw:FL call B l (fs.put d (.c (.v (.int .i64 n)))) Q):FL call B (⟨some d,none,.len false x⟩::l) fs Q:=by
 refine aIw (fun _=>rfl) (fun st rf=>?_) hw
 simp only [cP,rf.ev,hx]
 unfold lenOf at h
 split at h<;>first | (injection h with h;subst h;rfl) | cases h
theorem lF {off:Nat} {x:Od} {b o:Nat} (hx:fs.ev x=.c (.ptr b o)) (hw:FL call B l (fs.put d (.c (.ptr b (o+off)))) Q):FL call B (⟨some d,none,.fad off x⟩::l) fs Q:=fun st r=>bTK ((r.ev x).trans hx) (hw _ (r.put _ _))
theorem bHw {agg:Bool} {size off:Nat} {x:Od} {cs:List C} {v:AV} (hx:fs.ev x=.agg cs) (hl:off+size≤cs.length) (hv:Xs agg ((cs.drop off).take size)=v) (hw:FL call B l (fs.put d v) Q):FL call B (⟨some d,none,.fld agg size off x⟩::l) fs Q:=
 aIw (fun _=>rfl) (fun st rf=>by simp only [cP,rf.ev,hx];rw [jX hl,hv]) hw
theorem bO2 {f:Nat} {first caps:List Od} {us cs:List (Bool×List C)} (h1:aUZ fs.ev first=some us) (h2:aUZ fs.ev caps=some cs) (hw:FL call B l (fs.put d (.c (.fn f us cs))) Q):FL call B (⟨some d,none,.mkf f first caps⟩::l) fs Q:=
 aIw (fun _=>rfl) (fun st rf=>by simp only [cP,bCl,rf.evf,h1,h2]) hw
theorem I1 {zero:List Value} {parts:List (Nat×Nat×Od)} {cs:List C} (h:aTm fs.ev (zero.map fun v=>.v v) parts=some cs) (hw:FL call B l (fs.put d (.agg cs)) Q):FL call B (⟨some d,none,.build zero parts⟩::l) fs Q:=
 aIw (fun _=>rfl) (fun st rf=>by simp only [cP,bDm,rf.evf,h]) hw
theorem aFn {x:Od} {b o:Nat} (hx:fs.ev x=.c (.ptr b o)) (hw:FL call B l (fs.put d (.c (.ptr b o))) Q):FL call B (⟨some d,none,.nilck x⟩::l) fs Q:=
 aIw (fun _=>rfl) (fun st rf=>by simp only [cP,rf.ev,hx]) hw
theorem bDC {mn:Bool} {x y:Od} {k:IntKind} {a b m:Int} (hx:fs.ev x=.c (.v (.int k a))) (hy:fs.ev y=.c (.v (.int k b))) (hm:(match mn with | false=>if b > a then b else a | true=>if b<a then b else a)=m) (hw:FL call B l (fs.put d (.c (.v (.int k m)))) Q):FL call B (⟨some d,none,.mx mn x y⟩::l) fs Q:=
 aIw (fun _=>rfl) (fun st rf=>by simp only [cP,rf.ev,hx,hy,AV.val?];rw [jX trivial];subst hm;cases mn<;>rfl) hw
theorem uM {size:Nat} {x i:Od} {b o n:Nat} {kd:IntKind} {z:Int} (hx:fs.ev x=.c (.sl b o n size)) (hi:fs.ev i=.c (.v (.int kd z))) (j:Nat) (hj:z=(j:Int)) (h:j<n) (hw:FL call B l (fs.put d (.c (.ptr b (o+j * size)))) Q):FL call B (⟨some d,none,.iad size x i⟩::l) fs Q:=
 fun st r=>bT1 ((r.ev x).trans hx) ((r.ev i).trans (by rw [hi,hj])) h (hw _ (r.put _ _))
theorem mK {agg:Bool} {size:Nat} {x:Od} {b o ty:Nat} {cs:List C} {v:AV} (hx:fs.ev x=.c (.ptr b o)) (hm:HA.blk b (.cells ty cs)∈fs.H) (hl:o+size≤cs.length) (hv:Xs agg ((cs.drop o).take size)=v) (hw:FL call B l (fs.put d v) Q):FL call B (⟨some d,none,.load agg size x⟩::l) fs Q:=
 fun st r=>aAV (bGx ((r.ev x).trans hx) (r.hold.h _ hm) hl) (by rw [hv];exact hw _ (r.put _ _))
theorem aRH {o:jM} {k:pA} {w:Nat→AV} (hc:∀ st:AS,callee st o=none) (hq:∀ st,cP o st=none) (he:∀ st,Rf B fs st→eE o st=some (st.new k,w st.nx)) (hw:∀ b,FL call B l (fs.own d (w b) (.blk b k)) Q):FL call B (⟨some d,none,o⟩::l) fs Q:=fun st r=>by
 refine aAV (i_e (hc st) (hq st) (he st r)) ?_
 have r1:=r.new (a:=.blk st.nx k) (m':=(st.new k).mem) (by show (st.new k).mem.get st.nx=some k;rw [aDD,if_pos rfl]) rfl (fun b hb=>by rw [aDD,if_neg fun e=>hb e.symm])
 exact hw st.nx _ (r1.put d (w st.nx))
theorem aRp {ty:Nat} {x:Od} {v:AV} {cs:List C} (hx:fs.ev x=v) (hv:v.cells? = some cs) (hw:∀ b,FL call B l (fs.own d (.c (.ptr b 0)) (.blk b (.cells ty cs))) Q):FL call B (⟨some d,none,.box ty x⟩::l) fs Q:=
 aRH (w:=fun b=>.c (.ptr b 0)) (fun _=>rfl) (fun _=>rfl) (fun st r=>by simp only [eE,r.ev,hx,hv]) hw
theorem mR {ty:Nat} {zero:List Value} (hw:∀ b,FL call B l (fs.own d (.c (.ptr b 0)) (.blk b (.cells ty (zero.map fun v=>.v v)))) Q):FL call B (⟨some d,none,.alloc ty zero⟩::l) fs Q:=
 aRH (w:=fun b=>.c (.ptr b 0)) (fun _=>rfl) (fun _=>rfl) (fun st r=>rfl) hw
theorem kO {ty size len:Nat} {zero:List Value} {parts:List (Nat×Od)} {cs:List C} (h:aEP fs.ev size (Vt len (zero.map fun v=>.v v)) parts=some cs) (hw:∀ b,FL call B l (fs.own d (.c (.sl b 0 len size)) (.blk b (.cells ty cs))) Q):FL call B (⟨some d,none,.bslice ty size len zero parts⟩::l) fs Q:=
 aRH (w:=fun b=>.c (.sl b 0 len size)) (fun _=>rfl) (fun _=>rfl) (fun st r=>by simp only [eE,bEy,r.evf,h]) hw
theorem aVa {size:Nat} {x y:Od} {b o ty:Nat} {cs ds:List C} {v:AV} {H':List HA} (hx:fs.ev x=.c (.ptr b o)) (hy:fs.ev y=v) (hv:v.cells? = some ds) (hr:Hy fs.H (.blk b (.cells ty cs)) (.blk b (.cells ty (oH cs o ds))) H') (hs:ds.length=size) (h:o+size≤cs.length)
  (hw:FL call B l (fs.heap H') Q):FL call B (⟨none,none,.store size x y⟩::l) fs Q:=fun st r=>by
 refine bKy ((r.ev x).trans hx) ((r.ev y).trans hy) hv (r.hold.h _ hr.mem) hs h ?_
 exact hw _ (r.rep hr (Nat.le_refl _) (by show (st.setB b _).mem.get b=_;rw [aF6,if_pos rfl]) (fun c hc=>.inl hc) (by simp [HA.fp]) (fun c _ hc=>by show (st.setB b _).mem.get c=_;rw [aF6,if_neg fun e=>hc (by simp [HA.fp,e])]))
def Src (z:dE) (H:List HA) (size:Nat) (v:AV) (m:Nat) (news:List C):Prop:=∀ (st:AS) (nx:Nat),aFt z H st.mem nx→st.row size v=some (m,news)
theorem bJI {z:dE} {H:List HA} {size b o m ty:Nat} {cs ds:List C} (hm:HA.blk b (.cells ty cs)∈H) (hl:o+m * size≤cs.length) (hd:(cs.drop o).take (m * size)=ds):Src z H size (.c (.sl b o m size)) m ds:=fun st nx h=>by
 rw [bMR (h.h _ hm) hl,hd]
theorem aY1 {st:AS} (r:Rf B fs st) {ty size bytes n m:Nat} {zero:List Value} {x y:Od} {u v:AV} {cs news:List C} {H':AV→List HA} (hx:fs.ev x=u) (hy:fs.ev y=v) (hrow:st.row size v=some (m,news)) (hr:∀ u',Hy fs.H (.row u ty size n cs) (.row u' ty size (n+m) (cs++news)) (H' u')) (hl:news.length=m * size) (hb:(n+m) * bytes≤140737488355328) (hn:n+m≤9223372036854775807)
    (hw:∀ c':C,qV c' c'=true→FL call B l (fs.res d (.c c') fs.z (H' (.c c'))) Q):Wp (Pz call (⟨some d,none,.app ty size bytes zero x y⟩::l) st) fun st'=>∃ fs',Rf B fs' st'∧Q fs':=by
  obtain ⟨g1,g2⟩:=r.hold.h _ (hr C4).mem
  have hx':=(r.ev x).trans hx
  have hy':=(r.ev y).trans hy
  cases m with
  | zero =>
    have e:news=[]:=List.eq_nil_of_length_eq_zero (by omega)
    subst e
    refine bMH (u:=u) hx' ?_ hy' hrow ?_
    · rcases g2 with ⟨_, rfl⟩ | ⟨b, rfl, _⟩
      · exact .inr rfl
      · exact .inl ⟨_,_,_,_,rfl⟩
    · have h1:=hr u
      rw [List.append_nil,Nat.add_zero] at h1
      obtain ⟨c0,hc0,hs0⟩:∃ c0,u=.c c0∧qV c0 c0=true:=by rcases g2 with ⟨_,rfl⟩ | ⟨b,rfl,_⟩<;>exact ⟨_,rfl,by simp [qV,aXa]⟩
      subst hc0
      exact hw c0 hs0 _ ((r.rep h1 (Nat.le_refl _) (r.hold.h _ h1.mem) (fun b hb=>.inl hb) (by rcases g2 with ⟨_,h⟩ | ⟨b,h,_⟩<;>injection h with h<;>subst h<;>simp [HA.fp]) (fun _ _ _=>rfl)).put d (.c c0))
  | succ m =>
    rcases g2 with ⟨rfl,rfl⟩ | ⟨b,rfl,h3⟩
    · have e : cs = [] := List.eq_nil_of_length_eq_zero (by omega)
      subst e
      refine bMz hx' hy' hrow (by simpa using hb) (by omega) ?_
      have h1:=hr (.c (.sl st.nx 0 (m+1) size))
      rw [List.nil_append,Nat.zero_add] at h1
      exact hw _ (by simp [qV]) _ ((r.rep (m':=(st.new (.cells ty news)).mem) (nx':=st.nx+1) h1 (by omega) ⟨hl,.inr ⟨st.nx,rfl,by rw [aDD,if_pos rfl]⟩⟩ (fun c hc=>.inr (by simp [HA.fp] at hc;omega)) (by simp [HA.fp]) (fun c hc _=>by rw [aDD,if_neg (by omega)])).put d _)
    · refine bTj hx' hy' hrow h3 (by omega) (by simpa using hb) (by omega) ?_
      have h1:=hr (.c (.sl st.nx 0 (n+(m+1)) size))
      have hb2:b<st.nx:=r.hold.lt b (aLB.2 ⟨_,h1.mem,by simp [HA.fp]⟩)
      refine hw _ (by simp [qV]) _ ((r.rep (m':=(st.moveB b (.cells ty (cs.drop 0++news))).mem) (nx':=st.nx+1) h1 (by omega) ⟨by rw [List.length_append,g1,hl,← Nat.add_mul],.inr ⟨st.nx,rfl,by rw [aUW,if_pos rfl];rfl⟩⟩ (fun c hc=>.inr (by simp [HA.fp] at hc;omega)) (by simp [HA.fp]) (fun c hc hc2=>?_)).put d _)
      rw [aUW,if_neg (by omega),if_neg fun e=>hc2 (by simp [HA.fp,e])]
theorem bNi {ty size bytes n m:Nat} {zero:List Value} {x y:Od} {u v:AV} {cs news:List C} {H':AV→List HA} (hx:fs.ev x=u) (hy:fs.ev y=v) (hs:Src fs.z fs.H size v m news) (hr:∀ u',Hy fs.H (.row u ty size n cs) (.row u' ty size (n+m) (cs++news)) (H' u')) (hl:news.length=m * size) (hb:(n+m) * bytes≤140737488355328) (hn:n+m≤9223372036854775807)
  (hw:∀ c':C,qV c' c'=true→FL call B l (fs.res d (.c c') fs.z (H' (.c c'))) Q):FL call B (⟨some d,none,.app ty size bytes zero x y⟩::l) fs Q:=fun st r=>aY1 r hx hy (hs st st.nx r.hold) hr hl hb hn hw
theorem bPG {a:HA} {p q:List HA} {b:Nat} {k:pA} (e:fs.H=p++a::q) (hfp:a.fp=[b]) (ha:∀ m,a.ok m→m.get b=some k) (hw:∀ z',zle fs.z z'→z' b k→FL call B l (fs.frz z' (p++q)) Q):FL call B l fs Q:=fun st r =>
 hw _ ⟨fun _ _ h=>.inl h⟩ (.inr ⟨rfl,rfl⟩) st (r.frz e hfp ha)
theorem lD {dd:Option Nat} {s:Nat} {want:Bool} {o:jM} (h:fs.e s=.c (.v (.bool want))) (hw:FL call B (⟨dd,none,o⟩::l) fs Q):FL call B (⟨dd,some (s,want),o⟩::l) fs Q:=fun st r=>bW3 ((r.env s).trans h) (hw st r)
theorem lX {s:Nat} {want:Bool} {o:jM} (h:fs.e s=.c (.v (.bool (!want)))) (hw:FL call B l (fs.put d (.tup [])) Q):FL call B (⟨some d,some (s,want),o⟩::l) fs Q:=fun st r=>bWR ((r.env s).trans h) (hw _ (r.put _ _))
theorem bR6 {s:Nat} {want:Bool} {o:jM} (h:fs.e s=.tup []) (hw:FL call B l (fs.put d (.tup [])) Q):FL call B (⟨some d,some (s,want),o⟩::l) fs Q:=fun st r=>bVh ((r.env s).trans h) (hw _ (r.put _ _))
theorem jI (s:Nat) {t:Bool} (h:fs.e s=.c (.v (.bool t))) (h1:t=true→FL call B l (fs.put s (.c (.v (.bool true)))) Q) (h2:t=false→FL call B l (fs.put s (.c (.v (.bool false)))) Q):FL call B l fs Q:=by
 have e:fs.put s (.c (.v (.bool t)))=fs:=by
  cases fs;simp only [Sf.put];rw [aSv h]
 cases t with
 | true=>have:=h1 rfl;rw [e] at this;exact this
 | false=>have:=h2 rfl;rw [e] at this;exact this
theorem iW (s:Nat) {P:Prop} [Decidable P] (h:fs.e s=.c (.v (.bool (decide P)))) (h1:P→FL call B l (fs.put s (.c (.v (.bool true)))) Q) (h2:¬ P→FL call B l (fs.put s (.c (.v (.bool false)))) Q):FL call B l fs Q:=
 jI s h (fun h=>h1 (of_decide_eq_true h)) (fun h=>h2 (of_decide_eq_false h))
theorem qZ (s:Nat) {P:Prop} [Decidable P] (h:fs.e s=.c (.v (.bool (!decide P)))) (h1:¬ P→FL call B l (fs.put s (.c (.v (.bool true)))) Q) (h2:P→FL call B l (fs.put s (.c (.v (.bool false)))) Q):FL call B l fs Q:=
 jI s h (fun h=>h1 (by simpa using h)) (fun h=>h2 (by simpa using h))
end
theorem wR {z:Int} (h : -9223372036854775808≤z∧z<9223372036854775808):IntKind.i64.wrap z=z:=bKp h.1 h.2
theorem bUg {z:Int} (h:0≤z∧z<4294967296):IntKind.u32.wrap z=z:=by
 simp [IntKind.wrap,IntKind.bits,IntKind.signed];omega
theorem bXL {z:Int} (h:0≤z∧z<18446744073709551616):IntKind.u64.wrap z=z:=by
 simp [IntKind.wrap,IntKind.bits,IntKind.signed];omega
theorem wu8 {z:Int} (h:0≤z∧z<256):IntKind.u8.wrap z=z:=by
 simp [IntKind.wrap,IntKind.bits,IntKind.signed];omega
theorem bH0 (z:Int):IntKind.u32.wrap z=z % 4294967296:=by
 simp [IntKind.wrap,IntKind.bits,IntKind.signed]
theorem aZZ (z:Int):IntKind.u64.wrap z=z % 18446744073709551616:=by
 simp [IntKind.wrap,IntKind.bits,IntKind.signed]
theorem aTp {k:IntKind} {a b r:Int} (ha:0≤a) (hb:0<b) (h:k.wrap (a / b)=r):pR .quo (.int k a) (.int k b)=some (.int k r):=by
 have:a.tdiv b=a / b:=Int.tdiv_eq_ediv_of_nonneg ha
 simp [pR,binV,need,show b≠0 by omega,this,h]
theorem aTV {k:IntKind} {a b r:Int} (ha:0≤a) (hb:0<b) (h:a % b=r):pR .rem (.int k a) (.int k b)=some (.int k r):=by
 have:a.tmod b=a % b:=Int.tmod_eq_emod_of_nonneg ha
 simp [pR,binV,need,show b≠0 by omega,this,h]
theorem uF {k:IntKind} {a b r:Int} (h:k.wrap (a+b)=r):pR .add (.int k a) (.int k b)=some (.int k r):=by rw [bSa,h]
theorem zH {k:IntKind} {a b r:Int} (h:k.wrap (a - b)=r):pR .sub (.int k a) (.int k b)=some (.int k r):=by rw [bSl,h]
theorem aYV {k:IntKind} {a b r:Int} (h:k.wrap (a * b)=r):pR .mul (.int k a) (.int k b)=some (.int k r):=by rw [bMd,h]
open Go.RowKit
open Go.Eng (Od need jX jF oH binV binBV)
def FCt (call:jO) (f:Nat) (args:List AV) (z:dE) (H:List HA) (Post:AV→dE→List HA→Prop):Prop:=
 ∀ mem nx,aFt z H mem nx→∃ v mem' nx' z' H',call f args mem nx=some (v,mem',nx')∧nx≤nx'∧(∀ b,b<nx→b ∉ yI H→mem'.get b=mem.get b)∧aFt z' H' mem' nx'∧zle z z' ∧
  (∀ b k,z' b k→z b k∨nx≤b∨b∈yI H)∧(∀ b,b∈yI H'→nx≤b∨b∈yI H)∧Post v z' H'
def FC (call:jO) (f:Nat) (args:List AV) (z:dE) (Post:AV→dE→Prop):Prop:=FCt call f args z [] fun v z' H'=>H'=[]∧Post v z'
theorem FCt.mono {call:jO} {f:Nat} {args:List AV} {z:dE} {H:List HA} {P Q:AV→dE→List HA→Prop} (h:FCt call f args z H P) (g:∀ v z' H',zle z z'→P v z' H'→Q v z' H'):FCt call f args z H Q:=fun mem nx hh=>by
 obtain ⟨v,mem',nx',z',H',h1,h2,h3,h4,h5,h6,h7,h8⟩:=h mem nx hh
 exact ⟨v,mem',nx',z',H',h1,h2,h3,h4,h5,h6,h7,g v z' H' h5 h8⟩
theorem FC.mono {call:jO} {f:Nat} {args:List AV} {z:dE} {P Q:AV→dE→Prop} (h:FC call f args z P) (g:∀ v z',zle z z'→P v z'→Q v z'):FC call f args z Q:=FCt.mono h fun v z' H' hz ⟨h1,h2⟩=>⟨h1,g v z' hz h2⟩
theorem aFt.left {z:dE} {Hs Hr:List HA} {m:Tr pA} {nx:Nat} (h:aFt z (Hs++Hr) m nx):aFt z Hs m nx:=by
 refine ⟨fun b k hb=>?_,fun a ha=>h.h a (by simp [ha]),fun b hb=>h.lt b (by rw [nF];simp [hb]),?_⟩
 ·obtain ⟨h1,h2,h3⟩:=h.z b k hb
  exact ⟨h1,h2,fun h4=>h3 (by rw [nF];simp [h4])⟩
 have:=h.nd
 rw [nF] at this
 exact (List.nodup_append.1 this).1
theorem Rf.callR {B:sY} {fs:Sf} {st:AS} (r:Rf B fs st) {Hs Hr H':List HA} (e:fs.H=Hs++Hr) {mem':Tr pA} {nx':Nat} {z':dE} (hn:st.nx≤nx') (hm:∀ b,b<st.nx→b ∉ yI Hs→mem'.get b=st.mem.get b) (hh:aFt z' H' mem' nx') (hz:CE.zle fs.z z')
    (hin:∀ b k,z' b k→fs.z b k∨st.nx≤b∨b∈yI Hs) (hown:∀ b,b∈yI H'→st.nx≤b∨b∈yI Hs):Rf B ⟨fs.e,z',H'++Hr⟩ ⟨st.env,mem',nx'⟩:=by
  have hH:=r.hold
  rw [e] at hH
  have ho:=r.own
  rw [e] at ho
  have hnd:=hH.nd
  rw [nF] at hnd
  obtain ⟨n1,n2,n3⟩:=List.nodup_append.1 hnd
  have hs:∀ b,b∈yI Hs→b∈yI (Hs++Hr):=fun b hb=>by rw [nF];simp [hb]
  have hr:∀ b,b∈yI Hr→b∈yI (Hs++Hr):=fun b hb=>by rw [nF];simp [hb]
  have hrl:∀ b,b∈yI Hr→b<st.nx∧b ∉ yI Hs:=fun b hb=>⟨hH.lt b (hr b hb),fun h4=>n3 b h4 b hb rfl⟩
  refine ⟨r.env,⟨fun b k hb=>?_,fun a ha=>?_,fun b hb=>?_,?_⟩,Nat.le_trans r.le hn,fun b hb hl=>?_,fun b hb=>?_,⟨fun b k hb=>hz b k (r.zle b k hb)⟩,fun b k hb=>?_⟩
  · obtain ⟨h1, h2, h3⟩ := hh.z b k hb
    refine ⟨h1,h2,?_⟩
    rw [nF]
    simp only [List.mem_append,not_or]
    refine ⟨h3,fun h4=>?_⟩
    have h5:=hrl b h4
    rcases hin b k hb with h6 | h6 | h6
    · exact (hH.z b k h6).2.2 (hr b h4)
    · omega
    · exact h5.2 h6
  · rcases List.mem_append.1 ha with ha | ha
    · exact hh.h a ha
    · refine HA.ok_of (hH.h a (by simp [ha])) fun b hb => ?_
      have h5:=hrl b (aLB.2 ⟨a,ha,hb⟩)
      exact hm b h5.1 h5.2
  · have hb:b∈yI (H'++Hr):=hb
    rw [nF] at hb
    rcases List.mem_append.1 hb with hb | hb
    · exact hh.lt b hb
    · exact Nat.lt_of_lt_of_le (hrl b hb).1 hn
  · rw [nF]
    refine List.nodup_append.2 ⟨hh.nd,n2,fun x hx y hy e=>?_⟩
    subst e
    have h5:=hrl x hy
    rcases hown x hx with h6 | h6
    · omega
    · exact h5.2 h6
  · refine (hm b (Nat.lt_of_lt_of_le hb r.le) fun h4=>?_).trans (r.old b hb hl)
    rcases ho b (hs b h4) with h5 | h5
    · omega
    · exact hl h5
  · have hb:b∈yI (H'++Hr):=hb
    rw [nF] at hb
    rcases List.mem_append.1 hb with hb | hb
    · rcases hown b hb with h6 | h6
      · exact .inl (Nat.le_trans r.le h6)
      · exact ho b (hs b h6)
    · exact ho b (hr b hb)
  · rcases hin b k hb with h6 | h6 | h6
    · exact r.zin b k h6
    · exact .inr (.inl (Nat.le_trans r.le h6))
    · exact .inr (ho b (hs b h6))
section
variable {call:jO} {B:sY} {fs:Sf} {l:List I} {Q:Sf→Prop} {d:Nat}
theorem aXq {f:Nat} {args:List Od} {vs:List AV} {Hs Hr:List HA} {Post:AV→dE→List HA→Prop} (ha:args.map fs.ev=vs) (e:fs.H=Hs++Hr) (hc:FCt call f vs fs.z Hs Post)
  (hw:∀ v z' H',zle fs.z z'→Post v z' H'→FL call B l (fs.res d v z' (H'++Hr)) Q):FL call B (⟨some d,none,.call f args⟩::l) fs Q:=fun st r=>by
 have hh:=r.hold
 rw [e] at hh
 obtain ⟨v,mem',nx',z',H',h1,h2,h3,h4,h5,h6,h7,h8⟩:=hc st.mem st.nx hh.left
 refine bN8 (vs:=vs) (by rw [r.evf];exact ha) h1 ?_
 exact hw v z' H' h5 h8 _ ((r.callR e h2 h3 h4 h5 h6 h7).put d v)
theorem aLV {f:Nat} {args:List Od} {vs:List AV} {Post:AV→dE→Prop} (ha:args.map fs.ev=vs) (hc:FC call f vs fs.z Post)
  (hw:∀ v z',zle fs.z z'→Post v z'→FL call B l (fs.res d v z' fs.H) Q):FL call B (⟨some d,none,.call f args⟩::l) fs Q:=
 aXq (Hs:=[]) (Hr:=fs.H) ha rfl hc fun v z' H' hz ⟨h1,h2⟩=>by subst h1;exact hw v z' hz h2
theorem bCR {t:Od} {f:Nat} {us cs:List (Bool×List C)} {args:List Od} {vs:List AV} {Hs Hr:List HA} {Post:AV→dE→List HA→Prop} (ht:fs.ev t=.c (.fn f us cs)) (ha:AV.cs us++(args.map fs.ev++AV.cs cs)=vs) (e:fs.H=Hs++Hr) (hc:FCt call f vs fs.z Hs Post)
  (hw:∀ v z' H',zle fs.z z'→Post v z' H'→FL call B l (fs.res d v z' (H'++Hr)) Q):FL call B (⟨some d,none,.callv t args⟩::l) fs Q:=fun st r=>by
 have hh:=r.hold
 rw [e] at hh
 obtain ⟨v,mem',nx',z',H',h1,h2,h3,h4,h5,h6,h7,h8⟩:=hc st.mem st.nx hh.left
 refine aAV (bKE (v:=v) (mem:=mem') (nx:=nx') ?_) ?_
 ·simp only [evV,callee,r.ev,ht,r.evf,ha,h1]
 exact hw v z' H' h5 h8 _ ((r.callR e h2 h3 h4 h5 h6 h7).put d v)
theorem bFI {t:Od} {f:Nat} {us cs:List (Bool×List C)} {args:List Od} {vs:List AV} {Post:AV→dE→Prop} (ht:fs.ev t=.c (.fn f us cs)) (ha:AV.cs us++(args.map fs.ev++AV.cs cs)=vs) (hc:FC call f vs fs.z Post)
  (hw:∀ v z',zle fs.z z'→Post v z'→FL call B l (fs.res d v z' fs.H) Q):FL call B (⟨some d,none,.callv t args⟩::l) fs Q:=
 bCR (Hs:=[]) (Hr:=fs.H) ht ha rfl hc fun v z' H' hz ⟨h1,h2⟩=>by subst h1;exact hw v z' hz h2
end
def aT7:List AV→Nat→AV
 | [],_=>.any
 | v::l,i=>match i with
  | 0=>v
  | i+1=>aT7 l i
theorem bBV:∀ (l:List AV) (k:Nat) (t:Tr AV) (mem:Tr pA) (nx i:Nat),(⟨Zj k t l,mem,nx⟩:AS).get i=if k≤i∧i<k+l.length then aT7 l (i - k) else (⟨t,mem,nx⟩:AS).get i:=by
  intro l
  induction l with
  | nil =>
    intro k t mem nx i
    rw [if_neg (by simp only [List.length_nil];omega)]
    rfl
  | cons v l ih =>
    intro k t mem nx i
    have e:Zj k t (v::l)=Zj (k+1) (Tr.put (k+1) t k (some v)) l:=rfl
    rw [e,ih]
    have hg:(⟨Tr.put (k+1) t k (some v),mem,nx⟩:AS).get i=if k=i then v else (⟨t,mem,nx⟩:AS).get i:=get_put ⟨t,mem,nx⟩ k i v
    by_cases h:k+1≤i∧i<k+1+l.length
    · rw [if_pos h, if_pos (by simp; omega)]
      obtain ⟨j,hj⟩:∃ j,i - k=j+1:=⟨i - k - 1,by omega⟩
      rw [hj]
      show aT7 l (i - (k+1))=aT7 l j
      congr 1
      omega
    · rw [if_neg h,hg]
      by_cases h2:k=i
      · subst h2
        rw [if_pos rfl,if_pos (by simp),Nat.sub_self]
        rfl
      · rw [if_neg h2,if_neg (by simp;omega)]
theorem bEh (args:List AV) (mem:Tr pA) (nx i:Nat):(⟨Zj 0 .nil args,mem,nx⟩:AS).get i=aT7 args i:=by
  rw [bBV]
  by_cases h:i<args.length
  · rw [if_pos (by omega)];rfl
  · rw [if_neg (by omega)]
    have:∀ (l:List AV) (i:Nat),l.length≤i→aT7 l i=.any:=by
      intro l
      induction l with
      | nil=>intro i _;rfl
      | cons v l ih =>
        intro i hi
        cases i with
        | zero=>simp at hi
        | succ i=>exact ih i (by simpa using hi)
    rw [this args i (by omega)]
    simp [AS.get,Tr.get_nil]
inductive bP4 (fs:Sf):RR→AV→Prop where
 | t (i:Nat) (v:AV) (h:fs.e i=v):bP4 fs (.t i) v
 | c (i:Nat) (g:Bool) (s b o ty:Nat) (cs:List C) (v:AV) (hp:fs.e i=.c (.ptr b o)) (hm:HA.blk b (.cells ty cs)∈fs.H) (hl:o+s≤cs.length) (hv:Xs g ((cs.drop o).take s)=v):bP4 fs (.c i g s) v
inductive Xr (fs:Sf):List RR→List AV→Prop where
 | nil:Xr fs [] []
 | cons (r:RR) (v:AV) (rs:List RR) (vs:List AV) (h:bP4 fs r v) (t:Xr fs rs vs):Xr fs (r::rs) (v::vs)
theorem rn {fs:Sf}:Xr fs [] []:=.nil
theorem rt {fs:Sf} {i:Nat} {v:AV} {rs:List RR} {vs:List AV} (h:fs.e i=v) (t:Xr fs rs vs):Xr fs (.t i::rs) (v::vs):=.cons _ _ _ _ (.t i v h) t
theorem rc {fs:Sf} {i:Nat} {g:Bool} {s b o ty:Nat} {cs:List C} {v:AV} {rs:List RR} {vs:List AV} (hp:fs.e i=.c (.ptr b o)) (hm:HA.blk b (.cells ty cs)∈fs.H) (hl:o+s≤cs.length) (hv:Xs g ((cs.drop o).take s)=v) (t:Xr fs rs vs):Xr fs (.c i g s::rs) (v::vs):=.cons _ _ _ _ (.c i g s b o ty cs v hp hm hl hv) t
def aUz:List AV→AV
 | [v]=>v
 | vs=>.tup vs
theorem bJw {B:sY} {fs:Sf} {st:AS} (r:Rf B fs st) {ts:List RR} {vs:List AV} (h:Xr fs ts vs):aX3 st ts=some vs:=by
 induction h with
 | nil=>rfl
 | cons q v rs vs h t ih =>
  have h1:aY2 st q=some v:=by
   cases h with
   | t i v h=>simp only [aY2,r.env,h]
   | c i g s b o ty cs v hp hm hl hv =>
    have:=r.hold.h _ hm
    simp only [HA.ok] at this
    simp only [aY2,r.env,hp,AS.read,AS.blk,this]
    rw [jX hl]
    simp only [hv]
  simp only [aX3,h1,ih]
theorem bHq {B:sY} {fs:Sf} {st:AS} (r:Rf B fs st) {ts:List RR} {vs:List AV} (h:Xr fs ts vs):aXT st ts=some (aUz vs):=by
 unfold aXT
 rw [bJw r h]
 match vs with
 | []=>rfl
 | [v]=>rfl
 | _::_::_=>rfl
theorem N8 {H H':List HA} (h:H'.Sublist H):(yI H').Sublist (yI H):=by
 induction h with
 | slnil=>exact List.Sublist.refl _
 | cons a h ih=>rw [kY];exact ih.trans (List.sublist_append_right _ _)
 | cons_cons a h ih=>rw [kY,kY];exact (List.Sublist.refl _).append ih
theorem aFt.sub {z:dE} {H H':List HA} {m:Tr pA} {nx:Nat} (h:aFt z H m nx) (hs:H'.Sublist H):aFt z H' m nx:=
 ⟨fun b k hb=>⟨(h.z b k hb).1,(h.z b k hb).2.1,fun h4=>(h.z b k hb).2.2 ((N8 hs).subset h4)⟩,fun a ha=>h.h a (hs.subset ha),fun b hb=>h.lt b ((N8 hs).subset hb),h.nd.sublist (N8 hs)⟩
def bC8 (ts:List RR) (Post:AV→dE→List HA→Prop):Exit→Sf→Prop:=fun x fs=>(x=.ret∨x=.normal)∧∃ vs H',Xr fs ts vs∧H'.Sublist fs.H∧Post (aUz vs) fs.z H'
theorem aQo {T:Tr FE} {hand:jO} {k0 k f:Nat} {e:FE} {args:List AV} {z:dE} {H:List HA} {Post:AV→dE→List HA→Prop} (hT:T.get f=some e) (hk:1≤k) (hl:args.length≤e.n)
  (h:∀ B j,k=j+1→FX (evF T hand k0 j) k0 B e.x ⟨aT7 args,z,H⟩ (bC8 e.ts Post)):FCt (evF T hand k0 k) f args z H Post:=fun mem nx hh=>by
 obtain ⟨j,rfl⟩:∃ j,k=j+1:=⟨k - 1,by omega⟩
 have r0:Rf ⟨mem,nx,z,yI H⟩ ⟨aT7 args,z,H⟩ ⟨Zj 0 .nil args,mem,nx⟩:=
  ⟨fun i=>bEh args mem nx i,hh,Nat.le_refl _,fun b _ _=>rfl,fun b hb=>.inr hb,⟨fun _ _ h=>h⟩,fun b k hb=>.inl hb⟩
 have:=h _ j rfl _ r0
 simp only [evF,hT,Nat.ble_eq_true_of_le hl]
 cases he:V2 (evF T hand k0 j) k0 e.x ⟨Zj 0 .nil args,mem,nx⟩ with
 | none=>rw [he] at this;exact this.elim
 | some p =>
  obtain ⟨x,st⟩:=p
  rw [he] at this
  obtain ⟨fs,r,hx,vs,H',h1,h2,h3⟩:=this
  have hf:fin e st=some (aUz vs,st.mem,st.nx):=by simp only [fin,bHq r h1]
  refine ⟨aUz vs,st.mem,st.nx,fs.z,H',?_,r.le,r.old,r.hold.sub h2,r.zle,r.zin,fun b hb=>r.own b ((N8 h2).subset hb),h3⟩
  rcases hx with rfl | rfl<;>exact hf
theorem cX {T:Tr FE} {hand:jO} {k0 k f:Nat} {e:FE} {args:List AV} {z:dE} {Post:AV→dE→Prop} (hT:T.get f=some e) (hk:1≤k) (hl:args.length≤e.n)
  (h:∀ B j,k=j+1→FX (evF T hand k0 j) k0 B e.x ⟨aT7 args,z,[]⟩ (bC8 e.ts fun v z' H'=>H'=[]∧Post v z')):FC (evF T hand k0 k) f args z Post:=aQo hT hk hl h
theorem rQ {fs:Sf} {ts:List RR} {vs:List AV} {x:Exit} {Post:AV→dE→Prop} (hx:x=.ret∨x=.normal) (h:Xr fs ts vs) (hp:Post (aUz vs) fs.z):bC8 ts (fun v z' H'=>H'=[]∧Post v z') x fs:=⟨hx,vs,[],h,List.nil_sublist _,rfl,hp⟩
open Go.RowKit
open Go.Eng (Od need jX jF oH binV binBV)
def pA.cs:pA→Option (List C)
 | .cells _ cs=>some cs
 | .ro cs=>some cs
 | _=>none
def At (z:dE) (b p:Nat) (cs:List C):Prop:=∃ k full,z b k∧k.cs=some full∧p+cs.length≤full.length∧(full.drop p).take cs.length=cs
theorem At.mono {z z':dE} {b p:Nat} {cs:List C} (h:At z b p cs) (hz:zle z z'):At z' b p cs:=by
 obtain ⟨k,full,h1,h2⟩:=h
 exact ⟨k,full,hz _ _ h1,h2⟩
abbrev RT (α:Type):=dE→List C→α→Prop
class RMono {α:Type} (R:RT α):Prop where
 mono:∀ {z z':dE} {cs:List C} {a:α},zle z z'→R z cs a→R z' cs a
inductive SZ {α:Type} (size:Nat) (R:RT α) (z:dE):AV→List α→Prop where
 | nil:SZ size R z C4 []
 | em:SZ size R z (.c .em) []
 | sl (b o n:Nat) (k:pA) (full:List C) (l:List α) (hl:l.length=n) (hm:n≤9223372036854775807) (hz:z b k) (hk:k.cs=some full) (hf:o+n * size≤full.length) (h:∀ (i:Nat) (a:α),l[i]? = some a→R z ((full.drop (o+i * size)).take size) a):SZ size R z (.c (.sl b o n size)) l
section
variable {α:Type} {size:Nat} {R:RT α} [RMono R] {z z':dE} {v:AV} {l:List α}
theorem SZ.mono (h:SZ size R z v l) (hz:zle z z'):SZ size R z' v l:=by
 cases h with
 | nil=>exact .nil
 | em=>exact .em
 | sl b o n k full l hl hm hz' hk hf h=>exact .sl b o n k full l hl hm (hz _ _ hz') hk hf fun i a hi=>RMono.mono hz (h i a hi)
theorem SZ.len {α:Type} {size:Nat} {R:RT α} {z:dE} {v:AV} {l:List α} (h:SZ size R z v l):lenOf v=some l.length:=by cases h with
 | nil=>rfl
 | em=>rfl
 | sl b o n k full l hl hm hz' hk hf h=>rw [hl];rfl
theorem SZ.le {α:Type} {size:Nat} {R:RT α} {z:dE} {v:AV} {l:List α} (h:SZ size R z v l):l.length≤9223372036854775807:=by cases h with
 | nil=>simp
 | em=>simp
 | sl b o n k full l hl hm hz' hk hf h=>omega
theorem SZ.one {α:Type} {size:Nat} {R:RT α} {z:dE} {v:AV} {l:List α} (h:SZ size R z v l):∃ c,v=.c c∧qV c c=true:=by cases h with
 | nil=>exact ⟨_,rfl,by simp [qV]⟩
 | em=>exact ⟨_,rfl,by simp [qV]⟩
 | sl b o n k full l hl hm hz' hk hf h=>exact ⟨_,rfl,by simp [qV]⟩
end
theorem aU3 (k:IntKind) (n:Int):aXa (.int k n) (.int k n)=true:=by simp [aXa]
theorem bRb (s:ByteArray):aXa (.string s) (.string s)=true:=by
 simp [aXa]
theorem F4:qV (.v (.slice none 0 0)) (.v (.slice none 0 0))=true:=by simp [qV]
def CZ {α:Type} (size:Nat) (R:RT α) (z:dE) (c:C) (l:List α):Prop:=SZ size R z (.c c) l
theorem CZ.mono {α:Type} {size:Nat} {R:RT α} [RMono R] {z z':dE} {c:C} {l:List α} (h:CZ size R z c l) (hz:zle z z'):CZ size R z' c l:=SZ.mono h hz
theorem CZ.le {α:Type} {size:Nat} {R:RT α} {z:dE} {c:C} {l:List α} (h:CZ size R z c l):l.length≤9223372036854775807:=SZ.le h
def RS:RT ByteArray:=fun _ cs s=>cs=[.v (.string s)]
instance:RMono RS:=⟨fun _ h=>h⟩
theorem aZc {st:AS} {b:Nat} {k:pA} {full:List C} (h:st.mem.get b=some k) (hk:k.cs=some full):st.blk b=some full:=by
 unfold AS.blk
 rw [h]
 cases k with
 | cells ty cs=>exact hk
 | ro cs=>exact hk
 | sit _ _=>cases hk
 | mp _ _=>cases hk
theorem bJo {st:AS} {z:dE} (hz:∀ b k,z b k→st.mem.get b=some k) {b p:Nat} {cs:List C} (h:At z b p cs) {off size:Nat} (hl:off+size≤cs.length):st.read b (p+off) size=some ((cs.drop off).take size):=by
 obtain ⟨k,full,h1,h2,h3,h4⟩:=h
 unfold AS.read
 rw [aZc (hz _ _ h1) h2]
 simp only
 rw [jX (by omega)]
 congr 1
 rw [← h4,List.drop_take,List.take_take,List.drop_drop]
 congr 1
 omega
section
variable {call:jO} {B:sY} {fs:Sf} {l:List I} {Q:Sf→Prop} {d:Nat}
theorem dH {α:Type} {size:Nat} {R:RT α} {zz:dE} {x i:Od} {v:AV} {r:List α} {kd:IntKind} {n:Int} (hx:fs.ev x=v) (hi:fs.ev i=.c (.v (.int kd n))) (hr:SZ size R zz v r) (j:Nat) (hj:n=(j:Int)) (a:α) (h:r[j]? = some a)
  (hw:∀ b p cs,At zz b p cs→R zz cs a→FL call B l (fs.put d (.c (.ptr b p))) Q):FL call B (⟨some d,none,.iad size x i⟩::l) fs Q:=by
 have hlt:=(List.getElem?_eq_some_iff.1 h).1
 cases hr with
 | nil=>simp at hlt
 | em=>simp at hlt
 | sl b o n k full l hl hm hz' hk hf hh =>
   have hle:o+j * size+size≤full.length:=by
    have:(j+1) * size≤n * size:=Nat.mul_le_mul_right _ (by omega)
    rw [Nat.add_mul,Nat.one_mul] at this
    omega
   have hcl:((full.drop (o+j * size)).take size).length=size:=by simp;omega
   exact uM hx hi j hj (by omega) (hw b (o+j * size) _ ⟨k,full,hz',hk,by rw [hcl];exact hle,by rw [hcl]⟩ (hh j a h))
theorem oP {agg:Bool} {size:Nat} {x:Od} {b q p off:Nat} {cs:List C} {v:AV} (hx:fs.ev x=.c (.ptr b q)) (ha:At fs.z b p cs) (hq:q=p+off) (hl:off+size≤cs.length) (hv:Xs agg ((cs.drop off).take size)=v) (hw:FL call B l (fs.put d v) Q):FL call B (⟨some d,none,.load agg size x⟩::l) fs Q:=
  aIw (fun _ => rfl) (fun st r => by
    subst hq
    simp only [cP,r.ev,hx]
    rw [bJo (fun b k hb=>(r.hold.z b k hb).1) ha hl]
    simp only [hv]) hw
theorem bAg {x:Od} {s:ByteArray} (hx:fs.ev x=.c (.v (.string s))) (hw:FL call B l (fs.put d (.c (.v (.int .i64 s.size)))) Q):FL call B (⟨some d,none,.len true x⟩::l) fs Q:=
 aIw (fun _=>rfl) (fun st r=>by simp only [cP,r.ev,hx];rfl) hw
theorem aS {α:Type} {size:Nat} {R:RT α} {zz:dE} {x:Od} {v:AV} {r:List α} (hx:fs.ev x=v) (hr:SZ size R zz v r) (hw:FL call B l (fs.put d (.c (.v (.int .i64 r.length)))) Q):FL call B (⟨some d,none,.len false x⟩::l) fs Q:=aFy hx hr.len hw
theorem bPv {l2:List I} {J:Sf→Prop} (h:FL call B l fs J) (g:∀ fs',J fs'→FL call B l2 fs' Q):FL call B (l++l2) fs Q:=fun st r=>by
 have key:∀ (l:List I) (st:AS) (P:AS→Prop),Wp (Pz call l st) P→(∀ st',P st'→Wp (Pz call l2 st') fun st'=>∃ fs',Rf B fs' st'∧Q fs')→Wp (Pz call (l++l2) st) fun st'=>∃ fs',Rf B fs' st'∧Q fs':=by
  intro l
  induction l with
  | nil=>intro st P h1 h2;exact h2 st h1
  | cons i l ih =>
   intro st P h1 h2
   simp only [List.cons_append,Pz] at h1 ⊢
   cases he:evI call i st with
   | none=>rw [he] at h1;exact h1.elim
   | some st1=>rw [he] at h1;exact ih st1 P h1 h2
 exact key l st _ (h st r) fun st' ⟨fs',r',q⟩=>g fs' q st' r'
end
def CL {α:Type} (size:Nat) (R:RT α) (z:dE) (cs:List C) (l:List α):Prop:=cs.length=l.length * size∧∀ (i:Nat) (a:α),l[i]? = some a→((cs.drop (i * size)).take size).length=size∧R z ((cs.drop (i * size)).take size) a
section
variable {α:Type} {size:Nat} {R:RT α} {z z':dE} {cs c:List C} {l:List α} {a:α}
theorem CL.nil:CL size R z [] ([]:List α):=⟨by simp,fun i a h=>by simp at h⟩
theorem CL.mono [RMono R] (h:CL size R z cs l) (hz:zle z z'):CL size R z' cs l:=⟨h.1,fun i a hi=>⟨(h.2 i a hi).1,RMono.mono hz (h.2 i a hi).2⟩⟩
theorem CL.append {cs':List C} {l':List α} (h:CL size R z cs l) (g:CL size R z cs' l'):CL size R z (cs++cs') (l++l'):=by
 refine ⟨by rw [List.length_append,List.length_append,h.1,g.1,Nat.add_mul],fun i a hi=>?_⟩
 rw [List.getElem?_append] at hi
 split at hi
 ·rename_i hlt
  have h1:=h.2 i a hi
  have h2:i * size+size≤cs.length:=by
   rw [h.1]
   have:(i+1) * size≤l.length * size:=Nat.mul_le_mul_right _ hlt
   rw [Nat.add_mul,Nat.one_mul] at this
   exact this
  have e:((cs++cs').drop (i * size)).take size=(cs.drop (i * size)).take size:=by
   rw [List.drop_append_of_le_length (by omega),List.take_append_of_le_length (by rw [List.length_drop];omega)]
  rw [e]
  exact h1
 rename_i hlt
 have h1:=g.2 _ a hi
 have e:(cs++cs').drop (i * size)=cs'.drop ((i - l.length) * size):=by
  rw [List.drop_append,h.1]
  have h3:l.length * size≤i * size:=Nat.mul_le_mul_right _ (by omega)
  rw [List.drop_eq_nil_of_le (by rw [h.1];exact h3),List.nil_append,Nat.sub_mul]
 rw [e]
 exact h1
theorem CL.one (hc:c.length=size) (h:R z c a):CL size R z c [a]:=by
 refine ⟨by simp [hc],fun i a' hi=>?_⟩
 cases i with
 | zero =>
  simp at hi
  subst hi
  have e:(c.drop (0 * size)).take size=c:=by simp [← hc]
  rw [e]
  exact ⟨hc,h⟩
 | succ i=>simp at hi
theorem CL.sz {b ty n:Nat} (h:CL size R z cs l) (hn:l.length=n) (hm:n≤9223372036854775807) (hz:z b (.cells ty cs)):SZ size R z (.c (.sl b 0 n size)) l:=by
 refine .sl b 0 n (.cells ty cs) cs l hn hm hz rfl (by rw [h.1,hn];omega) fun i a hi=>?_
 rw [Nat.zero_add]
 exact (h.2 i a hi).2
theorem SZ.src {v:AV} {zz:dE} {st:AS} (hz:∀ b k,zz b k→st.mem.get b=some k) (h:SZ size R zz v l):∃ news,st.row size v=some (l.length,news)∧CL size R zz news l:=by
 cases h with
 | nil=>exact ⟨[],rfl,CL.nil⟩
 | em=>exact ⟨[],rfl,CL.nil⟩
 | sl b o n k full l hl hm hz' hk hf hh =>
  refine ⟨(full.drop o).take (n * size),?_,?_,fun i a hi=>?_⟩
  ·simp only [AS.row,AS.read,aZc (hz _ _ hz') hk]
   rw [jX hf]
   simp only
   rw [jX trivial,hl]
  ·rw [List.length_take,List.length_drop,hl];omega
  have hlt:=(List.getElem?_eq_some_iff.1 hi).1
  have hle:i * size+size≤n * size:=by
   have:(i+1) * size≤n * size:=Nat.mul_le_mul_right _ (by omega)
   rw [Nat.add_mul,Nat.one_mul] at this
   exact this
  have e:((((full.drop o).take (n * size)).drop (i * size)).take size)=(full.drop (o+i * size)).take size:=by
   rw [List.drop_take,List.take_take,List.drop_drop]
   congr 1
   omega
  rw [e]
  refine ⟨?_,hh i a hi⟩
  rw [List.length_take,List.length_drop]
  omega
end
section
variable {call:jO} {B:sY} {fs:Sf} {l:List I} {Q:Sf→Prop} {d:Nat}
theorem aLd {α:Type} {R:RT α} {ty size bytes n:Nat} {zero:List Value} {x y:Od} {u v:AV} {cs:List C} {r:List α} {H':AV→List C→List HA} (hx:fs.ev x=u) (hy:fs.ev y=v) (hs:SZ size R fs.z v r) (hr:∀ u' news,Hy fs.H (.row u ty size n cs) (.row u' ty size (n+r.length) (cs++news)) (H' u' news))
  (hb:(n+r.length) * bytes≤140737488355328) (hn:n+r.length≤9223372036854775807) (hw:∀ (c':C) (_:qV c' c'=true) news,CL size R fs.z news r→FL call B l (fs.res d (.c c') fs.z (H' (.c c') news)) Q):FL call B (⟨some d,none,.app ty size bytes zero x y⟩::l) fs Q:=fun st rf=>by
 obtain ⟨news,h1,h2⟩:=hs.src (st:=st) fun b k hb=>(rf.hold.z b k hb).1
 exact aY1 rf hx hy h1 (fun u'=>hr u' news) h2.1 hb hn (fun c' hc=>hw c' hc news h2)
theorem uQ {ty ty' size bytes n b:Nat} {zero:List Value} {x y:Od} {u:AV} {cs news:List C} {m:Nat} {H':AV→List HA} (hx:fs.ev x=u) (hy:fs.ev y=.c (.sl b 0 m size)) (hm:HA.blk b (.cells ty' news)∈fs.H) (hl:news.length=m * size) (hr:∀ u',Hy fs.H (.row u ty size n cs) (.row u' ty size (n+m) (cs++news)) (H' u'))
  (hb:(n+m) * bytes≤140737488355328) (hn:n+m≤9223372036854775807) (hw:∀ c':C,qV c' c'=true→FL call B l (fs.res d (.c c') fs.z (H' (.c c'))) Q):FL call B (⟨some d,none,.app ty size bytes zero x y⟩::l) fs Q:=
 bNi hx hy (bJI hm (by omega) (by rw [← hl];simp)) hr hl hb hn hw
theorem N7 {α:Type} {size:Nat} {R:RT α} [RMono R] {k:Nat} {c:XC} {Q:Exit→Sf→Prop} {u:AV} {ty n:Nat} {cs:List C} {r:List α} {p q:List HA} (e:fs.H=p++.row u ty size n cs::q) (hc:CL size R fs.z cs r) (hn:r.length=n) (hm:n≤9223372036854775807)
    (hw:∀ z',zle fs.z z'→SZ size R z' u r→FX call k B c (fs.frz z' (p++q)) Q):FX call k B c fs Q:=fun st rf=>by
  obtain ⟨g1,g2⟩:=rf.hold.h (.row u ty size n cs) (by rw [e];simp)
  rcases g2 with ⟨h0,rfl⟩ | ⟨b,rfl,h3⟩
  · have hr0 : r = [] := List.eq_nil_of_length_eq_zero (by omega)
    subst hr0
    refine hw fs.z (zle.refl _) .nil st ?_
    have hsub:(p++q).Sublist fs.H:=by rw [e];exact (List.Sublist.refl p).append (List.sublist_cons_self _ _)
    exact ⟨rf.env,rf.hold.sub hsub,rf.le,rf.old,fun b hb=>rf.own b ((N8 hsub).subset hb),rf.zle,rf.zin⟩
  · have h1 := rf.frz (p := p) (q := q) (b := b) (k := .cells ty cs) (a := .row (.c (.sl b 0 n size)) ty size n cs) e rfl (fun m hm => by
      obtain ⟨_,hm⟩:=hm
      rcases hm with ⟨_,hm⟩ | ⟨b',hb',hm⟩
      · cases hm
      · injection hb' with hb';injection hb' with hb';subst hb';exact hm)
    exact hw _ ⟨fun _ _ h=>.inl h⟩ ((hc.mono ⟨fun _ _ h=>.inl h⟩).sz hn hm (.inr ⟨rfl,rfl⟩)) st h1
theorem vF {k:Nat} {c:XC} {Q:Exit→Sf→Prop} {H':List HA} (hs:H'.Sublist fs.H) (hw:FX call k B c (fs.heap H') Q):FX call k B c fs Q:=fun st rf =>
 hw st ⟨rf.env,rf.hold.sub hs,rf.le,rf.old,fun b hb=>rf.own b ((N8 hs).subset hb),rf.zle,rf.zin⟩
theorem mG {size:Nat} {x y:Od} {b o ty:Nat} {cs ds cs':List C} {v:AV} {H':List HA} (hx:fs.ev x=.c (.ptr b o)) (hy:fs.ev y=v) (hv:v.cells? = some ds) (hr:Hy fs.H (.blk b (.cells ty cs)) (.blk b (.cells ty cs')) H') (he:oH cs o ds=cs') (hs:ds.length=size) (h:o+size≤cs.length)
  (hw:FL call B l (fs.heap H') Q):FL call B (⟨none,none,.store size x y⟩::l) fs Q:=by
 subst he
 exact aVa hx hy hv hr hs h hw
theorem Rf.row0 {st:AS} (h:Rf B fs st) (ty size:Nat):Rf B (fs.heap (.row C4 ty size 0 []::fs.H)) st:=by
 have e:yI (HA.row C4 ty size 0 []::fs.H)=yI fs.H:=by rw [kY];rfl
 refine ⟨h.env,⟨fun b k hb=>?_,fun a ha=>?_,fun b hb=>?_,?_⟩,h.le,h.old,fun b hb=>?_,h.zle,h.zin⟩
 ·show _∧_∧b ∉ yI (HA.row C4 ty size 0 []::fs.H)
  rw [e];exact h.hold.z b k hb
 ·rcases List.mem_cons.1 ha with rfl | ha
  ·exact ⟨by simp,.inl ⟨rfl,rfl⟩⟩
  exact h.hold.h a ha
 ·have hb:b∈yI (HA.row C4 ty size 0 []::fs.H):=hb
  rw [e] at hb;exact h.hold.lt b hb
 ·show (yI (HA.row C4 ty size 0 []::fs.H)).Nodup
  rw [e];exact h.hold.nd
 have hb:b∈yI (HA.row C4 ty size 0 []::fs.H):=hb
 rw [e] at hb;exact h.own b hb
theorem wM (ty size:Nat) (hw:FL call B l (fs.heap (.row C4 ty size 0 []::fs.H)) Q):FL call B l fs Q:=fun st r=>hw st (r.row0 ty size)
theorem bJJ {k:Nat} {c:XC} {Q:Exit→Sf→Prop} (ty size:Nat) (hw:FX call k B c (fs.heap (.row C4 ty size 0 []::fs.H)) Q):FX call k B c fs Q:=fun st r=>hw st (r.row0 ty size)
theorem Rf.asrow {st:AS} (h:Rf B fs st) {b ty n size:Nat} {cs:List C} {p q:List HA} (e:fs.H=p++.blk b (.cells ty cs)::q) (hl:cs.length=n * size):Rf B (fs.heap (p++.row (.c (.sl b 0 n size)) ty size n cs::q)) st:=by
 have e2:yI (p++.row (.c (.sl b 0 n size)) ty size n cs::q)=yI fs.H:=by rw [e,nF,nF,kY,kY];rfl
 have hb0:=h.hold.h (.blk b (.cells ty cs)) (by rw [e];simp)
 refine ⟨h.env,⟨fun b k hb=>?_,fun a ha=>?_,fun b hb=>?_,?_⟩,h.le,h.old,fun b hb=>?_,h.zle,h.zin⟩
 ·show _∧_∧b ∉ yI (p++.row _ ty size n cs::q)
  rw [e2];exact h.hold.z b k hb
 ·have ha:a∈p++.row (.c (.sl b 0 n size)) ty size n cs::q:=ha
  rcases List.mem_append.1 ha with ha | ha
  ·exact h.hold.h a (by rw [e];simp [ha])
  rcases List.mem_cons.1 ha with rfl | ha
  ·exact ⟨hl,.inr ⟨b,rfl,hb0⟩⟩
  exact h.hold.h a (by rw [e];simp [ha])
 ·have hb:b∈yI (p++.row (.c (.sl _ 0 n size)) ty size n cs::q):=hb
  rw [e2] at hb;exact h.hold.lt b hb
 ·show (yI (p++.row _ ty size n cs::q)).Nodup
  rw [e2];exact h.hold.nd
 have hb:b∈yI (p++.row (.c (.sl _ 0 n size)) ty size n cs::q):=hb
 rw [e2] at hb;exact h.own b hb
theorem aBB {b ty n size:Nat} {cs:List C} {p q:List HA} (e:fs.H=p++.blk b (.cells ty cs)::q) (hl:cs.length=n * size) (hw:FL call B l (fs.heap (p++.row (.c (.sl b 0 n size)) ty size n cs::q)) Q):FL call B l fs Q:=fun st r=>hw st (r.asrow e hl)
end
open Go.RowKit
open Go.Eng (Od need jX jF oH binV binBV)
structure DS where
 fs:Sf
 T:dE
 tag:Nat
 last:Nat
 pj:List Nat
 lj:List Nat
def Acc.hd (a:Acc):Tr pA:=match a.mems with
 | (_,m)::_=>m
 | []=>.nil
def Acc.seq (a:Acc):AS:=⟨a.env,ovl a.hd a.pend,a.nx⟩
structure DRf (B:sY) (D:DS) (a:Acc):Prop where
 rf:Rf B D.fs a.seq
 hd:∃ m ml,a.mems=(D.tag,m)::ml
 t0:∀ p,p∈a.mems→∀ b k,D.T b k→p.2.get b=some k
 tlt:∀ b k,D.T b k→b<a.nx
 np:∀ p,p∈a.pend→∀ k,¬ D.T p.2.1 k
 fl:∀ p,p∈a.fl→p.1∈D.lj∧∀ m:Tr pA,(∀ b k,D.T b k→m.get b=some k)→cP p.2.1 ⟨p.2.2.1,m,0⟩=some p.2.2.2∧L2 p.2.2.2 p.2.2.2=true
 last:a.last=D.last
 pj:a.pend.map (·.1)=D.pj
 plt:∀ p,p∈a.pend→p.2.1<a.nx
def FD (call:jO) (B:sY) (an:List Nat) (j:Nat) (l:List D) (D:DS) (Q:Sf→Prop):Prop:=∀ a,DRf B D a→Wd (aSU call an j l a) fun a'=>∃ fs',Rf B fs' a'.fin∧Q fs'
def tz (z:dE) (H:List HA):dE:=fun b k=>z b k∨HA.blk b k∈H
def GK (fs:Sf) (i:I):Prop:=match i.g with
 | none=>True
 | some (s,want)=>fs.e s=.c (.v (.bool want))
section
variable {call:jO} {B:sY} {an:List Nat} {j:Nat} {l:List D} {D:DS} {Q:Sf→Prop} {a:Acc}
theorem DRf.seqget (h:DRf B D a) {m:Tr pA} {ml:List (Nat×Tr pA)} (hm:a.mems=(D.tag,m)::ml):a.hd=m:=by simp only [Acc.hd,hm]
theorem bJX (h:DRf B D a):a.fin=a.seq:=by
 obtain ⟨m,ml,hm⟩:=h.hd
 simp only [Acc.fin,Acc.seq,Acc.hd,hm]
theorem bQN (h:Q D.fs):FD call B an j [] D Q:=fun a r=>bNF ⟨D.fs,by rw [bJX r];exact r.rf,h⟩
theorem aZs {k:Nat} {fs:Sf} {ds:List CE.D} {Q:Exit→Sf→Prop} (h:FD call B an 0 ds ⟨fs,tz fs.z fs.H,0,0,[],[]⟩ (Q .normal)):FX call k B (.draw ds an) fs Q:=fun st r=>by
  refine bLF ?_
  refine h _ ⟨r,⟨_,_,rfl⟩,fun p hp b kk hb=>?_,fun b kk hb=>?_,fun p hp=>by simp at hp,fun p hp=>by simp at hp,rfl,rfl,fun p hp=>by simp at hp⟩
  · have : p = (0, st.mem) := by simpa using hp
    subst this
    rcases hb with hb | hb
    · exact (r.hold.z b kk hb).1
    · exact r.hold.h _ hb
  · rcases hb with hb | hb
    · exact (r.hold.z b kk hb).2.1
    · exact r.hold.lt b (aLB.2 ⟨_,hb,by simp [HA.fp]⟩)
theorem bGS {k:Nat} {fs:Sf} {ds:List CE.D} {c:XC} {Q:Exit→Sf→Prop} (h:FD call B an 0 ds ⟨fs,tz fs.z fs.H,0,0,[],[]⟩ (fun fs'=>FX call k B c fs' Q)):FX call k B (.seq (.draw ds an) c) fs Q:=aT (aZs h)
theorem aOd {d:CE.D} {q:Nat} (h:q∈d.sl):(a.see d).get q=a.seq.get q:=by
 simp only [AS.get,Acc.see,Acc.seq]
 rw [aW2 h]
theorem aNq (r:Rf B D.fs a.seq) {d:CE.D} (hg:GK D.fs d.i):gOk d.i (a.see d)=some true:=by
 unfold GK at hg
 unfold gOk
 split at hg
 ·rename_i h;rw [h]
 rename_i s want h
 rw [h]
 simp only
 rw [aOd (by simp only [CE.D.sl,h];exact List.mem_cons_self ..),r.env,hg]
 simp [gd]
theorem bM7 (r:Rf B D.fs a.seq) {d:CE.D} {s:Nat} {want:Bool} (h:d.i.g=some (s,want)) (hg:D.fs.e s=.c (.v (.bool (!want)))∨D.fs.e s=.tup []):gOk d.i (a.see d)=some false:=by
 unfold gOk
 rw [h]
 simp only
 rw [aOd (by simp only [CE.D.sl,h];exact List.mem_cons_self ..),r.env]
 rcases hg with hg | hg<;>rw [hg]<;>simp [gd]
theorem Qo {d:CE.D} {q:Nat} (h:q∈d.i.o.sl):q∈d.sl:=by
 unfold CE.D.sl
 split
 ·exact List.mem_cons_of_mem _ h
 exact h
def aTF:jM→Bool
 | .mv _ | .pick _ _ _ | .bin _ _ _ | .binB _ _ _ | .un _ _ | .cvi _ _ | .fad _ _ | .fld _ _ _ _ | .iad _ _ _ | .ext _ _ | .len _ _ | .build _ _ | .mkf _ _ _ | .nilck _=>true
 | _=>false
theorem aAI {env:Tr AV} {ls:List Nat} {m m':Tr pA} {n n':Nat} {x:Od} (h:∀ q,q∈Od.sl x→q∈ls):(⟨nE env ls,m,n⟩:AS).ev x=(⟨env,m',n'⟩:AS).ev x:=by
 cases x with
 | t i=>simp only [AS.ev,AS.get];rw [aW2 (h i (by simp [Od.sl]))]
 | _=>rfl
theorem bJ5 {o:jM} (hp:aTF o=true) {env:Tr AV} {ls:List Nat} {m m':Tr pA} {n n':Nat} (h:∀ q,q∈o.sl→q∈ls):cP o ⟨nE env ls,m,n⟩=cP o ⟨env,m',n'⟩:=by
 have hev:∀ x,(∀ q,q∈Od.sl x→q∈o.sl)→(⟨nE env ls,m,n⟩:AS).ev x=(⟨env,m',n'⟩:AS).ev x:=fun x hx=>aAI fun q hq=>h q (hx q hq)
 cases o<;>simp only [aTF,Bool.false_eq_true] at hp
 case mv x=>simp only [cP,hev x (fun q hq=>hq)]
 case pick c x y=>simp only [cP,hev c (fun q hq=>by simp [jM.sl,hq]),hev x (fun q hq=>by simp [jM.sl,hq]),hev y (fun q hq=>by simp [jM.sl,hq])]
 case bin op x y=>simp only [cP,hev x (fun q hq=>by simp [jM.sl,hq]),hev y (fun q hq=>by simp [jM.sl,hq])]
 case binB op x y=>simp only [cP,hev x (fun q hq=>by simp [jM.sl,hq]),hev y (fun q hq=>by simp [jM.sl,hq])]
 case un op x=>simp only [cP,hev x (fun q hq=>hq)]
 case nilck x=>simp only [cP,hev x (fun q hq=>hq)]
 case cvi k x=>simp only [cP,hev x (fun q hq=>hq)]
 case fad off x=>simp only [cP,hev x (fun q hq=>hq)]
 case fld g s off x=>simp only [cP,hev x (fun q hq=>hq)]
 case iad s x y=>simp only [cP,hev x (fun q hq=>by simp [jM.sl,hq]),hev y (fun q hq=>by simp [jM.sl,hq])]
 case ext x i=>simp only [cP,hev x (fun q hq=>hq)]
 case len s x=>cases s<;>simp only [cP,hev x (fun q hq=>hq)]
 case build zero parts =>
  have key:∀ (l:List (Nat×Nat×Od)) (cs:List C),(∀ p∈l,∀ q∈Od.sl p.2.2,q∈ls)→aB8 (⟨nE env ls,m,n⟩:AS) cs l=aB8 (⟨env,m',n'⟩:AS) cs l:=by
   intro l
   induction l with
   | nil=>intro cs _;rfl
   | cons p l ih =>
    intro cs hl
    obtain ⟨i,k,x⟩:=p
    simp only [aB8]
    rw [aAI (m':=m') (n':=n') (fun q hq=>hl _ (List.mem_cons_self ..) q hq)]
    cases ((⟨env,m',n'⟩:AS).ev x).cells? with
    | none=>rfl
    | some ds=>simp only [ih _ fun p hp=>hl p (List.mem_cons_of_mem _ hp)]
  simp only [cP]
  rw [key parts _ fun p hp q hq=>h q ?_]
  simp only [jM.sl,Od.sls,List.mem_flatMap,List.mem_map]
  exact ⟨p.2.2,⟨p,hp,rfl⟩,hq⟩
 case mkf f xs ys =>
  have key:∀ (l:List Od),(∀ x∈l,∀ q∈Od.sl x,q∈ls)→Kr (⟨nE env ls,m,n⟩:AS) l=Kr (⟨env,m',n'⟩:AS) l:=by
   intro l
   induction l with
   | nil=>intro _;rfl
   | cons x l ih =>
    intro hl
    simp only [Kr]
    rw [aAI (m':=m') (n':=n') (fun q hq=>hl _ (List.mem_cons_self ..) q hq),ih fun p hp=>hl p (List.mem_cons_of_mem _ hp)]
  simp only [cP]
  rw [key xs fun x hx q hq=>h q (by simp only [jM.sl,Od.sls,List.mem_append,List.mem_flatMap];exact .inl ⟨x,hx,hq⟩),key ys fun x hx q hq=>h q (by simp only [jM.sl,Od.sls,List.mem_append,List.mem_flatMap];exact .inr ⟨x,hx,hq⟩)]
theorem aWZ {o:jM} (hp:aTF o=true) (st:AS):eE o st=none∧callee st o=none:=by
 cases o<;>simp only [aTF,Bool.false_eq_true] at hp<;>exact ⟨rfl,rfl⟩
theorem bJT {i:I} {d:Nat} {af:List Nat} (hd:i.d=some d) (hp:aTF i.o=true) (hg:GK D.fs i) (h:FL call B [⟨some d,none,i.o⟩] D.fs fun fs'=>FD call B an (j+1) l ⟨fs',D.T,D.tag,D.last,D.pj,D.lj⟩ Q):FD call B an j (⟨i,af⟩::l) D Q:=fun a r=>by
 have h1:=h a.seq r.rf
 simp only [Pz,evI,gOk,evV,(aWZ hp a.seq).2] at h1
 cases hq:cP i.o a.seq with
 | none =>
  rw [hq,(aWZ hp a.seq).1] at h1
  exact h1.elim
 | some v =>
  rw [hq] at h1
  have hq':cP i.o (a.see ⟨i,af⟩)=some v:=by
   rw [← hq]
   exact bJ5 hp fun q hq=>Qo (d:=⟨i,af⟩) hq
  have hgo:=aNq (d:=⟨i,af⟩) r.rf hg
  refine aHh (a':=⟨aCi a.env i.d v,a.nx,a.mems,a.pend,a.fl,a.last⟩) ?_ ?_
  ·simp only [Acc.see] at hgo hq'
   simp only [Y0]
   rw [show gOk i ⟨nE a.env (CE.D.sl ⟨i,af⟩),.nil,a.nx⟩=some true from hgo]
   simp only [hq']
  obtain ⟨fs',r',hn⟩:=h1
  rw [hd]
  exact hn _ ⟨r',r.hd,r.t0,r.tlt,r.np,r.fl,r.last,r.pj,r.plt⟩
theorem bQw {i:I} {d s:Nat} {want:Bool} {af:List Nat} (hd:i.d=some d) (hg:i.g=some (s,want)) (hs:D.fs.e s=.c (.v (.bool (!want)))∨D.fs.e s=.tup []) (hw:FD call B an (j+1) l ⟨D.fs.put d (.tup []),D.T,D.tag,D.last,D.pj,D.lj⟩ Q):FD call B an j (⟨i,af⟩::l) D Q:=fun a r=>by
 have hgo:=bM7 (d:=⟨i,af⟩) r.rf hg hs
 refine aHh (a':=⟨aCi a.env i.d (.tup []),a.nx,a.mems,a.pend,a.fl,a.last⟩) ?_ ?_
 ·simp only [Y0]
  rw [show gOk i ⟨nE a.env (CE.D.sl ⟨i,af⟩),.nil,a.nx⟩=some false from hgo]
 rw [hd]
 exact hw _ ⟨r.rf.put d _,r.hd,r.t0,r.tlt,r.np,r.fl,r.last,r.pj,r.plt⟩
theorem bLH {o:jM} {re:Tr AV} {bits:Nat} {v:AV} (hs:L2 v v=true):∀ {ml:List (Nat×Tr pA)},(∀ p,p∈ml→cP o ⟨re,p.2,0⟩=some v)→aSB o re bits v ml=true:=by
 intro ml
 induction ml with
 | nil=>intro _;rfl
 | cons p ml ih =>
  intro h
  obtain ⟨x,m⟩:=p
  simp only [aSB,h (x,m) (List.mem_cons_self ..),hs,Bool.true_and]
  cases x with
  | zero=>rfl
  | succ y=>simp only [ih fun p hp=>h p (List.mem_cons_of_mem _ hp),Bool.or_true]
theorem aZ6 {i:I} {d:Nat} {agg:Bool} {size:Nat} {x:Od} {b o:Nat} {k:pA} {full:List C} {v:AV} {af:List Nat} (hi:i.o=.load agg size x) (hd:i.d=some d) (hg:GK D.fs i) (hx:D.fs.ev x=.c (.ptr b o)) (hT:D.T b k) (hk:k.cs=some full) (hl:o+size≤full.length) (hv:Xs agg ((full.drop o).take size)=v)
  (hs:L2 v v=true) (hw:FD call B an (j+1) l ⟨D.fs.put d v,D.T,D.tag,D.last,D.pj,j::D.lj⟩ Q):FD call B an j (⟨i,af⟩::l) D Q:=fun a r=>by
 have hgo:=aNq (d:=⟨i,af⟩) r.rf hg
 have hev:∀ m n,(⟨nE a.env (CE.D.sl ⟨i,af⟩),m,n⟩:AS).ev x=.c (.ptr b o):=fun m n=>by
  rw [aAI (m':=a.seq.mem) (n':=a.seq.nx) fun q hq=>Qo (d:=⟨i,af⟩) (by rw [hi];exact hq)]
  exact (r.rf.ev x).trans hx
 have hst:∀ (m:Tr pA) (n:Nat),(∀ b k,D.T b k→m.get b=some k)→cP (.load agg size x) ⟨nE a.env (CE.D.sl ⟨i,af⟩),m,n⟩=some v:=fun m n hm=>by
  simp only [cP,hev,AS.read,aZc (st:=⟨nE a.env (CE.D.sl ⟨i,af⟩),m,n⟩) (hm _ _ hT) hk]
  rw [jX hl]
  simp only [hv]
 have h0:cP (.load agg size x) ⟨nE a.env (CE.D.sl ⟨i,af⟩),.nil,a.nx⟩=none:=by
  simp only [cP,hev,AS.read,AS.blk,Tr.get_nil]
 obtain ⟨m,ml,hm⟩:=r.hd
 have hm0:∀ b k,D.T b k→m.get b=some k:=r.t0 (D.tag,m) (by rw [hm];exact List.mem_cons_self ..)
 have hrd:aSB (.load agg size x) (nE a.env (CE.D.sl ⟨i,af⟩)) (an.getD j 0) v ((D.tag,m)::ml)=true:=bLH hs fun p hp=>hst p.2 0 (r.t0 p (by rw [hm];exact hp))
 refine aHh (a':=⟨aCi a.env i.d v,a.nx,a.mems,a.pend,(j,i.o,nE a.env (CE.D.sl ⟨i,af⟩),v)::a.fl,a.last⟩) ?_ ?_
 ·simp only [Y0]
  rw [show gOk i ⟨nE a.env (CE.D.sl ⟨i,af⟩),.nil,a.nx⟩=some true from hgo]
  simp only [hi,h0,aA5,hm,hst m 0 hm0,hrd]
 rw [hd]
 refine hw _ ⟨r.rf.put d _,⟨m,ml,hm⟩,r.t0,r.tlt,r.np,fun p hp=>?_,r.last,r.pj,r.plt⟩
 rcases List.mem_cons.1 hp with rfl | hp
 ·exact ⟨List.mem_cons_self ..,fun m' hm'=>⟨by rw [hi];exact hst m' 0 hm',hs⟩⟩
 exact ⟨List.mem_cons_of_mem _ (r.fl p hp).1,(r.fl p hp).2⟩
theorem bQG {i:I} {d:Nat} {agg:Bool} {size:Nat} {x:Od} {b q p off:Nat} {cs:List C} {v:AV} {af:List Nat} {z:dE} (hi:i.o=.load agg size x) (hd:i.d=some d) (hg:GK D.fs i) (hx:D.fs.ev x=.c (.ptr b q)) (ha:At z b p cs) (hz:∀ b k,z b k→D.T b k) (hq:q=p+off) (hl:off+size≤cs.length) (hv:Xs agg ((cs.drop off).take size)=v)
  (hs:L2 v v=true) (hw:FD call B an (j+1) l ⟨D.fs.put d v,D.T,D.tag,D.last,D.pj,j::D.lj⟩ Q):FD call B an j (⟨i,af⟩::l) D Q:=by
 obtain ⟨k,full,h1,h2,h3,h4⟩:=ha
 subst hq
 refine aZ6 hi hd hg hx (hz _ _ h1) h2 (by omega) ?_ hs hw
 rw [← hv,← h4,List.drop_take,List.take_take,List.drop_drop]
 congr 2
 omega
theorem aBH {bits:Nat} {m:Tr pA}:∀ {l:List (Nat×jM×Tr AV×AV)},(∀ p,p∈l→cP p.2.1 ⟨p.2.2.1,m,0⟩=some p.2.2.2∧L2 p.2.2.2 p.2.2.2=true)→∃ l',aVv bits m l=some l'∧∀ p,p∈l'→p∈l:=by
 intro l
 induction l with
 | nil=>intro _;exact ⟨[],rfl,fun p hp=>hp⟩
 | cons p l ih =>
  intro h
  obtain ⟨q,o,re,v⟩:=p
  obtain ⟨l',h1,h2⟩:=ih fun p hp=>h p (List.mem_cons_of_mem _ hp)
  obtain ⟨h3,h4⟩:=h (q,o,re,v) (List.mem_cons_self ..)
  simp only [aVv,h1]
  cases bits.testBit q with
  | true=>exact ⟨l',rfl,fun p hp=>List.mem_cons_of_mem _ (h2 p hp)⟩
  | false =>
   simp only at h3 h4
   simp only [h3,h4]
   refine ⟨_,rfl,fun p hp=>?_⟩
   rcases List.mem_cons.1 hp with rfl | hp
   ·exact List.mem_cons_self ..
   exact List.mem_cons_of_mem _ (h2 p hp)
theorem bPh {bits:Nat} {ls:List Nat} (h:(ls.all fun q=>bits.testBit q)=true) {q:Nat} (hq:q∈ls):bits.testBit q=true:=by
 rw [List.all_eq_true] at h
 exact h q hq
theorem aEJ {bits:Nat} {l:List (Nat×Nat×pA)} (h:((l.map (·.1)).all fun q=>bits.testBit q)=true):(l.filter fun p=>bits.testBit p.1)=l∧(l.filter fun p=>!bits.testBit p.1)=[]:=by
 constructor
 ·refine List.filter_eq_self.2 fun p hp=>bPh h (List.mem_map.2 ⟨p,hp,rfl⟩)
 refine List.filter_eq_nil_iff.2 fun p hp=>?_
 rw [bPh h (List.mem_map.2 ⟨p,hp,rfl⟩)]
 simp
theorem aFs {m:Tr pA}:∀ {l:List (Nat×Nat×pA)} {b:Nat} {k:pA},(∀ p,p∈l→p.2.1≠b)→m.get b=some k→(ovl m l).get b=some k:=by
 intro l
 induction l with
 | nil=>intro b k _ h;exact h
 | cons p l ih =>
  intro b k hp h
  obtain ⟨A,id,k0⟩:=p
  simp only [ovl]
  rw [Tr.get_put _ _ _ _ _ (by omega),if_neg (hp _ (List.mem_cons_self ..))]
  exact ih (fun p hp'=>hp p (List.mem_cons_of_mem _ hp')) h
theorem bKh {i:I} {d f:Nat} {args:List Od} {vs:List AV} {af:List Nat} {Post:AV→dE→Prop} (hi:i.o=.call f args) (hd:i.d=some d) (hg:GK D.fs i) (hbits:Nat.beq (an.getD j 0 ||| D.last) (an.getD j 0)=true) (hpj:(D.pj.all fun q=>(an.getD j 0).testBit q)=true)
    (ha:args.map D.fs.ev=vs) (hc:FC call f vs D.fs.z Post) (hw:∀ v z',zle D.fs.z z'→Post v z'→FD call B an (j+1) l ⟨⟨aE6 D.fs.e d v,z',D.fs.H⟩,D.T,j+1,an.getD j 0 ||| (1 <<< j),[],D.lj⟩ Q):FD call B an j (⟨i,af⟩::l) D Q:=fun a r=>by
  have hgo:=aNq (d:=⟨i,af⟩) r.rf hg
  obtain ⟨m,ml,hm⟩:=r.hd
  have hhd:=r.seqget hm
  obtain ⟨v, mem', nx', z', H', h1, h2, h3, h4, h5, h6, h7, h8, h9⟩ := hc (ovl m a.pend) a.nx (by
    have:=r.rf.hold
    simp only [Acc.seq,hhd] at this
    exact aFt.left (Hs:=[]) (Hr:=D.fs.H) this)
  subst h8
  have hev:∀ m n,args.map (⟨nE a.env (CE.D.sl ⟨i,af⟩),m,n⟩:AS).ev=vs:=fun m n=>by
    rw [← ha]
    refine List.map_congr_left fun x hx=>?_
    rw [aAI (m':=a.seq.mem) (n':=a.seq.nx) fun q hq=>Qo (d:=⟨i,af⟩) (by rw [hi];simp only [jM.sl,Od.sls,List.mem_flatMap];exact ⟨x,hx,hq⟩)]
    exact r.rf.ev x
  have hp:=aEJ (bits:=an.getD j 0) (l:=a.pend) (by rw [r.pj];exact hpj)
  have hT:∀ b k,D.T b k→mem'.get b=some k:=fun b k hb=>by
    rw [h3 b (r.tlt b k hb) (by simp [yI])]
    exact aFs (fun p hp' e=>r.np p hp' k (e ▸ hb)) (r.t0 (D.tag,m) (by rw [hm];exact List.mem_cons_self ..) b k hb)
  obtain ⟨fl',hf1,hf2⟩:=aBH (bits:=an.getD j 0) (m:=mem') (l:=a.fl) fun p hp=>(r.fl p hp).2 mem' hT
  refine aHh (a':=⟨aCi a.env i.d v,nx',(j+1,mem')::a.mems,a.pend.filter (fun p=>!(an.getD j 0).testBit p.1),fl',(an.getD j 0) ||| (1 <<< j)⟩) ?_ ?_
  · simp only [Y0]
    rw [show gOk i ⟨nE a.env (CE.D.sl ⟨i,af⟩),.nil,a.nx⟩=some true from hgo]
    simp only [hi,cP,aA5,eE,hm,hp.1,evV,callee,hev,h1,r.last,hbits,hf1]
  · rw [hd,hp.2]
    refine hw v z' h5 h9 _ ⟨?_,⟨mem',a.mems,rfl⟩,fun p hp' b k hb=>?_,fun b k hb=>Nat.lt_of_lt_of_le (r.tlt b k hb) h2,fun p hp=>by simp at hp,fun p hp=>r.fl p (hf2 p hp),rfl,rfl,fun p hp=>by simp at hp⟩
    · have := r.rf.callR (Hs := []) (Hr := D.fs.H) rfl (mem' := mem') (nx' := nx') (z' := z') (H' := []) h2 (fun b hb hb2 => by
        rw [h3 b hb hb2];simp only [Acc.seq,hhd]) h4 h5 h6 h7
      exact this.put d v
    · rcases List.mem_cons.1 hp' with rfl | hp'
      · exact hT b k hb
      · exact r.t0 p hp' b k hb
theorem bIh {i:I} {d f:Nat} {args:List Od} {vs:List AV} {af:List Nat} {Post:AV→dE→List HA→Prop} (hi:i.o=.call f args) (hd:i.d=some d) (hg:GK D.fs i) (hbits:Nat.beq (an.getD j 0 ||| D.last) (an.getD j 0)=true) (hpj:(D.pj.all fun q=>(an.getD j 0).testBit q)=true)
    (ha:args.map D.fs.ev=vs) (hc:FCt call f vs D.fs.z [] Post) (hw:∀ v z' H',zle D.fs.z z'→Post v z' H'→FD call B an (j+1) l ⟨⟨aE6 D.fs.e d v,z',H'++D.fs.H⟩,D.T,j+1,an.getD j 0 ||| (1 <<< j),[],D.lj⟩ Q):FD call B an j (⟨i,af⟩::l) D Q:=fun a r=>by
  have hgo:=aNq (d:=⟨i,af⟩) r.rf hg
  obtain ⟨m,ml,hm⟩:=r.hd
  have hhd:=r.seqget hm
  obtain ⟨v, mem', nx', z', H', h1, h2, h3, h4, h5, h6, h7, h9⟩ := hc (ovl m a.pend) a.nx (by
    have:=r.rf.hold
    simp only [Acc.seq,hhd] at this
    exact aFt.left (Hs:=[]) (Hr:=D.fs.H) this)
  have hev:∀ m n,args.map (⟨nE a.env (CE.D.sl ⟨i,af⟩),m,n⟩:AS).ev=vs:=fun m n=>by
    rw [← ha]
    refine List.map_congr_left fun x hx=>?_
    rw [aAI (m':=a.seq.mem) (n':=a.seq.nx) fun q hq=>Qo (d:=⟨i,af⟩) (by rw [hi];simp only [jM.sl,Od.sls,List.mem_flatMap];exact ⟨x,hx,hq⟩)]
    exact r.rf.ev x
  have hp:=aEJ (bits:=an.getD j 0) (l:=a.pend) (by rw [r.pj];exact hpj)
  have hT:∀ b k,D.T b k→mem'.get b=some k:=fun b k hb=>by
    rw [h3 b (r.tlt b k hb) (by simp [yI])]
    exact aFs (fun p hp' e=>r.np p hp' k (e ▸ hb)) (r.t0 (D.tag,m) (by rw [hm];exact List.mem_cons_self ..) b k hb)
  obtain ⟨fl',hf1,hf2⟩:=aBH (bits:=an.getD j 0) (m:=mem') (l:=a.fl) fun p hp=>(r.fl p hp).2 mem' hT
  refine aHh (a':=⟨aCi a.env i.d v,nx',(j+1,mem')::a.mems,a.pend.filter (fun p=>!(an.getD j 0).testBit p.1),fl',(an.getD j 0) ||| (1 <<< j)⟩) ?_ ?_
  · simp only [Y0]
    rw [show gOk i ⟨nE a.env (CE.D.sl ⟨i,af⟩),.nil,a.nx⟩=some true from hgo]
    simp only [hi,cP,aA5,eE,hm,hp.1,evV,callee,hev,h1,r.last,hbits,hf1]
  · rw [hd,hp.2]
    refine hw v z' H' h5 h9 _ ⟨?_,⟨mem',a.mems,rfl⟩,fun p hp' b k hb=>?_,fun b k hb=>Nat.lt_of_lt_of_le (r.tlt b k hb) h2,fun p hp=>by simp at hp,fun p hp=>r.fl p (hf2 p hp),rfl,rfl,fun p hp=>by simp at hp⟩
    · have := r.rf.callR (Hs := []) (Hr := D.fs.H) rfl (mem' := mem') (nx' := nx') (z' := z') (H' := H') h2 (fun b hb hb2 => by
        rw [h3 b hb hb2];simp only [Acc.seq,hhd]) h4 h5 h6 h7
      exact this.put d v
    · rcases List.mem_cons.1 hp' with rfl | hp'
      · exact hT b k hb
      · exact r.t0 p hp' b k hb
theorem bBa {bits:Nat} {l:List (Nat×Nat×pA)} (h:((l.map (·.1)).all fun q=>!bits.testBit q)=true):(l.filter fun p=>bits.testBit p.1)=[]∧(l.filter fun p=>!bits.testBit p.1)=l:=by
 have hq:∀ p,p∈l→bits.testBit p.1=false:=fun p hp=>by
  rw [List.all_eq_true] at h
  simpa using h p.1 (List.mem_map.2 ⟨p,hp,rfl⟩)
 constructor
 ·refine List.filter_eq_nil_iff.2 fun p hp=>?_
  rw [hq p hp];simp
 refine List.filter_eq_self.2 fun p hp=>?_
 rw [hq p hp];rfl
theorem bHR {m m':Tr pA}:∀ {l:List (Nat×Nat×pA)} {b:Nat},((∀ p,p∈l→p.2.1≠b)→m'.get b=m.get b)→(ovl m' l).get b=(ovl m l).get b:=by
 intro l
 induction l with
 | nil=>intro b h;exact h fun p hp=>by cases hp
 | cons p l ih =>
  intro b h
  obtain ⟨A,id,k0⟩:=p
  simp only [ovl]
  rw [Tr.get_put _ _ _ _ _ (by omega),Tr.get_put _ _ _ _ _ (by omega)]
  split
  ·rfl
  rename_i hne
  exact ih fun hp=>h fun p hp'=>by
   rcases List.mem_cons.1 hp' with rfl | hp'
   ·exact hne
   exact hp p hp'
theorem bH2 {i:I} {d f:Nat} {args:List Od} {vs:List AV} {af:List Nat} {Post:AV→dE→Prop} (hi:i.o=.call f args) (hd:i.d=some d) (hg:GK D.fs i) (hbits:Nat.beq (an.getD j 0 ||| D.last) (an.getD j 0)=true) (hpj:(D.pj.all fun q=>!(an.getD j 0).testBit q)=true) (hzT:∀ b k,D.fs.z b k→D.T b k)
    (ha:args.map D.fs.ev=vs) (hc:FC call f vs D.fs.z Post) (hw:∀ v z',zle D.fs.z z'→Post v z'→FD call B an (j+1) l ⟨⟨aE6 D.fs.e d v,z',D.fs.H⟩,D.T,j+1,an.getD j 0 ||| (1 <<< j),D.pj,D.lj⟩ Q):FD call B an j (⟨i,af⟩::l) D Q:=fun a r=>by
  have hgo:=aNq (d:=⟨i,af⟩) r.rf hg
  obtain ⟨m,ml,hm⟩:=r.hd
  have hhd:=r.seqget hm
  obtain ⟨v,mem',nx',z',H',h1,h2,h3,h4,h5,h6,h7,h8,h9⟩:=hc m a.nx ⟨fun b k hb=>⟨r.t0 (D.tag,m) (by rw [hm];exact List.mem_cons_self ..) b k (hzT b k hb),(r.rf.hold.z b k hb).2.1,by simp [yI]⟩,fun a ha=>(by cases ha),fun b hb=>(by simp [yI] at hb),by simp [yI]⟩
  subst h8
  have hev:∀ m n,args.map (⟨nE a.env (CE.D.sl ⟨i,af⟩),m,n⟩:AS).ev=vs:=fun m n=>by
    rw [← ha]
    refine List.map_congr_left fun x hx=>?_
    rw [aAI (m':=a.seq.mem) (n':=a.seq.nx) fun q hq=>Qo (d:=⟨i,af⟩) (by rw [hi];simp only [jM.sl,Od.sls,List.mem_flatMap];exact ⟨x,hx,hq⟩)]
    exact r.rf.ev x
  have hp:=bBa (bits:=an.getD j 0) (l:=a.pend) (by rw [r.pj];exact hpj)
  have hT:∀ b k,D.T b k→mem'.get b=some k:=fun b k hb=>by
    rw [h3 b (r.tlt b k hb) (by simp [yI])]
    exact r.t0 (D.tag,m) (by rw [hm];exact List.mem_cons_self ..) b k hb
  obtain ⟨fl',hf1,hf2⟩:=aBH (bits:=an.getD j 0) (m:=mem') (l:=a.fl) fun p hp=>(r.fl p hp).2 mem' hT
  refine aHh (a':=⟨aCi a.env i.d v,nx',(j+1,mem')::a.mems,a.pend.filter (fun p=>!(an.getD j 0).testBit p.1),fl',(an.getD j 0) ||| (1 <<< j)⟩) ?_ ?_
  · simp only [Y0]
    rw [show gOk i ⟨nE a.env (CE.D.sl ⟨i,af⟩),.nil,a.nx⟩=some true from hgo]
    simp only [hi,cP,aA5,eE,hm,hp.1,ovl,evV,callee,hev,h1,r.last,hbits,hf1]
  · rw [hd,hp.2]
    refine hw v z' h5 h9 _ ⟨?_,⟨mem',a.mems,rfl⟩,fun p hp' b k hb=>?_,fun b k hb=>Nat.lt_of_lt_of_le (r.tlt b k hb) h2,fun p hp'=>r.np p hp',fun p hp=>r.fl p (hf2 p hp),rfl,r.pj,fun p hp'=>Nat.lt_of_lt_of_le (r.plt p hp') h2⟩
    · have hnp:∀ b k,z' b k→∀ p,p∈a.pend→p.2.1≠b:=fun b k hb p hp' e=>by
        rcases h6 b k hb with g | g | g
        · exact r.np p hp' k (hzT _ _ (e ▸ g))
        · have:=r.plt p hp';omega
        · simp [yI] at g
      have := r.rf.callR (Hs := []) (Hr := D.fs.H) rfl (mem' := ovl mem' a.pend) (nx' := nx') (z' := z') (H' := []) h2 (fun b hb hb2 => by
        simp only [Acc.seq,hhd]
        exact bHR fun _=>h3 b hb hb2) ⟨fun b k hb=>⟨aFs (hnp b k hb) (h4.z b k hb).1,(h4.z b k hb).2⟩,fun a ha=>(by cases ha),fun b hb=>(by simp [yI] at hb),by simp [yI]⟩ h5 h6 (fun b hb=>by simp [yI] at hb)
      exact this.put d v
    · rcases List.mem_cons.1 hp' with rfl | hp'
      · exact hT b k hb
      · exact r.t0 p hp' b k hb
theorem bPy {i:I} {d:Nat} {af:List Nat} {k:pA} {w:Nat→AV} (hd:i.d=some d) (hg:GK D.fs i) (hl:aA5 i.o=false) (hq:∀ st:AS,cP i.o st=none) (he:∀ st:AS,(∀ q,q∈i.o.sl→st.get q=D.fs.e q)→eE i.o st=some (st.new k,w st.nx))
  (hw:∀ b,(∀ k,¬ D.T b k)→FD call B an (j+1) l ⟨⟨aE6 D.fs.e d (w b),D.fs.z,.blk b k::D.fs.H⟩,D.T,D.tag,D.last,j::D.pj,D.lj⟩ Q):FD call B an j (⟨i,af⟩::l) D Q:=fun a r=>by
 have hgo:=aNq (d:=⟨i,af⟩) r.rf hg
 have he':eE i.o ⟨nE a.env (CE.D.sl ⟨i,af⟩),.nil,a.nx⟩=some ((⟨nE a.env (CE.D.sl ⟨i,af⟩),.nil,a.nx⟩:AS).new k,w a.nx):=he _ fun q hq=>by
  have:=aOd (a:=a) (d:=⟨i,af⟩) (Qo (d:=⟨i,af⟩) hq)
  exact this.trans (r.rf.env q)
 have h1:((⟨nE a.env (CE.D.sl ⟨i,af⟩),.nil,a.nx⟩:AS).new k).mem.get a.nx=some k:=by rw [aDD,if_pos rfl]
 have h2:Nat.beq ((⟨nE a.env (CE.D.sl ⟨i,af⟩),.nil,a.nx⟩:AS).new k).nx (a.nx+1)=true:=Nat.beq_refl _
 refine aHh (a':=⟨aCi a.env i.d (w a.nx),a.nx+1,a.mems,(j,a.nx,k)::a.pend,a.fl,a.last⟩) ?_ ?_
 ·simp only [Y0]
  rw [show gOk i ⟨nE a.env (CE.D.sl ⟨i,af⟩),.nil,a.nx⟩=some true from hgo]
  simp only [hq,hl,he',h1,h2]
 rw [hd]
 have r1:=r.rf.new (a:=.blk a.nx k) (m':=(a.seq.new k).mem) (by show (a.seq.new k).mem.get a.seq.nx=some k;rw [aDD,if_pos rfl]) rfl (fun b hb=>by rw [aDD,if_neg fun e=>hb e.symm])
 refine hw a.nx (fun k hb=>absurd (r.tlt _ _ hb) (Nat.lt_irrefl _)) _ ⟨r1.put d (w a.nx),r.hd,r.t0,fun b k' hb=>Nat.lt_succ_of_lt (r.tlt b k' hb),fun p hp k' hb=>?_,r.fl,r.last,?_,fun p hp=>?_⟩
 ·rcases List.mem_cons.1 hp with rfl | hp
  ·exact absurd (r.tlt _ _ hb) (Nat.lt_irrefl _)
  exact r.np p hp k' hb
 ·simp only [List.map_cons,r.pj]
 rcases List.mem_cons.1 hp with rfl | hp
 ·exact Nat.lt_succ_self _
 exact Nat.lt_succ_of_lt (r.plt p hp)
theorem bHG {i:I} {af:List Nat} (hg:GK D.fs i) (hl:aA5 i.o=false) (hbits:Nat.beq (an.getD j 0 ||| D.last) (an.getD j 0)=true) (hpj:(D.pj.all fun q=>(an.getD j 0).testBit q)=true) (hlj:(D.lj.all fun q=>(an.getD j 0).testBit q)=true)
    (hq:∀ st:AS,cP i.o st=none) (he:∀ st:AS,(∀ q,q∈i.o.sl→st.get q=D.fs.e q)→st.mem=.nil→eE i.o st=none) (hev:∀ (env:Tr AV) (ls:List Nat) (m:Tr pA) (n:Nat),(∀ q,q∈i.o.sl→q∈ls)→evV call i.o ⟨nE env ls,m,n⟩=evV call i.o ⟨env,m,n⟩)
    (h:FL call B [⟨i.d,none,i.o⟩] D.fs fun fs'=>FD call B an (j+1) l ⟨fs',fun _ _=>False,j+1,an.getD j 0 ||| (1 <<< j),[],[]⟩ Q):FD call B an j (⟨i,af⟩::l) D Q:=fun a r=>by
  have hgo:=aNq (d:=⟨i,af⟩) r.rf hg
  obtain ⟨m,ml,hm⟩:=r.hd
  have hhd:=r.seqget hm
  have hp:=aEJ (bits:=an.getD j 0) (l:=a.pend) (by rw [r.pj];exact hpj)
  have h1:=h a.seq r.rf
  simp only [Pz,evI,gOk] at h1
  cases hv:evV call i.o a.seq with
  | none=>rw [hv] at h1;exact h1.elim
  | some q =>
    obtain ⟨v,mem',nx'⟩:=q
    rw [hv] at h1
    have hv':evV call i.o ⟨nE a.env (CE.D.sl ⟨i,af⟩),ovl m a.pend,a.nx⟩=some (v,mem',nx'):=by
      rw [hev _ _ _ _ fun q hq=>Qo (d:=⟨i,af⟩) hq,← hv]
      simp only [Acc.seq,hhd]
    have he' : eE i.o ⟨nE a.env (CE.D.sl ⟨i, af⟩), .nil, a.nx⟩ = none := he _ (fun q hq => by
      have:=aOd (a:=a) (d:=⟨i,af⟩) (Qo (d:=⟨i,af⟩) hq)
      exact this.trans (r.rf.env q)) rfl
    have hf:=bHd (bits:=an.getD j 0) (m:=mem') (l:=a.fl) fun p hp=>bPh hlj (r.fl p hp).1
    refine aHh (a':=⟨aCi a.env i.d v,nx',(j+1,mem')::a.mems,a.pend.filter (fun p=>!(an.getD j 0).testBit p.1),[],(an.getD j 0) ||| (1 <<< j)⟩) ?_ ?_
    · simp only [Y0]
      rw [show gOk i ⟨nE a.env (CE.D.sl ⟨i,af⟩),.nil,a.nx⟩=some true from hgo]
      simp only [hq,hl,he',hm,hp.1,hv',r.last,hbits,hf]
    · rw [hp.2]
      obtain ⟨fs',r',hn⟩:=h1
      refine hn _ ⟨?_,⟨mem',a.mems,rfl⟩,fun p _ b k hb=>hb.elim,fun b k hb=>hb.elim,fun p hp=>by simp at hp,fun p hp=>by simp at hp,rfl,rfl,fun p hp=>by simp at hp⟩
      cases hdd:i.d with
      | none=>rw [hdd] at r';exact r'
      | some d=>rw [hdd] at r';exact r'
theorem bK4 {i:I} {af:List Nat} (hg:GK D.fs i) (hl:aA5 i.o=false) (hbits:Nat.beq (an.getD j 0 ||| D.last) (an.getD j 0)=true) (hpj:(D.pj.all fun q=>(an.getD j 0).testBit q)=true)
    (hq:∀ st:AS,cP i.o st=none) (he:∀ st:AS,(∀ q,q∈i.o.sl→st.get q=D.fs.e q)→st.mem=.nil→eE i.o st=none) (hev:∀ (env:Tr AV) (ls:List Nat) (m:Tr pA) (n:Nat),(∀ q,q∈i.o.sl→q∈ls)→evV call i.o ⟨nE env ls,m,n⟩=evV call i.o ⟨env,m,n⟩)
    (hk:∀ (st:AS) v m' n',Rf B D.fs st→evV call i.o st=some (v,m',n')→st.nx≤n'∧∀ b k,D.T b k→st.mem.get b=some k→m'.get b=some k)
    (h:FL call B [⟨i.d,none,i.o⟩] D.fs fun fs'=>FD call B an (j+1) l ⟨fs',D.T,j+1,an.getD j 0 ||| (1 <<< j),[],D.lj⟩ Q):FD call B an j (⟨i,af⟩::l) D Q:=fun a r=>by
  have hgo:=aNq (d:=⟨i,af⟩) r.rf hg
  obtain ⟨m,ml,hm⟩:=r.hd
  have hhd:=r.seqget hm
  have hp:=aEJ (bits:=an.getD j 0) (l:=a.pend) (by rw [r.pj];exact hpj)
  have h1:=h a.seq r.rf
  simp only [Pz,evI,gOk] at h1
  cases hv:evV call i.o a.seq with
  | none=>rw [hv] at h1;exact h1.elim
  | some q =>
    obtain ⟨v,mem',nx'⟩:=q
    rw [hv] at h1
    obtain ⟨hn,hkk⟩:=hk _ _ _ _ r.rf hv
    have hT:∀ b k,D.T b k→mem'.get b=some k:=fun b k hb=>by
      refine hkk b k hb ?_
      show (ovl a.hd a.pend).get b=some k
      rw [hhd]
      exact aFs (fun p hp' e=>r.np p hp' k (e ▸ hb)) (r.t0 (D.tag,m) (by rw [hm];exact List.mem_cons_self ..) b k hb)
    obtain ⟨fl',hf1,hf2⟩:=aBH (bits:=an.getD j 0) (m:=mem') (l:=a.fl) fun p hp=>(r.fl p hp).2 mem' hT
    have hv':evV call i.o ⟨nE a.env (CE.D.sl ⟨i,af⟩),ovl m a.pend,a.nx⟩=some (v,mem',nx'):=by
      rw [hev _ _ _ _ fun q hq=>Qo (d:=⟨i,af⟩) hq,← hv]
      simp only [Acc.seq,hhd]
    have he' : eE i.o ⟨nE a.env (CE.D.sl ⟨i, af⟩), .nil, a.nx⟩ = none := he _ (fun q hq => by
      have:=aOd (a:=a) (d:=⟨i,af⟩) (Qo (d:=⟨i,af⟩) hq)
      exact this.trans (r.rf.env q)) rfl
    refine aHh (a':=⟨aCi a.env i.d v,nx',(j+1,mem')::a.mems,a.pend.filter (fun p=>!(an.getD j 0).testBit p.1),fl',(an.getD j 0) ||| (1 <<< j)⟩) ?_ ?_
    · simp only [Y0]
      rw [show gOk i ⟨nE a.env (CE.D.sl ⟨i,af⟩),.nil,a.nx⟩=some true from hgo]
      simp only [hq,hl,he',hm,hp.1,hv',r.last,hbits,hf1]
    · rw [hp.2]
      obtain ⟨fs',r',hnn⟩:=h1
      refine hnn _ ⟨?_,⟨mem',a.mems,rfl⟩,fun p hp' b k hb=>?_,fun b k hb=>Nat.lt_of_lt_of_le (r.tlt b k hb) hn,fun p hp=>by simp at hp,fun p hp=>r.fl p (hf2 p hp),rfl,rfl,fun p hp=>by simp at hp⟩
      · cases hdd:i.d with
        | none=>rw [hdd] at r';exact r'
        | some d=>rw [hdd] at r';exact r'
      · rcases List.mem_cons.1 hp' with rfl | hp'
        · exact hT b k hb
        · exact r.t0 p hp' b k hb
theorem aOU {o:jM} (hs:(∃ s x y,o=.store s x y)∨∃ ty s b zr x y,o=.app ty s b zr x y) (env:Tr AV) (ls:List Nat) (m:Tr pA) (n:Nat) (h:∀ q,q∈o.sl→q∈ls):evV call o ⟨nE env ls,m,n⟩=evV call o ⟨env,m,n⟩:=by
  have hev:∀ x,(∀ q,q∈Od.sl x→q∈o.sl)→(⟨nE env ls,m,n⟩:AS).ev x=(⟨env,m,n⟩:AS).ev x:=fun x hx=>aAI fun q hq=>h q (hx q hq)
  rcases hs with ⟨s,x,y,rfl⟩ | ⟨ty,s,b1,zr,x,y,rfl⟩
  · simp only [evV, callee, cP, eE, hev x (fun q hq => by simp [jM.sl, hq]), hev y (fun q hq => by simp [jM.sl, hq])]
    cases (⟨env,m,n⟩:AS).ev x with
    | c c =>
      cases c with
      | ptr b o =>
        cases ((⟨env,m,n⟩:AS).ev y).cells? with
        | none=>rfl
        | some ds =>
          simp only
          cases m.get b with
          | none=>rfl
          | some k =>
            cases k with
            | cells ty cs =>
              simp only [need]
              by_cases hc:ds.length=s∧o+s≤cs.length
              · rw [if_pos hc,if_pos hc];rfl
              · rw [if_neg hc,if_neg hc]
            | _=>rfl
      | _=>rfl
    | _=>rfl
  · have hrow:∀ v,(⟨nE env ls,m,n⟩:AS).row s v=(⟨env,m,n⟩:AS).row s v:=fun v=>by
      cases v with
      | c c=>cases c<;>rfl
      | _=>rfl
    simp only [evV,callee,cP,eE,hev x (fun q hq=>by simp [jM.sl,hq]),hev y (fun q hq=>by simp [jM.sl,hq]),hrow]
    cases (⟨env,m,n⟩:AS).row s ((⟨env,m,n⟩:AS).ev y) with
    | none=>rfl
    | some p =>
      obtain ⟨c,news⟩:=p
      cases c with
      | zero =>
        simp only
        cases (⟨env,m,n⟩:AS).ev x with
        | c c =>
          cases c with
          | v x =>
            cases x with
            | slice A l c =>
              cases A with
              | none=>cases l<;>cases c<;>rfl
              | some A=>rfl
            | _=>rfl
          | _=>rfl
        | _=>rfl
      | succ c =>
        simp only
        cases (⟨env,m,n⟩:AS).ev x with
        | c c' =>
          cases c' with
          | v x =>
            cases x with
            | slice A l cc =>
              cases A with
              | none =>
                cases l with
                | zero =>
                  cases cc with
                  | zero =>
                    simp only [need]
                    by_cases hc:(c+1) * b1≤140737488355328∧c+1≤9223372036854775807∧0<c+1
                    · rw [if_pos hc,if_pos hc];rfl
                    · rw [if_neg hc,if_neg hc]
                  | succ _=>rfl
                | succ _=>rfl
              | some A=>rfl
            | _=>rfl
          | sl b o n' s' =>
            simp only
            cases m.get b with
            | none=>rfl
            | some k =>
              cases k with
              | cells ty' cs =>
                simp only [need]
                by_cases hc:o+n' * s'=cs.length∧ty'=ty∧s'=s∧(n'+(c+1)) * b1≤140737488355328∧n'+(c+1)≤9223372036854775807
                · rw [if_pos hc,if_pos hc];rfl
                · rw [if_neg hc,if_neg hc]
              | _=>rfl
          | _=>rfl
        | _=>rfl
theorem bAv (s:Nat) {t:Bool} (h:D.fs.e s=.c (.v (.bool t))) (h1:t=true→FD call B an j l ⟨D.fs.put s (.c (.v (.bool true))),D.T,D.tag,D.last,D.pj,D.lj⟩ Q) (h2:t=false→FD call B an j l ⟨D.fs.put s (.c (.v (.bool false))),D.T,D.tag,D.last,D.pj,D.lj⟩ Q):FD call B an j l D Q:=by
 obtain ⟨fs,T,tag,last,pj,lj⟩:=D
 have e:fs.put s (.c (.v (.bool t)))=fs:=by
  cases fs;simp only [Sf.put];rw [aSv h]
 cases t with
 | true=>have:=h1 rfl;simp only [e] at this;exact this
 | false=>have:=h2 rfl;simp only [e] at this;exact this
theorem bFJ {i:I} {s:Nat} {x y:Od} {b o:Nat} {af:List Nat} (hi:i.o=.store s x y) (hg:GK D.fs i) (hbits:Nat.beq (an.getD j 0 ||| D.last) (an.getD j 0)=true) (hpj:(D.pj.all fun q=>(an.getD j 0).testBit q)=true) (hlj:(D.lj.all fun q=>(an.getD j 0).testBit q)=true) (hx:D.fs.ev x=.c (.ptr b o))
  (h:FL call B [⟨i.d,none,.store s x y⟩] D.fs fun fs'=>FD call B an (j+1) l ⟨fs',fun _ _=>False,j+1,an.getD j 0 ||| (1 <<< j),[],[]⟩ Q):FD call B an j (⟨i,af⟩::l) D Q:=by
 refine bHG hg (by rw [hi];rfl) hbits hpj hlj (fun st=>by rw [hi];rfl) (fun st hst hm=>?_) (by rw [hi];exact aOU (.inl ⟨_,_,_,rfl⟩)) (by rw [hi];exact h)
 rw [hi]
 have:st.ev x=.c (.ptr b o):=by
  rw [← hx]
  cases x with
  | t q=>exact hst q (by rw [hi];simp [jM.sl,Od.sl])
  | _=>rfl
 simp only [eE,this,hm,Tr.get_nil]
 cases (st.ev y).cells?<;>rfl
theorem bBd {i:I} {s:Nat} {x y:Od} {b o:Nat} {af:List Nat} (hi:i.o=.store s x y) (hg:GK D.fs i) (hbits:Nat.beq (an.getD j 0 ||| D.last) (an.getD j 0)=true) (hpj:(D.pj.all fun q=>(an.getD j 0).testBit q)=true) (hx:D.fs.ev x=.c (.ptr b o)) (hT:∀ k,¬ D.T b k)
  (h:FL call B [⟨i.d,none,.store s x y⟩] D.fs fun fs'=>FD call B an (j+1) l ⟨fs',D.T,j+1,an.getD j 0 ||| (1 <<< j),[],D.lj⟩ Q):FD call B an j (⟨i,af⟩::l) D Q:=by
 refine bK4 hg (by rw [hi];rfl) hbits hpj (fun st=>by rw [hi];rfl) (fun st hst hm=>?_) (by rw [hi];exact aOU (.inl ⟨_,_,_,rfl⟩)) (fun st v m' n' r hv=>?_) (by rw [hi];exact h)
 ·rw [hi]
  have:st.ev x=.c (.ptr b o):=by
   rw [← hx]
   cases x with
   | t q=>exact hst q (by rw [hi];simp [jM.sl,Od.sl])
   | _=>rfl
  simp only [eE,this,hm,Tr.get_nil]
  cases (st.ev y).cells?<;>rfl
 rw [hi] at hv
 simp only [evV,callee,cP,eE,r.ev,hx] at hv
 cases hc:(D.fs.ev y).cells? with
 | none=>rw [hc] at hv;cases hv
 | some ds =>
  rw [hc] at hv
  simp only at hv
  cases hm:st.mem.get b with
  | none=>rw [hm] at hv;cases hv
  | some k0 =>
   rw [hm] at hv
   cases k0 with
   | cells ty cs =>
    simp only [need] at hv
    by_cases hcc:ds.length=s∧o+s≤cs.length
    ·rw [if_pos hcc] at hv
     injection hv with hv
     obtain ⟨_,hv⟩:=Prod.mk.inj hv
     obtain ⟨h1,h2⟩:=Prod.mk.inj hv
     subst h1 h2
     refine ⟨Nat.le_refl _,fun b' k' hb hg=>?_⟩
     rw [aF6,if_neg fun e=>hT k' (by rw [e];exact hb)]
     exact hg
    rw [if_neg hcc] at hv;cases hv
   | ro _=>cases hv
   | sit _ _=>cases hv
   | mp _ _=>cases hv
theorem bQU {i:I} {ty s bytes:Nat} {zr:List Value} {x y:Od} {b o n:Nat} {af:List Nat} (hi:i.o=.app ty s bytes zr x y) (hg:GK D.fs i) (hbits:Nat.beq (an.getD j 0 ||| D.last) (an.getD j 0)=true) (hpj:(D.pj.all fun q=>(an.getD j 0).testBit q)=true) (hlj:(D.lj.all fun q=>(an.getD j 0).testBit q)=true) (hy:D.fs.ev y=.c (.sl b o n s))
  (h:FL call B [⟨i.d,none,.app ty s bytes zr x y⟩] D.fs fun fs'=>FD call B an (j+1) l ⟨fs',fun _ _=>False,j+1,an.getD j 0 ||| (1 <<< j),[],[]⟩ Q):FD call B an j (⟨i,af⟩::l) D Q:=by
 refine bHG hg (by rw [hi];rfl) hbits hpj hlj (fun st=>by rw [hi];rfl) (fun st hst hm=>?_) (by rw [hi];exact aOU (.inr ⟨_,_,_,_,_,_,rfl⟩)) (by rw [hi];exact h)
 rw [hi]
 have:st.ev y=.c (.sl b o n s):=by
  rw [← hy]
  cases y with
  | t q=>exact hst q (by rw [hi];simp [jM.sl,Od.sl])
  | _=>rfl
 simp only [eE,this,AS.row,AS.read,AS.blk,hm,Tr.get_nil]
end
def FG (call:jO) (B:sY) (an:List Nat) (j:Nat) (l:List CE.D) (fs:Sf) (T:dE) (tag last:Nat) (pj lj:List Nat) (Q:Sf→Prop):Prop:=FD call B an j l ⟨fs,T,tag,last,pj,lj⟩ Q
section
variable {call:jO} {B:sY} {an:List Nat} {j:Nat} {l:List CE.D} {fs:Sf} {T:dE} {tag last:Nat} {pj lj:List Nat} {Q:Sf→Prop}
theorem mQ (h:Q fs):FG call B an j [] fs T tag last pj lj Q:=bQN (D:=⟨fs,T,tag,last,pj,lj⟩) h
theorem Hj {k:Nat} {ds:List CE.D} {Q:Exit→Sf→Prop} (h:FG call B an 0 ds fs (tz fs.z fs.H) 0 0 [] [] (Q .normal)):FX call k B (.draw ds an) fs Q:=aZs h
theorem gX {k:Nat} {ds:List CE.D} {c:XC} {Q:Exit→Sf→Prop} (h:FG call B an 0 ds fs (tz fs.z fs.H) 0 0 [] [] (fun fs'=>FX call k B c fs' Q)):FX call k B (.seq (.draw ds an) c) fs Q:=bGS h
theorem gP {i:I} {d:Nat} {af:List Nat} (hd:i.d=some d) (hp:aTF i.o=true) (hg:GK fs i) (h:FL call B [⟨some d,none,i.o⟩] fs fun fs'=>FG call B an (j+1) l fs' T tag last pj lj Q):FG call B an j (⟨i,af⟩::l) fs T tag last pj lj Q:=bJT (D:=⟨fs,T,tag,last,pj,lj⟩) hd hp hg h
theorem bPn {i:I} {d s:Nat} {want:Bool} {af:List Nat} (hd:i.d=some d) (hg:i.g=some (s,want)) (hs:fs.e s=.c (.v (.bool (!want)))∨fs.e s=.tup []) (hw:FG call B an (j+1) l (fs.put d (.tup [])) T tag last pj lj Q):FG call B an j (⟨i,af⟩::l) fs T tag last pj lj Q:=bQw (D:=⟨fs,T,tag,last,pj,lj⟩) hd hg hs hw
theorem aDQ {i:I} {d:Nat} {agg:Bool} {size:Nat} {x:Od} {b o:Nat} {k:pA} {full:List C} {v:AV} {af:List Nat} (hi:i.o=.load agg size x) (hd:i.d=some d) (hg:GK fs i) (hx:fs.ev x=.c (.ptr b o)) (hT:T b k) (hk:k.cs=some full) (hl:o+size≤full.length) (hv:Xs agg ((full.drop o).take size)=v)
  (hs:L2 v v=true) (hw:FG call B an (j+1) l (fs.put d v) T tag last pj (j::lj) Q):FG call B an j (⟨i,af⟩::l) fs T tag last pj lj Q:=aZ6 (D:=⟨fs,T,tag,last,pj,lj⟩) hi hd hg hx hT hk hl hv hs hw
theorem rC {i:I} {d:Nat} {agg:Bool} {size:Nat} {x:Od} {b q p off:Nat} {cs:List C} {v:AV} {af:List Nat} {z:dE} (hi:i.o=.load agg size x) (hd:i.d=some d) (hg:GK fs i) (hx:fs.ev x=.c (.ptr b q)) (ha:At z b p cs) (hz:∀ b k,z b k→T b k) (hq:q=p+off) (hl:off+size≤cs.length) (hv:Xs agg ((cs.drop off).take size)=v)
  (hs:L2 v v=true) (hw:FG call B an (j+1) l (fs.put d v) T tag last pj (j::lj) Q):FG call B an j (⟨i,af⟩::l) fs T tag last pj lj Q:=bQG (D:=⟨fs,T,tag,last,pj,lj⟩) hi hd hg hx ha hz hq hl hv hs hw
theorem Cm {i:I} {d f:Nat} {args:List Od} {vs:List AV} {af:List Nat} {Post:AV→dE→Prop} (hi:i.o=.call f args) (hd:i.d=some d) (hg:GK fs i) (hbits:Nat.beq (an.getD j 0 ||| last) (an.getD j 0)=true) (hpj:(pj.all fun q=>(an.getD j 0).testBit q)=true)
  (ha:args.map fs.ev=vs) (hc:FC call f vs fs.z Post) (hw:∀ v z',zle fs.z z'→Post v z'→FG call B an (j+1) l (fs.res d v z' fs.H) T (j+1) (an.getD j 0 ||| (1 <<< j)) [] lj Q):FG call B an j (⟨i,af⟩::l) fs T tag last pj lj Q:=bKh (D:=⟨fs,T,tag,last,pj,lj⟩) hi hd hg hbits hpj ha hc hw
theorem qT {i:I} {d:Nat} {af:List Nat} {k:pA} {w:Nat→AV} (hd:i.d=some d) (hg:GK fs i) (hl:aA5 i.o=false) (hq:∀ st:AS,cP i.o st=none) (he:∀ st:AS,(∀ q,q∈i.o.sl→st.get q=fs.e q)→eE i.o st=some (st.new k,w st.nx))
  (hw:∀ b,(∀ k,¬ T b k)→FG call B an (j+1) l (fs.own d (w b) (.blk b k)) T tag last (j::pj) lj Q):FG call B an j (⟨i,af⟩::l) fs T tag last pj lj Q:=bPy (D:=⟨fs,T,tag,last,pj,lj⟩) hd hg hl hq he hw
theorem Np (s:Nat) {t:Bool} (h:fs.e s=.c (.v (.bool t))) (h1:t=true→FG call B an j l (fs.put s (.c (.v (.bool true)))) T tag last pj lj Q) (h2:t=false→FG call B an j l (fs.put s (.c (.v (.bool false)))) T tag last pj lj Q):FG call B an j l fs T tag last pj lj Q:=bAv (D:=⟨fs,T,tag,last,pj,lj⟩) s h h1 h2
theorem bHt {i:I} {s:Nat} {x y:Od} {b o:Nat} {af:List Nat} (hi:i.o=.store s x y) (hg:GK fs i) (hbits:Nat.beq (an.getD j 0 ||| last) (an.getD j 0)=true) (hpj:(pj.all fun q=>(an.getD j 0).testBit q)=true) (hlj:(lj.all fun q=>(an.getD j 0).testBit q)=true) (hx:fs.ev x=.c (.ptr b o))
  (h:FL call B [⟨i.d,none,.store s x y⟩] fs fun fs'=>FG call B an (j+1) l fs' (fun _ _=>False) (j+1) (an.getD j 0 ||| (1 <<< j)) [] [] Q):FG call B an j (⟨i,af⟩::l) fs T tag last pj lj Q:=bFJ (D:=⟨fs,T,tag,last,pj,lj⟩) hi hg hbits hpj hlj hx h
theorem bAx {i:I} {s:Nat} {x y:Od} {b o:Nat} {af:List Nat} (hi:i.o=.store s x y) (hg:GK fs i) (hbits:Nat.beq (an.getD j 0 ||| last) (an.getD j 0)=true) (hpj:(pj.all fun q=>(an.getD j 0).testBit q)=true) (hx:fs.ev x=.c (.ptr b o)) (hT:∀ k,¬ T b k)
  (h:FL call B [⟨i.d,none,.store s x y⟩] fs fun fs'=>FG call B an (j+1) l fs' T (j+1) (an.getD j 0 ||| (1 <<< j)) [] lj Q):FG call B an j (⟨i,af⟩::l) fs T tag last pj lj Q:=bBd (D:=⟨fs,T,tag,last,pj,lj⟩) hi hg hbits hpj hx hT h
theorem K9 {i:I} {ty s bytes:Nat} {zr:List Value} {x y:Od} {b o n:Nat} {af:List Nat} (hi:i.o=.app ty s bytes zr x y) (hg:GK fs i) (hbits:Nat.beq (an.getD j 0 ||| last) (an.getD j 0)=true) (hpj:(pj.all fun q=>(an.getD j 0).testBit q)=true) (hlj:(lj.all fun q=>(an.getD j 0).testBit q)=true) (hy:fs.ev y=.c (.sl b o n s))
  (h:FL call B [⟨i.d,none,.app ty s bytes zr x y⟩] fs fun fs'=>FG call B an (j+1) l fs' (fun _ _=>False) (j+1) (an.getD j 0 ||| (1 <<< j)) [] [] Q):FG call B an j (⟨i,af⟩::l) fs T tag last pj lj Q:=bQU (D:=⟨fs,T,tag,last,pj,lj⟩) hi hg hbits hpj hlj hy h
end
section
variable {call:jO} {B:sY} {fs:Sf} {l:List I} {Q:Sf→Prop}
def JQ (fs:Sf) (ls:Bool→List (Nat×AV)) (P:Prop) (fs':Sf):Prop:=∃ r:Bool,fs'.H=fs.H∧zle fs.z fs'.z∧AtL fs'.e (ls r)∧(r=true↔P)
theorem aAh (n s:Nat) (ls:Bool→List (Nat×AV)) (P:Prop) {t:Bool} (hs:fs.e s=.c (.v (.bool t))) (h1:t=true→FL call B (l.take n) (fs.put s (.c (.v (.bool true)))) (JQ fs ls P)) (h0:t=false→FL call B (l.take n) (fs.put s (.c (.v (.bool false)))) (JQ fs ls P))
  (hw:∀ e z' r,zle fs.z z'→(r=true↔P)→FL call B (l.drop n) ⟨aTw e (ls r),z',fs.H⟩ Q):FL call B l fs Q:=by
 rw [← List.take_append_drop n l]
 refine bPv (J:=JQ fs ls P) (jI s hs h1 h0) fun fs' ⟨r,g1,g2,g3,g4⟩=>?_
 have:=hw fs'.e fs'.z r g2 g4
 rw [g3.eq,← g1] at this
 exact this
theorem Be {fs0:Sf} {ls:Bool→List (Nat×AV)} {P:Prop} (r:Bool) (hH:fs.H=fs0.H) (hz:zle fs0.z fs.z) (ha:AtL fs.e (ls r)) (hr:r=true↔P):FL call B [] fs (JQ fs0 ls P):=lN ⟨r,hH,hz,ha,hr⟩
end
theorem Za {s:Bool} {P Q:Prop} (hs:s=true↔P) (h:s=true):true=true↔P∨Q:=⟨fun _=>.inl (hs.1 h),fun _=>rfl⟩
theorem Zx {r s:Bool} {P Q:Prop} (hs:s=true↔P) (h:s=false) (hr:r=true↔Q):r=true↔P∨Q:=by
 constructor
 ·intro g;exact .inr (hr.1 g)
 intro q
 rcases q with q | q
 ·rw [hs.2 q] at h;cases h
 exact hr.2 q
theorem iN {P:Prop} [Decidable P]:decide P=true↔P:=decide_eq_true_iff
theorem sH {r:Bool} {P:Prop} (h:r=true↔P) (hr:r=false):¬ P:=fun p=>by rw [h.2 p] at hr;cases hr
open Go.RowKit
open Go.Eng (Od need jX jF oH binV binBV pG E2)
def zd (z0 z:dE):dE:=fun b k=>z b k∧(∀ k',¬ z0 b k')∧k.isRo=false
theorem gU {z0 z:dE}:zle (zd z0 z) z:=⟨fun _ _ h=>h.1⟩
instance zlm {z a b:dE} [h:Zl a b]:Zl (zd z a) b:=⟨gU.trans h.h⟩
theorem mX {z0 z z':dE} (h:zle z z'):zle (zd z0 z) (zd z0 z'):=⟨fun b k g=>⟨h b k g.1,g.2⟩⟩
theorem zA {z0 z1 z:dE} (h:zle z0 z1):zle (zd z1 z) (zd z0 z):=⟨fun b k g=>⟨g.1,fun k' h'=>g.2.1 k' (h b k' h'),g.2.2⟩⟩
section
variable {call:jO} {B:sY} {fs:Sf} {l:List I} {Q:Sf→Prop} {d:Nat}
theorem bLj {α:Type} {size:Nat} {R:RT α} [RMono R] {k:Nat} {c:XC} {Q:Exit→Sf→Prop} {u:AV} {ty n:Nat} {cs:List C} {r:List α} {p q:List HA} {z0:dE} (e:fs.H=p++.row u ty size n cs::q) (hz0:zle z0 fs.z) (hc:CL size R (zd z0 fs.z) cs r) (hn:r.length=n) (hm:n≤9223372036854775807)
    (hw:∀ z',zle fs.z z'→SZ size R (zd z0 z') u r→FX call k B c (fs.frz z' (p++q)) Q):FX call k B c fs Q:=fun st rf=>by
  obtain ⟨g1,g2⟩:=rf.hold.h (.row u ty size n cs) (by rw [e];simp)
  rcases g2 with ⟨h0,rfl⟩ | ⟨b,rfl,h3⟩
  · have hr0 : r = [] := List.eq_nil_of_length_eq_zero (by omega)
    subst hr0
    refine hw fs.z (zle.refl _) .nil st ?_
    have hsub:(p++q).Sublist fs.H:=by rw [e];exact (List.Sublist.refl p).append (List.sublist_cons_self _ _)
    exact ⟨rf.env,rf.hold.sub hsub,rf.le,rf.old,fun b hb=>rf.own b ((N8 hsub).subset hb),rf.zle,rf.zin⟩
  · have h1 := rf.frz (p := p) (q := q) (b := b) (k := .cells ty cs) (a := .row (.c (.sl b 0 n size)) ty size n cs) e rfl (fun m hm => by
      obtain ⟨_,hm⟩:=hm
      rcases hm with ⟨_,hm⟩ | ⟨b',hb',hm⟩
      · cases hm
      · injection hb' with hb';injection hb' with hb';subst hb';exact hm)
    have hnb:∀ k',¬ z0 b k':=fun k' hb=>(rf.hold.z b k' (hz0 b k' hb)).2.2 (by rw [e,nF,kY];simp [HA.fp])
    exact hw _ ⟨fun _ _ h=>.inl h⟩ ((hc.mono (mX ⟨fun _ _ h=>.inl h⟩)).sz hn hm ⟨.inr ⟨rfl,rfl⟩,hnb,rfl⟩) st h1
theorem aSX {k:NK} {ne:Bool} {x y:Od} {u v:AV} {a b r:Bool} (hx:fs.ev x=u) (hy:fs.ev y=v) (ha:aTI k u=some a) (hb:aTI k v=some b) (hab:(a || b)=true) (hr:((a && b) != ne)=r) (hw:FL call B l (fs.put d (.c (.v (.bool r)))) Q):FL call B (⟨some d,none,.cmpn k ne x y⟩::l) fs Q:=
  aIw (fun _ => rfl) (fun st rf => by
    simp only [cP,rf.ev,hx,hy,ha,hb,hab,hr];rfl) hw
theorem Rf.asblk {st:AS} (h:Rf B fs st) {u:AV} {b ty n size:Nat} {cs:List C} {p q:List HA} (e:fs.H=p++.row u ty size n cs::q) (hu:u=.c (.sl b 0 n size)) (hb0:st.mem.get b=some (.cells ty cs)):Rf B (fs.heap (p++.blk b (.cells ty cs)::q)) st:=by
 subst hu
 have e2:yI (p++.blk b (.cells ty cs)::q)=yI fs.H:=by rw [e,nF,nF,kY,kY];rfl
 refine ⟨h.env,⟨fun x k hb=>?_,fun a ha=>?_,fun x hb=>?_,?_⟩,h.le,h.old,fun x hb=>?_,h.zle,h.zin⟩
 ·show _∧_∧x ∉ yI (p++.blk b (.cells ty cs)::q)
  rw [e2];exact h.hold.z x k hb
 ·have ha:a∈p++.blk b (.cells ty cs)::q:=ha
  rcases List.mem_append.1 ha with ha | ha
  ·exact h.hold.h a (by rw [e];simp [ha])
  rcases List.mem_cons.1 ha with rfl | ha
  ·exact hb0
  exact h.hold.h a (by rw [e];simp [ha])
 ·have hb:x∈yI (p++.blk b (.cells ty cs)::q):=hb
  rw [e2] at hb;exact h.hold.lt x hb
 ·show (yI (p++.blk b (.cells ty cs)::q)).Nodup
  rw [e2];exact h.hold.nd
 have hb:x∈yI (p++.blk b (.cells ty cs)::q):=hb
 rw [e2] at hb;exact h.own x hb
theorem bLf {u:AV} {ty n size:Nat} {cs:List C} {p q:List HA} (e:fs.H=p++.row u ty size n cs::q) (hn:0<n) (h1:∀ b,u=.c (.sl b 0 n size)→FL call B l (fs.heap (p++.blk b (.cells ty cs)::q)) Q):FL call B l fs Q:=fun st r=>by
 obtain ⟨g1,g2⟩:=r.hold.h (.row u ty size n cs) (by rw [e];simp)
 rcases g2 with ⟨h0,_⟩ | ⟨b,hu,h3⟩
 ·omega
 exact h1 b hu st (r.asblk e hu h3)
theorem aVj {x:Od} {u:AV} {ty n size:Nat} {cs:List C} (hx:fs.ev x=u) (hm:HA.row u ty size n cs∈fs.H) (hw:FL call B l (fs.put d (.c (.v (.int .i64 n)))) Q):FL call B (⟨some d,none,.len false x⟩::l) fs Q:=fun st r=>by
 obtain ⟨g1,g2⟩:=r.hold.h _ hm
 have hl:lenOf u=some n:=by
  rcases g2 with ⟨h0,rfl⟩ | ⟨b,rfl,h3⟩
  ·rw [h0];rfl
  rfl
 exact aFy hx hl hw st r
end
theorem aSM {fs:Sf} {ts:List RR} {vs:List AV} {x:Exit} {Post:AV→dE→List HA→Prop} {H':List HA} (hx:x=.ret∨x=.normal) (h:Xr fs ts vs) (hs:H'.Sublist fs.H) (hp:Post (aUz vs) fs.z H'):bC8 ts Post x fs:=⟨hx,vs,H',h,hs,hp⟩
def bEQ (ty size bytes:Nat) (zero:List Value):XC:=.seq (.region [⟨some 2,none,.mv (.k (.slice none 0 0))⟩])
  (.seq (.seq (.region [⟨some 3, none, .mv (.t 0)⟩, ⟨some 4, none, .cmpn .sl false (.t 3) (.k (.slice none 0 0))⟩]) (.cond (.t 4) (.seq (.region [⟨some 2, none, .mv (.k (.slice none 0 0))⟩]) .ret) .skip))
  (.seq (.region [⟨some 5,none,.bslice ty size 0 zero []⟩,⟨some 6,none,.mv (.t 0)⟩,⟨some 7,none,.app ty size bytes zero (.t 5) (.t 6)⟩,⟨some 2,none,.mv (.t 7)⟩]) .ret))
def aQj {α:Type} (ty size:Nat) (R:RT α) (z:dE) (l:List α) (v:AV) (z':dE) (H':List HA):Prop:=∃ cs,H'=[.row v ty size l.length cs]∧CL size R z' cs l∧z'=z∧∃ c,v=.c c∧qV c c=true
theorem aWO {T:Tr FE} {hand:jO} {k0 k f ty size bytes:Nat} {zero:List Value} {α:Type} {R:RT α} [RMono R] {z:dE} {v:AV} {l:List α} (hT:T.get f=some ⟨8,bEQ ty size bytes zero,[.t 2]⟩) (hk:1≤k) (hv:SZ size R z v l) (hb:l.length * bytes≤140737488355328) :
    FCt (evF T hand k0 k) f [v] z [] (aQj ty size R z l):=by
  refine aQo hT hk (by show 1≤8;omega) fun B j hj=>?_
  have hle:=hv.le
  refine xR (lM rfl (lN ?_))
  refine aGM (xR (lM rfl ?_))
  have key : aTI .sl v = some false → FL (evF T hand k0 j) B [⟨some 4, none, .cmpn .sl false (.t 3) (.k (.slice none 0 0))⟩] (((⟨aT7 [v], z, []⟩ : Sf).put 2 C4).put 3 v) fun fs' => FX (evF T hand k0 j) k0 B (.seq (.cond (.t 4) (.seq (.region [⟨some 2, none, .mv (.k (.slice none 0 0))⟩]) .ret) .skip)
      (.seq (.region [⟨some 5,none,.bslice ty size 0 zero []⟩,⟨some 6,none,.mv (.t 0)⟩,⟨some 7,none,.app ty size bytes zero (.t 5) (.t 6)⟩,⟨some 2,none,.mv (.t 7)⟩]) .ret)) fs' (bC8 [.t 2] (aQj ty size R z l)):=fun hn=>by
    refine aSX (a:=false) (b:=true) rfl rfl hn rfl rfl rfl (lN ?_)
    refine Uw (O3 rfl (dA (xR ?_)))
    refine kO rfl fun b=>?_
    refine lM rfl ?_
    refine aBB (p:=[]) (n:=0) (cs:=Vt 0 (zero.map fun v=>.v v)) (size:=size) (b:=b) (ty:=ty) (q:=[]) rfl (by simp [Vt]) ?_
    refine aLd rfl rfl hv (fun _ _=>iP) (by rw [Nat.zero_add];exact hb) (by omega) fun c' hc' news hnews=>?_
    refine lM rfl (lN (xT ?_))
    refine aSM (.inl rfl) (rt rfl rn) (List.Sublist.refl _) ⟨news,?_,hnews,rfl,c',rfl,hc'⟩
    simp only [List.nil_append,Nat.zero_add,Vt]
    rfl
  cases hv with
  | nil =>
    refine aSX (a:=true) (b:=true) rfl rfl rfl rfl rfl rfl (lN ?_)
    refine Uw (aWv rfl (aGM (xR (lM rfl (wM ty size (lN (mN ?_)))))))
    exact aSM (.inl rfl) (rt rfl rn) (List.Sublist.refl _) ⟨[],rfl,CL.nil,rfl,_,rfl,F4⟩
  | em=>exact key rfl
  | sl b o n k full l hl hm hz hk hf hh=>exact key rfl
theorem FCt.clone {call:jO} {f ty size:Nat} {α:Type} {R:RT α} {z:dE} {v:AV} {l:List α} (h:FCt call f [v] z [] (aQj ty size R z l)) (hR:∀ {z1 z2:dE} {cs:List C} {a:α},R z1 cs a→R z2 cs a) (hm:l.length≤9223372036854775807):FC call f [v] z fun v' z'=>SZ size R (zd z z') v' l:=fun mem nx hh=>by
  obtain ⟨w,mem',nx',z',H',h1,h2,h3,h4,h5,h6,h7,cs,e1,hcl,e2,c,e3,hc⟩:=h mem nx hh
  subst e1 e2 e3
  obtain ⟨g1,g2⟩:=h4.h _ (List.mem_singleton.2 rfl)
  rcases g2 with ⟨h0,hw⟩ | ⟨b,hw,h8⟩
  · have e : l = [] := List.eq_nil_of_length_eq_zero (by omega)
    subst e
    injection hw with hw
    subst hw
    exact ⟨_,mem',nx',z',[],h1,h2,h3,h4.sub (List.nil_sublist _),h5,h6,fun b hb=>by simp [yI] at hb,rfl,.nil⟩
  · injection hw with hw
    subst hw
    have hfb:b∈yI [HA.row (.c (.sl b 0 l.length size)) ty size l.length cs]:=by simp [yI,HA.fp]
    refine ⟨_,mem',nx',fun x y=>z' x y∨(x=b∧y=.cells ty cs),[],h1,h2,h3,⟨fun x k hx=>?_,fun a ha=>by simp at ha,fun x hx=>by simp [yI] at hx,by simp [yI]⟩,⟨fun _ _ hx=>.inl hx⟩,fun x k hx=>?_,fun x hx=>by simp [yI] at hx,rfl,?_⟩
    · rcases hx with hx | ⟨rfl,rfl⟩
      · obtain ⟨k1, k2, _⟩ := h4.z x k hx
        exact ⟨k1,k2,by simp [yI]⟩
      · exact ⟨h8,h4.lt _ hfb,by simp [yI]⟩
    · rcases hx with hx | ⟨rfl,rfl⟩
      · exact .inl hx
      · rcases h7 _ hfb with k | k
        · exact .inr (.inl k)
        · simp [yI] at k
    · refine CL.sz (ty:=ty) (cs:=cs) ⟨hcl.1,fun i a hi=>⟨(hcl.2 i a hi).1,hR (hcl.2 i a hi).2⟩⟩ rfl hm ⟨.inr ⟨rfl,rfl⟩,fun k' hb=>(h4.z b k' hb).2.2 hfb,rfl⟩
def bUu (clone size:Nat):XC:=.seq (.region [⟨some 4,none,.mv (.k (.slice none 0 0))⟩])
  (.seq (.region [⟨some 6, none, .mv (.t 0)⟩, ⟨some 7, none, .call clone [(.t 6)]⟩, ⟨some 0, none, .mv (.t 7)⟩])
  (.seq (.seq (.region [⟨some 8, none, .mv (.t 0)⟩, ⟨some 9, none, .len false (.t 8)⟩, ⟨some 10, none, .mv (.k (.int .i64 0))⟩])
  (.block 0 (.loop (.seq (.region [⟨some 11, none, .bin .lss (.t 10) (.t 9)⟩])
  (.seq (.cond (.t 11) .skip (.exit 0))
  (.seq (.block 1 (.seq (.region [⟨some 12, none, .mv (.t 10)⟩, ⟨some 5, none, .mv (.t 12)⟩])
  (.region [⟨some 13,none,.mv (.t 1)⟩,⟨some 14,none,.mv (.t 0)⟩,⟨some 15,none,.mv (.t 5)⟩,⟨some 16,none,.iad size (.t 14) (.t 15)⟩,⟨some 17,none,.callv (.t 13) [(.t 16)]⟩])))
  (.region [⟨some 18,none,.bin .add (.t 10) (.k (.int .i64 1))⟩,⟨some 10,none,.mv (.t 18)⟩])))))))
  (.seq (.region [⟨some 19,none,.mv (.t 0)⟩,⟨some 4,none,.mv (.t 19)⟩]) .ret)))
open Go.RowKit
open Go.Eng (Od need jX jF oH binV binBV pG)
section
variable {call:jO} {B:sY} {fs:Sf} {l:List I} {Q:Sf→Prop} {d:Nat} {U:dE} {G pre:List HA}
theorem bIz {H H':List HA} (h:H.Perm H'):(yI H).Perm (yI H'):=by
 induction h with
 | nil=>exact .refl _
 | cons a _ ih=>rw [kY,kY];exact ih.append_left _
 | swap a b l=>rw [kY,kY,kY,kY,← List.append_assoc,← List.append_assoc];exact List.perm_append_comm.append_right _
 | trans _ _ h1 h2=>exact h1.trans h2
theorem bLs {H':List HA} (hp:fs.H.Perm H') (hw:FL call B l (fs.heap H') Q):FL call B l fs Q:=fun st r=>by
 have hf:=bIz hp
 refine hw st ⟨r.env,⟨fun b k hb=>?_,fun a ha=>r.hold.h a (hp.mem_iff.2 ha),fun b hb=>r.hold.lt b (hf.mem_iff.2 hb),hf.nodup r.hold.nd⟩,r.le,r.old,fun b hb=>r.own b (hf.mem_iff.2 hb),r.zle,r.zin⟩
 obtain ⟨h1,h2,h3⟩:=r.hold.z b k hb
 exact ⟨h1,h2,fun h=>h3 (hf.mem_iff.2 h)⟩
end
open Go.RowKit
open Go.Eng (Od need jX jF oH binV binBV pG V4)
open Go.Num (mU dX)
abbrev eW (x:UInt32):Value:=.int .u32 (x.toNat:Nat)
abbrev eN (n:Nat):Value:=.int .i64 (n:Nat)
def RE {α:Type} (e:α→Value):RT α:=fun _ cs a=>cs=[.v (e a)]
abbrev RW:RT UInt32:=RE eW
abbrev RN:RT Nat:=RE eN
instance:RMono (RE eW):=⟨fun _ h=>h⟩
instance:RMono (RE eN):=⟨fun _ h=>h⟩
def cE {α:Type} (e:α→Value) (l:List α):List C:=l.map fun a=>.v (e a)
section
variable {α:Type} {e:α→Value} {l:List α}
theorem aJc:(cE e l).length=l.length:=by simp [cE]
theorem aTT {a:α} {j:Nat} (h:l[j]? = some a):(cE e l)[j]? = some (.v (e a)):=by simp [cE,h]
theorem bGZ {j:Nat} {a:α} (h:j<l.length):oH (cE e l) j [.v (e a)]=cE e (l.set j a):=by
 rw [V4,List.set_eq_take_append_cons_drop,if_pos h]
 simp [cE,List.map_take,List.map_drop]
theorem bId (n:Nat) (a:α):Vt n [.v (e a)]=cE e (List.replicate n a):=by
 induction n with
 | zero=>rfl
 | succ n ih=>rw [Vt,ih,List.replicate_succ];rfl
theorem aY9 {r:List α}:cE e l++cE e r=cE e (l++r):=by simp [cE]
theorem Ls {z:dE}:CL 1 (RE e) z (cE e l) l:=by
 refine ⟨by rw [aJc,Nat.mul_one],fun i a h=>?_⟩
 have hlt:=(List.getElem?_eq_some_iff.1 h).1
 have:((cE e l).drop (i * 1)).take 1=[.v (e a)]:=by
  apply List.ext_getElem?
  intro q
  cases q with
  | zero=>rw [List.getElem?_take,if_pos (by omega),List.getElem?_drop,Nat.mul_one,Nat.add_zero,aTT h];rfl
  | succ q=>rw [List.getElem?_eq_none (by rw [List.length_take];omega),List.getElem?_eq_none (by simp)]
 rw [this]
 exact ⟨rfl,rfl⟩
end
abbrev It {α:Type} (e:α→Value) (u:AV) (ty:Nat) (l:List α):HA:=.row u ty 1 l.length (cE e l)
abbrev Ib {α:Type} (e:α→Value) (b:Nat) (ty:Nat) (l:List α):HA:=.blk b (.cells ty (cE e l))
def PE (z:dE) (p:AV) (w:Value):Prop:=∃ b o,p=.c (.ptr b o)∧At z b o [.v w]
theorem aYT {r:List UInt32} {j:Nat} (h:j<r.length):eW r[j]=.int .u32 (mU r j:Nat):=by
 simp [eW,mU,List.getD_eq_getElem?_getD,List.getElem?_eq_getElem h]
theorem aZ0 {r:List Nat} {j:Nat} (h:j<r.length):eN r[j]=.int .i64 (dX r j:Nat):=by
 simp [eN,dX,List.getD_eq_getElem?_getD,List.getElem?_eq_getElem h]
section
variable {call:jO} {B:sY} {fs:Sf} {l:List I} {Q:Sf→Prop} {d:Nat}
theorem Tv {α:Type} {size n:Nat} {R:RT α} {zz:dE} {x:Od} {v:AV} {r:List α} (hx:fs.ev x=v) (hr:SZ size R zz v r) (hn:r.length=n) (hw:FL call B l (fs.put d (.c (.v (.int .i64 (n:Nat))))) Q):FL call B (⟨some d,none,.len false x⟩::l) fs Q:=aFy hx (by rw [← hn];exact hr.len) hw
theorem aZ7 {α:Type} {e:α→Value} {zz:dE} {x i:Od} {v:AV} {r:List α} {kd:IntKind} {z:Int} (hx:fs.ev x=v) (hi:fs.ev i=.c (.v (.int kd z))) (hr:SZ 1 (RE e) zz v r) (j:Nat) (hj:z=(j:Int)) (h:j<r.length)
  (hw:∀ p,PE zz p (e r[j])→FL call B l (fs.put d p) Q):FL call B (⟨some d,none,.iad 1 x i⟩::l) fs Q:=
 dH hx hi hr j hj r[j] (List.getElem?_eq_getElem h) fun b p cs ha hR=>hw _ ⟨b,p,rfl,by rw [← hR];exact ha⟩
theorem rS {zz:dE} {x i:Od} {v:AV} {r:List UInt32} {kd:IntKind} {z:Int} (hx:fs.ev x=v) (hi:fs.ev i=.c (.v (.int kd z))) (hr:SZ 1 RW zz v r) (j:Nat) (hj:z=(j:Int)) (h:j<r.length)
  (hw:∀ p,PE zz p (.int .u32 (mU r j:Nat))→FL call B l (fs.put d p) Q):FL call B (⟨some d,none,.iad 1 x i⟩::l) fs Q:=aZ7 hx hi hr j hj h (by rw [aYT h];exact hw)
theorem wC {zz:dE} {x i:Od} {v:AV} {r:List Nat} {kd:IntKind} {z:Int} (hx:fs.ev x=v) (hi:fs.ev i=.c (.v (.int kd z))) (hr:SZ 1 RN zz v r) (j:Nat) (hj:z=(j:Int)) (h:j<r.length)
  (hw:∀ p,PE zz p (.int .i64 (dX r j:Nat))→FL call B l (fs.put d p) Q):FL call B (⟨some d,none,.iad 1 x i⟩::l) fs Q:=aZ7 hx hi hr j hj h (by rw [aZ0 h];exact hw)
theorem wF {x:Od} {p:AV} {w:Value} (hx:fs.ev x=p) (hp:PE fs.z p w) (hw:FL call B l (fs.put d (.c (.v w))) Q):FL call B (⟨some d,none,.load false 1 x⟩::l) fs Q:=by
 obtain ⟨b,o,rfl,h⟩:=hp
 exact oP (off:=0) hx h rfl (by simp) rfl hw
theorem aMd {x:Od} {b p ty:Nat} {r:List UInt32} (j:Nat) (hx:fs.ev x=.c (.ptr b p)) (hm:Ib eW b ty r∈fs.H) (hj:p=j) (h:j<r.length) (hw:FL call B l (fs.put d (.c (.v (.int .u32 (mU r j:Nat))))) Q):FL call B (⟨some d,none,.load false 1 x⟩::l) fs Q:=fun st rf =>
 aVG ((rf.ev x).trans hx) (rf.hold.h _ hm) (by rw [hj,aTT (List.getElem?_eq_getElem h),aYT h]) (hw _ (rf.put _ _))
theorem aV5 {x:Od} {b p ty:Nat} {r:List Nat} (j:Nat) (hx:fs.ev x=.c (.ptr b p)) (hm:Ib eN b ty r∈fs.H) (hj:p=j) (h:j<r.length) (hw:FL call B l (fs.put d (.c (.v (.int .i64 (dX r j:Nat))))) Q):FL call B (⟨some d,none,.load false 1 x⟩::l) fs Q:=fun st rf =>
 aVG ((rf.ev x).trans hx) (rf.hold.h _ hm) (by rw [hj,aTT (List.getElem?_eq_getElem h),aZ0 h]) (hw _ (rf.put _ _))
theorem F8 {x y:Od} {b p ty:Nat} {r:List UInt32} {z:Int} {H':List HA} (j n:Nat) (hx:fs.ev x=.c (.ptr b p)) (hy:fs.ev y=.c (.v (.int .u32 z))) (hr:Hy fs.H (Ib eW b ty r) (Ib eW b ty (r.set j (UInt32.ofNat n))) H') (hz:z=(n:Int)) (hn:n<4294967296) (hp:p=j) (hj:j<r.length)
  (hw:FL call B l (fs.heap H') Q):FL call B (⟨none,none,.store 1 x y⟩::l) fs Q:=by
 subst hz hp
 refine aVa (ds:=[.v (eW (UInt32.ofNat n))]) hx hy ?_ (by rw [bGZ hj];exact hr) rfl (by rw [aJc];omega) hw
 rw [eW,Go.Num.ofNat_toNat hn]
 rfl
theorem aVq {x y:Od} {b p ty:Nat} {r:List Nat} {z:Int} {H':List HA} (j n:Nat) (hx:fs.ev x=.c (.ptr b p)) (hy:fs.ev y=.c (.v (.int .i64 z))) (hr:Hy fs.H (Ib eN b ty r) (Ib eN b ty (r.set j n)) H') (hz:z=(n:Int)) (hp:p=j) (hj:j<r.length)
  (hw:FL call B l (fs.heap H') Q):FL call B (⟨none,none,.store 1 x y⟩::l) fs Q:=by
 subst hz hp
 exact aVa (ds:=[.v (eN n)]) hx hy rfl (by rw [bGZ hj];exact hr) rfl (by rw [aJc];omega) hw
theorem aTM {ty bytes n:Nat} {lo c:Od} {kd kd':IntKind} {z:Int} (hl:fs.ev lo=.c (.v (.int kd z))) (hc:fs.ev c=.c (.v (.int kd' z))) (hz:z=(n:Int)) (h:n * bytes≤140737488355328) (hn:n≤9223372036854775807)
    (hw:∀ b,FL call B l (fs.own d (.c (.sl b 0 n 1)) (Ib eW b ty (List.replicate n 0))) Q):FL call B (⟨some d,none,.mksl ty 1 bytes [.int .u32 0] lo c⟩::l) fs Q:=
  aRH (w := fun b => .c (.sl b 0 n 1)) (fun _ => rfl) (fun _ => rfl) (fun st r => by
    simp only [eE,r.ev,hl,hc,AV.int?,hz]
    rw [jX ⟨by omega,by omega,bMc.2 h,by omega⟩]
    rw [← bId];rfl) hw
theorem bFs {ty bytes n:Nat} {lo c:Od} {kd kd':IntKind} {z:Int} (hl:fs.ev lo=.c (.v (.int kd z))) (hc:fs.ev c=.c (.v (.int kd' z))) (hz:z=(n:Int)) (h:n * bytes≤140737488355328) (hn:n≤9223372036854775807)
    (hw:∀ b,FL call B l (fs.own d (.c (.sl b 0 n 1)) (Ib eN b ty (List.replicate n 0))) Q):FL call B (⟨some d,none,.mksl ty 1 bytes [.int .i64 0] lo c⟩::l) fs Q:=
  aRH (w := fun b => .c (.sl b 0 n 1)) (fun _ => rfl) (fun _ => rfl) (fun st r => by
    simp only [eE,r.ev,hl,hc,AV.int?,hz]
    rw [jX ⟨by omega,by omega,bMc.2 h,by omega⟩]
    rw [← bId];rfl) hw
theorem aC4 {α:Type} {e:α→Value} {d1 ty ty' bytes:Nat} {zero zero':List Value} {x y:Od} {u:AV} {r:List α} {w:Value} {a:α} {H':AV→List HA} (hy:fs.ev y=.c (.v w)) (hw0:w=e a) (hz:(Vt 1 (zero.map fun v=>C.v v)).length=1)
    (hx:∀ b,(fs.own d1 (.c (.sl b 0 1 1)) (.blk b (.cells ty [.v w]))).ev x=u) (hr:∀ u',Hy fs.H (It e u ty' r) (It e u' ty' (r++[a])) (H' u')) (hb:(r.length+1) * bytes≤140737488355328) (hn:r.length+1≤9223372036854775807)
    (hw:∀ b (c:C),qV c c=true→FL call B l ⟨aE6 (aE6 fs.e d1 (.c (.sl b 0 1 1))) d (.c c),fs.z,.blk b (.cells ty [.v w])::H' (.c c)⟩ Q) :
    FL call B (⟨some d1,none,.bslice ty 1 1 zero [(0,y)]⟩::⟨some d,none,.app ty' 1 bytes zero' x (.t d1)⟩::l) fs Q:=by
  subst hw0
  refine kO (cs:=[.v (e a)]) ?_ fun b=>?_
  · obtain ⟨c, hc⟩ := List.length_eq_one_iff.1 hz
    rw [hc]
    simp only [aEP,hy,AV.cells?]
    rfl
  · refine uQ (m := 1) (cs := cE e r) (news := [.v (e a)]) (b := b) (H' := fun u' => .blk b (.cells ty [.v (e a)]) :: H' u') (hx b) (by show aE6 fs.e d1 _ d1 = _; rw [aTO, if_pos rfl]) mem0 rfl (fun u' => D5 ?_) hb hn fun c hc => hw b c hc
    have:Hy fs.H (It e u ty' r) (.row u' ty' 1 (r++[a]).length (cE e (r++[a]))) (H' u'):=hr u'
    rw [show cE e (r++[a])=cE e r++[.v (e a)] from aY9.symm,show (r++[a]).length=r.length+1 by simp] at this
    exact this
def aVz (fs:Sf) (o:Option Od) (dflt i:Nat):Prop:=match o with
 | none=>i=dflt
 | some x=>∃ k,fs.ev x=.c (.v (.int k (i:Nat)))
theorem aOC {st:AS} (rf:Rf B fs st) {o:Option Od} {dflt i:Nat} (h:aVz fs o dflt i):bnd st o dflt=some (i:Int):=by
 cases o with
 | none=>simp only [aVz] at h;subst h;rfl
 | some x =>
  obtain ⟨k,h⟩:=h
  simp only [bnd,rf.ev,h]
  rfl
def aVL (v:AV) (i j:Nat):AV:=match v with
 | .c (.sl b o n s)=>if i=0 then .c (.sl b o j s) else if i<n then .c (.sl b (o+i * s) (j - i) s) else .c .em
 | v=>v
theorem SZ.sub {α:Type} {size:Nat} {R:RT α} {zz:dE} {v:AV} {r:List α} (h:SZ size R zz v r) {i j:Nat} (hij:i≤j) (hj:j≤r.length):SZ size R zz (aVL v i j) ((r.take j).drop i):=by
  cases h with
  | nil => simp only [aVL]; have : (([] : List α).take j).drop i = [] := by simp
           rw [this];exact .nil
  | em => simp only [aVL]; have : (([] : List α).take j).drop i = [] := by simp
          rw [this];exact .em
  | sl b o n k full l hl hm hz hk hf h =>
    subst hl
    have Q3:((r.take j).drop i).length=j - i:=by rw [List.length_drop,List.length_take];omega
    have hget:∀ q a,((r.take j).drop i)[q]? = some a→r[i+q]? = some a:=fun q a hq=>by
      rw [List.getElem?_drop,List.getElem?_take] at hq
      split at hq
      · exact hq
      · cases hq
    have hjs:j * size≤r.length * size:=Nat.mul_le_mul_right _ hj
    have his:i * size+(j - i) * size=j * size:=by rw [← Nat.add_mul];congr 1;omega
    have key:SZ size R zz (.c (.sl b (o+i * size) (j - i) size)) ((r.take j).drop i):=by
      refine .sl b _ _ k full _ Q3 (by omega) hz hk (by omega) fun q a hq=>?_
      have:=h (i+q) a (hget q a hq)
      rw [Nat.add_mul] at this
      rw [Nat.add_assoc]
      exact this
    simp only [aVL]
    by_cases h0:i=0
    · subst h0
      rw [if_pos rfl]
      simpa using key
    · rw [if_neg h0]
      by_cases h1:i<r.length
      · rw [if_pos h1];exact key
      · rw [if_neg h1]
        have e:(r.take j).drop i=[]:=List.eq_nil_of_length_eq_zero (by omega)
        rw [e];exact .em
theorem aS6 {α:Type} {size:Nat} {R:RT α} {zz:dE} {r:List α} {x:Od} {lo hi:Option Od} {v:AV} {i j:Nat} (hx:fs.ev x=v) (hr:SZ size R zz v r) (hlo:aVz fs lo 0 i) (hhi:aVz fs hi r.length j) (hij:i≤j) (hj:j≤r.length)
    (hw:FL call B l (fs.put d (aVL v i j)) Q):FL call B (⟨some d,none,.slc size x lo hi⟩::l) fs Q:=
  aIw (fun _ => rfl) (fun st rf => by
    have h1:=aOC rf hlo
    have h2:=aOC rf hhi
    simp only [cP,rf.ev,hx]
    cases hr with
    | nil => simp at hj; subst hj; have : i = 0 := by omega
             subst this;simp only [h1,List.length_nil] at h2 ⊢;simp only [h2];rfl
    | em => simp at hj; subst hj; have : i = 0 := by omega
            subst this;simp only [h1,List.length_nil] at h2 ⊢;simp only [h2];rfl
    | sl b o n k full _ hl hm hz hk hf h =>
      subst hl
      simp only [h1,h2]
      rw [jX (by refine ⟨?_,?_,?_,?_⟩<;>first | trivial | omega)]
      simp only [aVL,Int.toNat_natCast]
      congr 1
      by_cases h0:i=0
      · subst h0;simp
      · rw [if_neg (by omega), if_neg h0]
        by_cases h3:i<r.length
        · rw [if_pos (by omega),if_pos h3]
        · rw [if_neg (by omega),if_neg h3]) hw
theorem bKQ {size b o n:Nat} {x:Od} {lo hi:Option Od} {i j:Nat} (hx:fs.ev x=.c (.sl b o n size)) (hlo:aVz fs lo 0 i) (hhi:aVz fs hi n j) (hij:i≤j) (hj:j≤n) (hin:i<n)
    (hw:FL call B l (fs.put d (.c (.sl b (o+i * size) (j - i) size))) Q):FL call B (⟨some d,none,.slc size x lo hi⟩::l) fs Q:=
  aIw (fun _ => rfl) (fun st rf => by
    have h1:=aOC rf hlo
    have h2:=aOC rf hhi
    simp only [cP,rf.ev,hx,h1,h2]
    rw [jX (by refine ⟨?_,?_,?_,?_⟩<;>first | trivial | omega)]
    simp only [Int.toNat_natCast]
    congr 1
    by_cases h0:i=0
    · subst h0;simp
    · rw [if_neg (by omega),if_pos (by omega)]) hw
theorem bII {x i:Od} {s:ByteArray} {kd:IntKind} {z:Int} (hx:fs.ev x=.c (.v (.string s))) (hi:fs.ev i=.c (.v (.int kd z))) (j:Nat) (hj:z=(j:Int)) (h:j<s.size) (hw:FL call B l (fs.put d (.c (.v (.int .u8 ((Go.Eng.bget s j).toNat:Nat))))) Q):FL call B (⟨some d,none,.ixs x i⟩::l) fs Q:=
  aIw (fun _ => rfl) (fun st rf => by
    subst hj
    simp only [cP,rf.ev,hx,hi,AV.val?,AV.int?]
    rw [jX ⟨by omega,by omega⟩,Int.toNat_natCast]
    rfl) hw
theorem bQ {x:Od} {b o ty:Nat} {cs:List C} {c:C} (hx:fs.ev x=.c (.ptr b o)) (hm:HA.blk b (.cells ty cs)∈fs.H) (h:cs[o]? = some c) (hw:FL call B l (fs.put d (.c c)) Q):FL call B (⟨some d,none,.load false 1 x⟩::l) fs Q:=
 fun st r=>aVG ((r.ev x).trans hx) (r.hold.h _ hm) h (hw _ (r.put _ _))
theorem jB {x:Od} {b o ty:Nat} {cs:List C} {c0 c1:C} (hx:fs.ev x=.c (.ptr b o)) (hm:HA.blk b (.cells ty cs)∈fs.H) (h:(cs.drop o).take 2=[c0,c1]) (hw:FL call B l (fs.put d (.agg [c0,c1])) Q):FL call B (⟨some d,none,.load true 2 x⟩::l) fs Q:=by
 refine mK hx hm ?_ (by rw [h];rfl) hw
 have:=congrArg List.length h
 rw [List.length_take,List.length_drop] at this
 simp at this;omega
theorem kJ {x:Od} {b o ty:Nat} {cs:List C} {c0 c1 c2 c3:C} (hx:fs.ev x=.c (.ptr b o)) (hm:HA.blk b (.cells ty cs)∈fs.H) (h:(cs.drop o).take 4=[c0,c1,c2,c3]) (hw:FL call B l (fs.put d (.agg [c0,c1,c2,c3])) Q):FL call B (⟨some d,none,.load true 4 x⟩::l) fs Q:=by
 refine mK hx hm ?_ (by rw [h];rfl) hw
 have:=congrArg List.length h
 rw [List.length_take,List.length_drop] at this
 simp at this;omega
theorem iE {x y:Od} {b ty:Nat} {a0 a1 c0 c1:C} {H':List HA} (hx:fs.ev x=.c (.ptr b 0)) (hy:fs.ev y=.agg [c0,c1]) (hr:Hy fs.H (.blk b (.cells ty [a0,a1])) (.blk b (.cells ty [c0,c1])) H') (hw:FL call B l (fs.heap H') Q):FL call B (⟨none,none,.store 2 x y⟩::l) fs Q:=
 mG hx hy rfl hr rfl rfl (by simp) hw
theorem nN {x y:Od} {b ty:Nat} {a0 a1 a2 a3 c0 c1 c2 c3:C} {H':List HA} (hx:fs.ev x=.c (.ptr b 0)) (hy:fs.ev y=.agg [c0,c1,c2,c3]) (hr:Hy fs.H (.blk b (.cells ty [a0,a1,a2,a3])) (.blk b (.cells ty [c0,c1,c2,c3])) H') (hw:FL call B l (fs.heap H') Q):FL call B (⟨none,none,.store 4 x y⟩::l) fs Q:=
 mG hx hy rfl hr rfl rfl (by simp) hw
theorem nJ {ty:Nat} {v0 v1:Value} (hw:∀ b,FL call B l (fs.own d (.c (.ptr b 0)) (.blk b (.cells ty [.v v0,.v v1]))) Q):FL call B (⟨some d,none,.alloc ty [v0,v1]⟩::l) fs Q:=mR hw
theorem vO {ty:Nat} {v0 v1 v2 v3:Value} (hw:∀ b,FL call B l (fs.own d (.c (.ptr b 0)) (.blk b (.cells ty [.v v0,.v v1,.v v2,.v v3]))) Q):FL call B (⟨some d,none,.alloc ty [v0,v1,v2,v3]⟩::l) fs Q:=mR hw
theorem iJ {ty:Nat} {x:Od} {cs:List C} (hx:fs.ev x=.agg cs) (hw:∀ b,FL call B l (fs.own d (.c (.ptr b 0)) (.blk b (.cells ty cs))) Q):FL call B (⟨some d,none,.box ty x⟩::l) fs Q:=aRp hx rfl hw
theorem iU {zero:List Value} {parts:List (Nat×Nat×Od)} {cs:List C} (h:aTm fs.ev (zero.map fun v=>.v v) parts=some cs) (hw:FL call B l (fs.put d (.agg cs)) Q):FL call B (⟨some d,none,.build zero parts⟩::l) fs Q:=I1 h hw
end
theorem aDI {x:Od} {off:Nat} {cs:List C} {c:C} {call:jO} {B:sY} {fs:Sf} {l:List I} {Q:Sf→Prop} {d:Nat} (hx:fs.ev x=.agg cs) (h:cs[off]? = some c) (hw:FL call B l (fs.put d (.c c)) Q):FL call B (⟨some d,none,.fld false 1 off x⟩::l) fs Q:=by
 have hlt:=(List.getElem?_eq_some_iff.1 h).1
 refine bHw hx (by omega) ?_ hw
 have:(cs.drop off).take 1=[c]:=by
  apply List.ext_getElem?
  intro q
  cases q with
  | zero=>rw [List.getElem?_take,if_pos (by omega),List.getElem?_drop,Nat.add_zero,h];rfl
  | succ q=>rw [List.getElem?_eq_none (by rw [List.length_take];omega),List.getElem?_eq_none (by simp)]
 rw [this];rfl
theorem aM8 {x:Od} {off:Nat} {cs:List C} {c0 c1:C} {call:jO} {B:sY} {fs:Sf} {l:List I} {Q:Sf→Prop} {d:Nat} (hx:fs.ev x=.agg cs) (h:(cs.drop off).take 2=[c0,c1]) (hw:FL call B l (fs.put d (.agg [c0,c1])) Q):FL call B (⟨some d,none,.fld true 2 off x⟩::l) fs Q:=by
 refine bHw hx ?_ (by rw [h];rfl) hw
 have:=congrArg List.length h
 rw [List.length_take,List.length_drop] at this
 simp at this;omega
section
variable {call:jO} {B:sY} {an:List Nat} {j:Nat} {l:List CE.D} {fs:Sf} {T:dE} {tag last:Nat} {pj lj:List Nat} {Q:Sf→Prop} {i:I} {d:Nat} {x:Od} {af:List Nat}
theorem bNH {p:AV} {zz:dE} {k:IntKind} {n:Int} (hi:i.o=.load false 1 x) (hd:i.d=some d) (hg:GK fs i) (hx:fs.ev x=p) (hp:PE zz p (.int k n)) (hz:∀ b k,zz b k→T b k) (hw:FG call B an (j+1) l (fs.put d (.c (.v (.int k n)))) T tag last pj (j::lj) Q):FG call B an j (⟨i,af⟩::l) fs T tag last pj lj Q:=by
 obtain ⟨b,o,rfl,h⟩:=hp
 exact rC (v:=.c (.v (.int k n))) (off:=0) hi hd hg hx h hz rfl (by simp) rfl (by simp [L2,qV,aU3]) hw
theorem bEW {b o ty:Nat} {cs:List C} {c:C} (hi:i.o=.load false 1 x) (hd:i.d=some d) (hg:GK fs i) (hx:fs.ev x=.c (.ptr b o)) (hT:T b (.cells ty cs)) (h:cs[o]? = some c) (hs:L2 (.c c) (.c c)=true) (hw:FG call B an (j+1) l (fs.put d (.c c)) T tag last pj (j::lj) Q):FG call B an j (⟨i,af⟩::l) fs T tag last pj lj Q:=by
 have hlt:=(List.getElem?_eq_some_iff.1 h).1
 have e:(cs.drop o).take 1=[c]:=by
  apply List.ext_getElem?
  intro q
  cases q with
  | zero=>rw [List.getElem?_take,if_pos (by omega),List.getElem?_drop,Nat.add_zero,h];rfl
  | succ q=>rw [List.getElem?_eq_none (by rw [List.length_take];omega),List.getElem?_eq_none (by simp)]
 exact aDQ hi hd hg hx hT rfl (by omega) (by rw [e];rfl) hs hw
theorem bQX {b o ty:Nat} {cs:List C} {c0 c1:C} (hi:i.o=.load true 2 x) (hd:i.d=some d) (hg:GK fs i) (hx:fs.ev x=.c (.ptr b o)) (hT:T b (.cells ty cs)) (h:(cs.drop o).take 2=[c0,c1]) (hs:L2 (.agg [c0,c1]) (.agg [c0,c1])=true) (hw:FG call B an (j+1) l (fs.put d (.agg [c0,c1])) T tag last pj (j::lj) Q):FG call B an j (⟨i,af⟩::l) fs T tag last pj lj Q:=by
 refine aDQ hi hd hg hx hT rfl ?_ (by rw [h];rfl) hs hw
 have:=congrArg List.length h
 rw [List.length_take,List.length_drop] at this
 simp at this;omega
theorem bM9 {b o ty:Nat} {cs:List C} {c0 c1 c2 c3:C} (hi:i.o=.load true 4 x) (hd:i.d=some d) (hg:GK fs i) (hx:fs.ev x=.c (.ptr b o)) (hT:T b (.cells ty cs)) (h:(cs.drop o).take 4=[c0,c1,c2,c3]) (hs:L2 (.agg [c0,c1,c2,c3]) (.agg [c0,c1,c2,c3])=true) (hw:FG call B an (j+1) l (fs.put d (.agg [c0,c1,c2,c3])) T tag last pj (j::lj) Q):FG call B an j (⟨i,af⟩::l) fs T tag last pj lj Q:=by
 refine aDQ hi hd hg hx hT rfl ?_ (by rw [h];rfl) hs hw
 have:=congrArg List.length h
 rw [List.length_take,List.length_drop] at this
 simp at this;omega
theorem aSZ {b p ty:Nat} {r:List UInt32} (q:Nat) (hi:i.o=.load false 1 x) (hd:i.d=some d) (hg:GK fs i) (hx:fs.ev x=.c (.ptr b p)) (hT:T b (.cells ty (cE eW r))) (hq:p=q) (h:q<r.length) (hw:FG call B an (j+1) l (fs.put d (.c (.v (.int .u32 (mU r q:Nat))))) T tag last pj (j::lj) Q):FG call B an j (⟨i,af⟩::l) fs T tag last pj lj Q:=
 bEW hi hd hg hx hT (by rw [hq,aTT (List.getElem?_eq_getElem h),aYT h]) (by simp [L2,qV,aU3]) hw
theorem uW (s:Nat) {P:Prop} [Decidable P] (h:fs.e s=.c (.v (.bool (decide P)))) (h1:P→FG call B an j l (fs.put s (.c (.v (.bool true)))) T tag last pj lj Q) (h2:¬ P→FG call B an j l (fs.put s (.c (.v (.bool false)))) T tag last pj lj Q):FG call B an j l fs T tag last pj lj Q:=Np s h (fun h=>h1 (of_decide_eq_true h)) (fun h=>h2 (of_decide_eq_false h))
theorem bB0 (s:Nat) {P:Prop} [Decidable P] (h:fs.e s=.c (.v (.bool (!decide P)))) (h1:¬ P→FG call B an j l (fs.put s (.c (.v (.bool true)))) T tag last pj lj Q) (h2:P→FG call B an j l (fs.put s (.c (.v (.bool false)))) T tag last pj lj Q):FG call B an j l fs T tag last pj lj Q:=Np s h (fun h=>h1 (by simpa using h)) (fun h=>h2 (by simpa using h))
end
section
variable {call:jO} {B:sY} {fs:Sf}
theorem bAl {α:Type} {size:Nat} {R:RT α} [RMono R] {G:AS→Prop} {u:AV} {ty n:Nat} {cs:List C} {r:List α} {p q:List HA} {z0:dE} (e:fs.H=p++.row u ty size n cs::q) (hz0:zle z0 fs.z) (hc:CL size R (zd z0 fs.z) cs r) (hn:r.length=n) (hm:n≤9223372036854775807)
    (hw:∀ z',zle fs.z z'→SZ size R (zd z0 z') u r→∀ st,Rf B (fs.frz z' (p++q)) st→G st):∀ st,Rf B fs st→G st:=fun st rf=>by
  obtain ⟨g1,g2⟩:=rf.hold.h (.row u ty size n cs) (by rw [e];simp)
  rcases g2 with ⟨h0,rfl⟩ | ⟨b,rfl,h3⟩
  · have hr0 : r = [] := List.eq_nil_of_length_eq_zero (by omega)
    subst hr0
    refine hw fs.z (zle.refl _) .nil st ?_
    have hsub:(p++q).Sublist fs.H:=by rw [e];exact (List.Sublist.refl p).append (List.sublist_cons_self _ _)
    exact ⟨rf.env,rf.hold.sub hsub,rf.le,rf.old,fun b hb=>rf.own b ((N8 hsub).subset hb),rf.zle,rf.zin⟩
  · have h1 := rf.frz (p := p) (q := q) (b := b) (k := .cells ty cs) (a := .row (.c (.sl b 0 n size)) ty size n cs) e rfl (fun m hm => by
      obtain ⟨_,hm⟩:=hm
      rcases hm with ⟨_,hm⟩ | ⟨b',hb',hm⟩
      · cases hm
      · injection hb' with hb';injection hb' with hb';subst hb';exact hm)
    have hnb:∀ k',¬ z0 b k':=fun k' hb=>(rf.hold.z b k' (hz0 b k' hb)).2.2 (by rw [e,nF,kY];simp [HA.fp])
    exact hw _ ⟨fun _ _ h=>.inl h⟩ ((hc.mono (mX ⟨fun _ _ h=>.inl h⟩)).sz hn hm ⟨.inr ⟨rfl,rfl⟩,hnb,rfl⟩) st h1
variable {α:Type} {e:α→Value} [RMono (RE e)]
theorem bJ4 {l:List I} {Q:Sf→Prop} {u:AV} {ty:Nat} {r:List α} {p q:List HA} (z0:dE) (h:fs.H=p++It e u ty r::q) (hz0:zle z0 fs.z) (hm:r.length≤9223372036854775807) (hw:∀ z',zle fs.z z'→SZ 1 (RE e) (zd z0 z') u r→FL call B l (fs.frz z' (p++q)) Q):FL call B l fs Q:=bAl h hz0 Ls rfl hm hw
theorem bJr {l:List I} {Q:Sf→Prop} {b ty n:Nat} {r:List α} {p q:List HA} (z0:dE) (h:fs.H=p++Ib e b ty r::q) (hz0:zle z0 fs.z) (hn:r.length=n) (hm:n≤9223372036854775807) (hw:∀ z',zle fs.z z'→SZ 1 (RE e) (zd z0 z') (.c (.sl b 0 n 1)) r→FL call B l (fs.frz z' (p++q)) Q):FL call B l fs Q:=
 aBB (n:=n) (size:=1) h (by rw [aJc];omega) (bAl (fs:=fs.heap _) (ty:=ty) (p:=p) (q:=q) (cs:=cE e r) rfl hz0 Ls hn hm hw)
end
theorem aWc {call:jO} {B:sY} {fs:Sf} {l:List I} {Q:Sf→Prop} {α:Type} {e:α→Value} {u:AV} {ty:Nat} {r:List α} {p q:List HA} (h:fs.H=p++It e u ty r::q) (hn:0<r.length) (h1:∀ b,u=.c (.sl b 0 r.length 1)→FL call B l (fs.heap (p++Ib e b ty r::q)) Q):FL call B l fs Q:=bLf h hn h1
theorem aP2 {call:jO} {B:sY} {fs:Sf} {l:List I} {Q:Sf→Prop} {α:Type} {e:α→Value} {b ty n:Nat} {r:List α} {p q:List HA} (h:fs.H=p++Ib e b ty r::q) (hn:r.length=n) (hw:FL call B l (fs.heap (p++It e (.c (.sl b 0 n 1)) ty r::q)) Q):FL call B l fs Q:=by
 subst hn
 exact aBB h (by rw [aJc,Nat.mul_one]) hw
def LI (z0:dE) (H:List HA) (ls:List (Nat×AV)) (fs:Sf):Prop:=∃ e z Hx,fs=⟨e,z,Hx++H⟩∧zle z0 z∧AtL e ls
theorem LI.mk {z0 z:dE} {H:List HA} {ls:List (Nat×AV)} {e:Zv} (Hx:List HA) (hz:zle z0 z) (ha:AtL e ls):LI z0 H ls ⟨e,z,Hx++H⟩:=⟨e,z,Hx,rfl,hz,ha⟩
theorem LI.open {call:jO} {k:Nat} {B:sY} {c:XC} {Q:Exit→Sf→Prop} {z0:dE} {H:List HA} {ls:List (Nat×AV)} {fs:Sf} (h:LI z0 H ls fs) (hw:∀ e z,zle z0 z→FX call k B c ⟨aTw e ls,z,H⟩ Q):FX call k B c fs Q:=by
 obtain ⟨e,z,Hx,rfl,hz,ha⟩:=h
 exact A9 ha fun e=>vF (List.sublist_append_right _ _) (hw e z hz)
theorem I7 {call : jO} {k : Nat} {B : sY} {fs : Sf} {Q : Exit → Sf → Prop} {a b : XC} (J : Sf → Prop) (h : FX call k B a fs (bJL J Q)) (g : ∀ fs', J fs' → FX call k B b fs' Q) : FX call k B (.seq a b) fs Q := aT (bJG h fun e fs' q => by
  cases e with
  | normal=>exact g fs' q
  | _=>exact q)
theorem bL9 {α:Type} {e:α→Value} {z:dE} {cs:List C} {l:List α} (h:CL 1 (RE e) z cs l):cs=cE e l:=by
 apply List.ext_getElem?
 intro i
 rcases Nat.lt_or_ge i l.length with hi | hi
 ·have h1:=(h.2 i l[i] (List.getElem?_eq_getElem hi)).2
  have h2:((cs.drop (i * 1)).take 1)[0]? = cs[i]?:=by rw [List.getElem?_take,if_pos (by omega),List.getElem?_drop,Nat.mul_one,Nat.add_zero]
  rw [← h2,show (cs.drop (i * 1)).take 1=[.v (e l[i])] from h1,aTT (List.getElem?_eq_getElem hi)]
  rfl
 rw [List.getElem?_eq_none (by rw [h.1];omega),List.getElem?_eq_none (by rw [aJc];exact hi)]
theorem rc2 {fs:Sf} {i b ty:Nat} {c0 c1:C} {rs:List RR} {vs:List AV} (hp:fs.e i=.c (.ptr b 0)) (hm:HA.blk b (.cells ty [c0,c1])∈fs.H) (t:Xr fs rs vs):Xr fs (.c i true 2::rs) (.agg [c0,c1]::vs):=rc hp hm (by simp) rfl t
theorem rc4 {fs:Sf} {i b ty:Nat} {c0 c1 c2 c3:C} {rs:List RR} {vs:List AV} (hp:fs.e i=.c (.ptr b 0)) (hm:HA.blk b (.cells ty [c0,c1,c2,c3])∈fs.H) (t:Xr fs rs vs):Xr fs (.c i true 4::rs) (.agg [c0,c1,c2,c3]::vs):=rc hp hm (by simp) rfl t
theorem wI {z:Int} {n:Nat} (h:z=n) (h2:n<9223372036854775808):IntKind.i64.wrap z=n:=by rw [h];exact wR ⟨by omega,by omega⟩
theorem wQ {z:Int} {n:Nat} (h:z=n) (h2:n<18446744073709551616):IntKind.u64.wrap z=n:=by rw [h];exact bXL ⟨by omega,by omega⟩
theorem wD {z:Int} {n:Nat} (h:z=n) (h2:n<4294967296):IntKind.u32.wrap z=n:=by rw [h];exact bUg ⟨by omega,by omega⟩
theorem wDm (n:Nat):IntKind.u32.wrap (n:Int)=((n % 4294967296:Nat):Int):=by rw [bH0];omega
theorem eP {a b:Int} {n:Nat} (h:a+b=n) (h2:n<9223372036854775808):pR .add (.int .i64 a) (.int .i64 b)=some (.int .i64 n):=uF (wI h h2)
theorem Dx {a b:Int} {n:Nat} (h:a - b=n) (h2:n<9223372036854775808):pR .sub (.int .i64 a) (.int .i64 b)=some (.int .i64 n):=zH (wI h h2)
theorem aZp {a b:Int} {n:Nat} (h:a * b=n) (h2:n<9223372036854775808):pR .mul (.int .i64 a) (.int .i64 b)=some (.int .i64 n):=aYV (wI h h2)
theorem aKK {a b:Int} {n:Nat} (h:a+b=n) (h2:n<18446744073709551616):pR .add (.int .u64 a) (.int .u64 b)=some (.int .u64 n):=uF (wQ h h2)
theorem aY5 {a b:Int} {n:Nat} (h:a - b=n) (h2:n<18446744073709551616):pR .sub (.int .u64 a) (.int .u64 b)=some (.int .u64 n):=zH (wQ h h2)
theorem aVT {a b:Int} {n:Nat} (h:a * b=n) (h2:n<18446744073709551616):pR .mul (.int .u64 a) (.int .u64 b)=some (.int .u64 n):=aYV (wQ h h2)
theorem bFP {a b:Int} {n:Nat} (h:a+b=n) (h2:n<4294967296):pR .add (.int .u32 a) (.int .u32 b)=some (.int .u32 n):=uF (wD h h2)
theorem bHv {a b n:Nat} (hb:0<b) (h:a / b=n) (ha:a<9223372036854775808):pR .quo (.int .i64 a) (.int .i64 b)=some (.int .i64 n):=aTp (by omega) (by omega) (wI (by rw [← h,Int.natCast_ediv]) (by have:=Nat.div_le_self a b;omega))
theorem bIg {a b n:Nat} (hb:0<b) (h:a % b=n):pR .rem (.int .i64 a) (.int .i64 b)=some (.int .i64 n):=aTV (by omega) (by omega) (by rw [← h,Int.natCast_emod])
theorem bEg {a b n:Nat} (hb:0<b) (h:a / b=n) (ha:a<18446744073709551616):pR .quo (.int .u64 a) (.int .u64 b)=some (.int .u64 n):=aTp (by omega) (by omega) (wQ (by rw [← h,Int.natCast_ediv]) (by have:=Nat.div_le_self a b;omega))
theorem bGe {a b n:Nat} (hb:0<b) (h:a % b=n):pR .rem (.int .u64 a) (.int .u64 b)=some (.int .u64 n):=aTV (by omega) (by omega) (by rw [← h,Int.natCast_emod])
theorem aN9 {k kb:IntKind} {a s n:Nat} (hs:s≤k.bits) (h:a / 2 ^ s=n):pR .shr (.int k a) (.int kb s)=some (.int k n):=by
 subst h
 simp only [pR,binV]
 rw [jX (by omega),Int.toNat_natCast,Nat.min_eq_left hs,Int.fdiv_eq_ediv_of_nonneg _ (by exact Int.pow_nonneg (by omega))]
 have:((a / 2 ^ s:Nat):Int)=(a:Int) / 2 ^ s:=by simp
 rw [this]
theorem bMb {k kb:IntKind} {a s n:Nat} (hs:s≤k.bits) (h:k.wrap ((a * 2 ^ s:Nat):Int)=n):pR .shl (.int k a) (.int kb s)=some (.int k n):=by
 simp only [pR,binV]
 rw [jX (by omega),Int.toNat_natCast,Nat.min_eq_left hs,← h]
 simp
theorem bKR {k:IntKind} {a b:Nat} (ha:a<2 ^ k.bits) (hb:b<2 ^ k.bits):(BitVec.ofInt k.bits (a:Int) &&& BitVec.ofInt k.bits (b:Int)).toNat=a &&& b:=by
 rw [BitVec.toNat_and,BitVec.toNat_ofInt,BitVec.toNat_ofInt,Int.emod_eq_of_lt (by omega) (by exact_mod_cast ha),Int.emod_eq_of_lt (by omega) (by exact_mod_cast hb)]
 simp
theorem bDF {k:IntKind} {a b:Nat} (ha:a<2 ^ k.bits) (hb:b<2 ^ k.bits):(BitVec.ofInt k.bits (a:Int) ||| BitVec.ofInt k.bits (b:Int)).toNat=a ||| b:=by
 rw [BitVec.toNat_or,BitVec.toNat_ofInt,BitVec.toNat_ofInt,Int.emod_eq_of_lt (by omega) (by exact_mod_cast ha),Int.emod_eq_of_lt (by omega) (by exact_mod_cast hb)]
 simp
theorem bKZ {k:IntKind} {a b:Nat} (ha:a<2 ^ k.bits) (hb:b<2 ^ k.bits):(BitVec.ofInt k.bits (a:Int) ^^^ BitVec.ofInt k.bits (b:Int)).toNat=a ^^^ b:=by
 rw [BitVec.toNat_xor,BitVec.toNat_ofInt,BitVec.toNat_ofInt,Int.emod_eq_of_lt (by omega) (by exact_mod_cast ha),Int.emod_eq_of_lt (by omega) (by exact_mod_cast hb)]
 simp
theorem bFT {a b n:Nat} (ha:a<18446744073709551616) (hb:b<18446744073709551616) (h:a ||| b=n):pR .or (.int .u64 a) (.int .u64 b)=some (.int .u64 n):=by
 have h2:a ||| b<2 ^ 64:=Nat.or_lt_two_pow ha hb
 simp only [pR,binV]
 rw [jX trivial,bDF (k:=.u64) ha hb,wQ (n:=n) (by rw [h]) (by omega)]
theorem bGF {a b n:Nat} (ha:a<4294967296) (hb:b<4294967296) (h:a &&& b=n):pR .and (.int .u32 a) (.int .u32 b)=some (.int .u32 n):=by
 have h2:a &&& b<2 ^ 32:=Nat.and_lt_two_pow _ hb
 simp only [pR,binV]
 rw [jX trivial,bKR (k:=.u32) ha hb,wD (n:=n) (by rw [h]) (by omega)]
theorem bRY {a b n:Nat} (ha:a<4294967296) (hb:b<4294967296) (h:a ||| b=n):pR .or (.int .u32 a) (.int .u32 b)=some (.int .u32 n):=by
 have h2:a ||| b<2 ^ 32:=Nat.or_lt_two_pow ha hb
 simp only [pR,binV]
 rw [jX trivial,bDF (k:=.u32) ha hb,wD (n:=n) (by rw [h]) (by omega)]
theorem bNd {a b n:Nat} (ha:a<4294967296) (hb:b<4294967296) (h:a ^^^ b=n):pR .xor (.int .u32 a) (.int .u32 b)=some (.int .u32 n):=by
 have h2:a ^^^ b<2 ^ 32:=Nat.xor_lt_two_pow ha hb
 simp only [pR,binV]
 rw [jX trivial,bKZ (k:=.u32) ha hb,wD (n:=n) (by rw [h]) (by omega)]
theorem bHk {a n:Nat} (ha:a<4294967296) (h:4294967295 - a=n):unW .xor (.int .u32 a)=some (.int .u32 n):=by
 have e:(BitVec.ofInt 32 (4294967295:Int) ^^^ BitVec.ofInt 32 (a:Int)).toNat=4294967295 - a:=by
  rw [show BitVec.ofInt 32 (4294967295:Int)=BitVec.allOnes 32 by decide,BitVec.allOnes_xor,BitVec.toNat_not,BitVec.toNat_ofInt]
  omega
 show some (Value.int .u32 (IntKind.u32.wrap (((BitVec.ofInt 32 (4294967295:Int) ^^^ BitVec.ofInt 32 (a:Int)).toNat:Nat):Int)))=_
 rw [e,wD (n:=n) (by rw [h]) (by omega)]
theorem aYi {k:IntKind} {z r:Int} (h:k.wrap (0 - z)=r):unW .neg (.int k z)=some (.int k r):=by
 simp only [unW,Go.Eng.unV,h]
open Go.RowKit
open Go.Eng (callable Od)
def aHc (g ty:Nat) (h0:jO):jO:=fun f args mem nx=>match Nat.beq f g with
 | true=>match args with
  | [.c (.v (.slice none 0 0)),.c (.v (.int .i64 n))]=>match decide (0<n) && decide (n≤35184372088832) with
   | true=>some (.c (.sl nx 0 0 1),Tr.put (nx+1) mem nx (some (.cells ty [])),nx+1)
   | false=>none
  | _=>none
 | false=>h0 f args mem nx
def aWR (P:Program) (g ty:Nat):Prop:=∀ (n:Nat) (w:World),0<n→n≤35184372088832 →
 Calls P g #[.slice none 0 0,.int .i64 n] w fun e w'=>∃ cap cur,e=.returned (.slice (some ⟨w.heap.size,0,none⟩) 0 cap)∧cap≤maxLen∧cur.size=cap∧w'=w.drew.alloc (.cells cur ty)
theorem bCI {P:Program} {g ty:Nat} {h0:jO} (hg:callable P g=true) (hG:aWR P g ty) (hh:Bd P h0):Bd P (aHc g ty h0):=by
 intro f args mem nx res mem' nx' h
 unfold aHc at h
 split at h
 case h_2=>exact hh _ _ _ _ _ _ _ h
 rename_i hf
 have:=Nat.eq_of_beq_eq_true hf
 subst this
 split at h
 case h_2=>cases h
 rename_i z
 split at h
 case h_2=>cases h
 rename_i hz
 simp only [Bool.and_eq_true,decide_eq_true_eq] at hz
 simp only [Option.some.injEq,Prod.mk.injEq] at h
 obtain ⟨rfl,rfl,rfl⟩:=h
 obtain ⟨n,rfl⟩:∃ n:Nat,z=(n:Int):=⟨z.toNat,by omega⟩
 refine ⟨⟨by omega,fun b k' hb=>?_,fun b k hb hr=>?_⟩,fun K w0 ρ w vs hms hfree hl hrep=>.inl ⟨hg,?_⟩⟩
 ·rcases I4 (nx:=nx) (mem:=mem) b k' hb with ⟨rfl,_⟩ | ⟨_,h⟩
  ·exact .inr ⟨Nat.le_refl _,by omega⟩
  exact .inl ⟨k',h⟩
 ·rcases I4 (nx:=nx) (mem:=mem) b k hb with ⟨_,rfl⟩ | ⟨_,h⟩
  ·cases hr
  exact h
 have hvs:vs = #[.slice none 0 0,.int .i64 n]:=by
  have h0:=hrep 0 _ rfl
  have h1:=hrep 1 _ rfl
  have hsz:vs.size=2:=hl
  have e0:vs.getD 0 undef=.slice none 0 0:=by
   generalize vs.getD 0 undef=x at h0
   cases h0 with
   | c _ _ h0=>cases h0 with
    | v _ _=>rfl
  have e1:vs.getD 1 undef=.int .i64 n:=by
   generalize vs.getD 1 undef=x at h1
   cases h1 with
   | c _ _ h1=>cases h1 with
    | v _ _=>rfl
  apply Array.ext
  ·simpa using hsz
  intro i hi1 hi2
  have hi:i=0∨i=1:=by simp at hi2;omega
  rcases hi with rfl | rfl
  ·simp [Array.getD,hsz] at e0;simpa using e0
  simp [Array.getD,hsz] at e1;simpa using e1
 subst hvs
 refine (hG n w (by omega) (by omega)).mono fun e w' hq=>?_
 obtain ⟨cap,cur,rfl,hcap,hcur,rfl⟩:=hq
 have hn:ρ nx=none:=hfree nx (Nat.le_refl _) (by omega)
 have hgr:=He hn ⟨w.heap.size,0,cur.size⟩
 refine ⟨_,_,rfl,hgr,hms.new hn (w':=w.drew.alloc (.cells cur ty)) (.cells ty []) ⟨w.heap.size,0,cur.size⟩ (.cells ty [] cur (heap_alloc_new w.drew _) rfl (by simp) fun i c hc=>by simp at hc) ⟨Nat.le_refl _,by simp⟩ rfl rfl rfl (by simp) (fun b hb=>heap_alloc_old w.drew _ hb) I4,?_⟩
 refine .c _ _ (nK.sl (ρ:=upd ρ nx ⟨w.heap.size,0,cur.size⟩) nx 0 0 1 cap ⟨w.heap.size,0,cur.size⟩ (rA _ _ _) (by show 0+0+cap * 1≤cur.size;omega) (Nat.zero_le _) hcap)
theorem bJq {T:Tr FE} {g ty k0 k n:Nat} {h0:jO} (hT:T.get g=none) (hk:1≤k) {z:dE} (h1:0<n) (h2:n≤35184372088832):FCt (evF T (aHc g ty h0) k0 k) g [C4,.c (.v (.int .i64 (n:Nat)))] z [] fun v _ H'=>H'=[It eW v ty []]:=fun mem nx hh=>by
  obtain ⟨j,rfl⟩:∃ j,k=j+1:=⟨k - 1,by omega⟩
  have r0:Rf ⟨mem,nx,z,[]⟩ ⟨fun _=>.any,z,[]⟩ ⟨.nil,mem,nx⟩:=⟨fun i=>by simp [AS.get,Tr.get_nil],hh,Nat.le_refl _,fun b _ _=>rfl,fun b hb=>by simp [yI] at hb,⟨fun _ _ h=>h⟩,fun b k hb=>.inl hb⟩
  have r1 := r0.new (a := .row (.c (.sl nx 0 0 1)) ty 1 0 []) (m' := Tr.put (nx + 1) mem nx (some (.cells ty []))) ⟨rfl, .inr ⟨nx, rfl, by rw [Tr.get_put _ _ _ _ _ (by omega), if_pos rfl]⟩⟩ rfl (fun b hb => by
    by_cases hlt:b<nx+1
    · rw [Tr.get_put _ _ _ _ _ (by omega),if_neg (fun e=>hb e.symm)]
    · rw [Tr.get_put _ _ _ _ _ (by omega),if_neg (fun e=>hb e.symm)])
  refine ⟨.c (.sl nx 0 0 1),_,nx+1,z,_,?_,by omega,fun b hb _=>r1.old b hb (by simp),r1.hold,zle.refl _,fun b k hb=>.inl hb,fun b hb=>(r1.own b hb).imp (fun h=>h) (fun h=>by simp at h),rfl⟩
  rw [evF,hT]
  show aHc g ty h0 g _ mem nx=_
  unfold aHc
  rw [Nat.beq_refl]
  simp only
  rw [show (decide (0<(n:Int)) && decide ((n:Int)≤35184372088832))=true by simp;omega]
def RLs:RT (List UInt32):=fun z cs l=>∃ c,cs=[c]∧CZ 1 RW z c l
instance:RMono RLs:=⟨fun hz ⟨c,h,g⟩=>⟨c,h,g.mono hz⟩⟩
def aGK (ls:List (List UInt32)):Nat:=(ls.map List.length).sum
theorem aPd {ls:List (List UInt32)} {i:Nat} (h:i<ls.length):aGK (ls.take (i+1))=aGK (ls.take i)+ls[i].length:=by
 unfold aGK
 rw [List.take_add_one,List.getElem?_eq_getElem h]
 simp only [Option.toList,List.map_append,List.map_cons,List.map_nil,List.sum_append,List.sum_cons,List.sum_nil,Nat.add_zero]
theorem aVi {ls:List (List UInt32)} (i:Nat):aGK (ls.take i)≤aGK ls:=by
 conv=>rhs;rw [← List.take_append_drop i ls]
 unfold aGK
 rw [List.map_append,List.sum_append]
 omega
theorem aXn (ls:List (List UInt32)):ls.flatten.length=aGK ls:=by rw [List.length_flatten];rfl
theorem bCC {ls:List (List UInt32)} {i:Nat} (h:i<ls.length):(ls.take (i+1)).flatten=(ls.take i).flatten++ls[i]:=by
 rw [List.take_add_one,List.getElem?_eq_getElem h]
 simp only [Option.toList,List.flatten_append,List.flatten_cons,List.flatten_nil,List.append_nil]
theorem aVU {call:jO} {B:sY} {fs:Sf} {l:List I} {Q:Sf→Prop} {d:Nat} {α:Type} {e:α→Value} {ty bytes:Nat} {zero:List Value} {x y:Od} {u v:AV} {r s:List α} {H':AV→List HA} (hx:fs.ev x=u) (hy:fs.ev y=v) (hs:SZ 1 (RE e) fs.z v s) (hr:∀ u',Hy fs.H (It e u ty r) (It e u' ty (r++s)) (H' u'))
  (hb:(r.length+s.length) * bytes≤140737488355328) (hn:r.length+s.length≤9223372036854775807) (hw:∀ c:C,qV c c=true→FL call B l (fs.res d (.c c) fs.z (H' (.c c))) Q):FL call B (⟨some d,none,.app ty 1 bytes zero x y⟩::l) fs Q:=fun st rf=>by
 obtain ⟨news,h1,h2⟩:=hs.src (st:=st) fun b k hb=>(rf.hold.z b k hb).1
 have:=bL9 h2
 subst this
 refine aY1 (cs:=cE e r) rf hx hy h1 (H':=H') (fun u'=>?_) h2.1 hb hn hw
 have h:=hr u'
 have e1:It e u' ty (r++s)=.row u' ty 1 (r.length+s.length) (cE e r++cE e s):=by rw [aY9];simp [It]
 rw [e1] at h
 exact h
theorem bPk {call:jO} {B:sY} {an:List Nat} {j:Nat} {l:List CE.D} {fs:Sf} {T:dE} {tag last:Nat} {pj lj:List Nat} {Q:Sf→Prop} {a:HA} {p q:List HA} {b:Nat} {k:pA} (e:fs.H=p++a::q) (hfp:a.fp=[b]) (ha:∀ m,a.ok m→m.get b=some k)
  (hw:∀ z',zle fs.z z'→z' b k→FG call B an j l (fs.frz z' (p++q)) T tag last pj lj Q):FG call B an j l fs T tag last pj lj Q:=fun x r=>by
 have h:=r.rf.frz e hfp ha
 exact hw _ ⟨fun _ _ h=>.inl h⟩ (.inr ⟨rfl,rfl⟩) x ⟨h,r.hd,r.t0,r.tlt,r.np,r.fl,r.last,r.pj,r.plt⟩
section
variable {call:jO} {B:sY} {fs:Sf} {l:List I} {Q:Sf→Prop} {d:Nat}
theorem lC {x:Od} {c:C} (hx:fs.ev x=.c c) (hw:FL call B l (fs.put d (.c c)) Q):FL call B (⟨some d,none,.mv x⟩::l) fs Q:=lM hx hw
theorem lZ (z0:dE) {f:Nat} {args:List Od} {vs:List AV} {Post:AV→dE→Prop} (hc:FC call f vs z0 Post) (ha:args.map fs.ev=vs) (hz0:fs.z=z0)
  (hw:∀ v z',zle z0 z'→Post v z'→FL call B l (fs.res d v z' fs.H) Q):FL call B (⟨some d,none,.call f args⟩::l) fs Q:=by
 subst hz0
 exact aLV ha hc hw
theorem Dq (z0:dE) (Hs:List HA) {Hr:List HA} {f:Nat} {args:List Od} {vs:List AV} {Post:AV→dE→List HA→Prop} (hc:FCt call f vs z0 Hs Post) (ha:args.map fs.ev=vs) (hz0:fs.z=z0) (e:fs.H=Hs++Hr)
  (hw:∀ v z' H',zle z0 z'→Post v z' H'→FL call B l (fs.res d v z' (H'++Hr)) Q):FL call B (⟨some d,none,.call f args⟩::l) fs Q:=by
 subst hz0
 exact aXq ha e hc hw
theorem Fq {α:Type} {e:α→Value} [RMono (RE e)] {u:AV} {ty:Nat} {r:List α} {p q:List HA} (z0 z1:dE) (h:fs.H=p++It e u ty r::q) (h1:fs.z=z1) (hz0:zle z0 z1) (hm:r.length≤9223372036854775807) (hw:∀ z',zle z1 z'→SZ 1 (RE e) (zd z0 z') u r→FL call B l (fs.frz z' (p++q)) Q):FL call B l fs Q:=by
 subst h1
 exact bJ4 z0 h hz0 hm hw
theorem Bo {α:Type} {e:α→Value} [RMono (RE e)] {b ty n:Nat} {r:List α} {p q:List HA} (z0 z1:dE) (h:fs.H=p++Ib e b ty r::q) (h1:fs.z=z1) (hz0:zle z0 z1) (hn:r.length=n) (hm:n≤9223372036854775807) (hw:∀ z',zle z1 z'→SZ 1 (RE e) (zd z0 z') (.c (.sl b 0 n 1)) r→FL call B l (fs.frz z' (p++q)) Q):FL call B l fs Q:=by
 subst h1
 exact bJr z0 h hz0 hn hm hw
theorem uT {a:HA} {p q:List HA} {b:Nat} {k:pA} (z1:dE) (e:fs.H=p++a::q) (h1:fs.z=z1) (hfp:a.fp=[b]) (ha:∀ m,a.ok m→m.get b=some k) (hw:∀ z',zle z1 z'→z' b k→FL call B l (fs.frz z' (p++q)) Q):FL call B l fs Q:=by
 subst h1
 exact bPG e hfp ha hw
end
theorem gZ {call:jO} {B:sY} {an:List Nat} {j:Nat} {l:List CE.D} {fs:Sf} {T:dE} {tag last:Nat} {pj lj:List Nat} {Q:Sf→Prop} (z0:dE) {i:I} {d f:Nat} {args:List Od} {vs:List AV} {af:List Nat} {Post:AV→dE→Prop} (hc:FC call f vs z0 Post) (hi:i.o=.call f args) (hd:i.d=some d) (hg:GK fs i) (hbits:Nat.beq (an.getD j 0 ||| last) (an.getD j 0)=true) (hpj:(pj.all fun q=>(an.getD j 0).testBit q)=true)
  (ha:args.map fs.ev=vs) (hz0:fs.z=z0) (hw:∀ v z',zle z0 z'→Post v z'→FG call B an (j+1) l (fs.res d v z' fs.H) T (j+1) (an.getD j 0 ||| (1 <<< j)) [] lj Q):FG call B an j (⟨i,af⟩::l) fs T tag last pj lj Q:=by
 subst hz0
 exact Cm hi hd hg hbits hpj ha hc hw
theorem zW {call:jO} {B:sY} {an:List Nat} {j:Nat} {l:List CE.D} {fs:Sf} {T:dE} {tag last:Nat} {pj lj:List Nat} {Q:Sf→Prop} {a:HA} {p q:List HA} {b:Nat} {k:pA} (z1:dE) (e:fs.H=p++a::q) (h1:fs.z=z1) (hfp:a.fp=[b]) (ha:∀ m,a.ok m→m.get b=some k)
  (hw:∀ z',zle z1 z'→z' b k→FG call B an j l (fs.frz z' (p++q)) T tag last pj lj Q):FG call B an j l fs T tag last pj lj Q:=by
 subst h1
 exact bPk e hfp ha hw
theorem aTD {a n:Nat} {kb:IntKind} (h:a * 4294967296=n) (h2:n<18446744073709551616):pR .shl (.int .u64 a) (.int kb 32)=some (.int .u64 n):=by
 have:=bMb (k:=.u64) (kb:=kb) (a:=a) (s:=32) (n:=n) (by decide) (by rw [show a * 2 ^ 32=n from h];exact wQ rfl h2)
 exact this
theorem bB1 {call:jO} {B:sY} {an:List Nat} {j:Nat} {l:List CE.D} {fs:Sf} {T:dE} {tag last:Nat} {pj lj:List Nat} {Q:Sf→Prop} (z0:dE) {i:I} {d f:Nat} {args:List Od} {vs:List AV} {af:List Nat} {Post:AV→dE→List HA→Prop} (hc:FCt call f vs z0 [] Post) (hi:i.o=.call f args) (hd:i.d=some d) (hg:GK fs i) (hbits:Nat.beq (an.getD j 0 ||| last) (an.getD j 0)=true) (hpj:(pj.all fun q=>(an.getD j 0).testBit q)=true)
  (ha:args.map fs.ev=vs) (hz0:fs.z=z0) (hw:∀ v z' H',zle z0 z'→Post v z' H'→FG call B an (j+1) l (fs.res d v z' (H'++fs.H)) T (j+1) (an.getD j 0 ||| (1 <<< j)) [] lj Q):FG call B an j (⟨i,af⟩::l) fs T tag last pj lj Q:=by
 subst hz0
 exact bIh (D:=⟨fs,T,tag,last,pj,lj⟩) hi hd hg hbits hpj ha hc hw
theorem bA6 {call:jO} {B:sY} {an:List Nat} {j:Nat} {l:List CE.D} {fs:Sf} {T:dE} {tag last:Nat} {pj lj:List Nat} {Q:Sf→Prop} (z0:dE) {i:I} {d f:Nat} {args:List Od} {vs:List AV} {af:List Nat} {Post:AV→dE→Prop} (hc:FC call f vs z0 Post) (hi:i.o=.call f args) (hd:i.d=some d) (hg:GK fs i) (hbits:Nat.beq (an.getD j 0 ||| last) (an.getD j 0)=true) (hpj:(pj.all fun q=>!(an.getD j 0).testBit q)=true)
  (ha:args.map fs.ev=vs) (hz0:fs.z=z0) (hzT:∀ b k,z0 b k→T b k) (hw:∀ v z',zle z0 z'→Post v z'→FG call B an (j+1) l (fs.res d v z' fs.H) T (j+1) (an.getD j 0 ||| (1 <<< j)) pj lj Q):FG call B an j (⟨i,af⟩::l) fs T tag last pj lj Q:=by
 subst hz0
 exact bH2 (D:=⟨fs,T,tag,last,pj,lj⟩) hi hd hg hbits hpj hzT ha hc hw
theorem Z0 {call:jO} {B:sY} {fs:Sf} {l:List I} {Q:Sf→Prop} {d:Nat} {x:Od} {b p:Nat} {c:C} (hx:fs.ev x=.c (.ptr b p)) (ha:At fs.z b p [c]) (hw:FL call B l (fs.put d (.c c)) Q):FL call B (⟨some d,none,.load false 1 x⟩::l) fs Q:=oP (off:=0) hx ha rfl (by simp) rfl hw
theorem aZS {s n:Nat} {kb:IntKind} (hs:s≤31) (h:2 ^ s=n):pR .shl (.int .u32 1) (.int kb s)=some (.int .u32 n):=by
 have h2:2 ^ s<4294967296:=Nat.lt_of_le_of_lt (Nat.pow_le_pow_right (by decide) hs) (by decide)
 exact bMb (k:=.u32) (a:=1) (by show s≤32;omega) (by rw [Nat.one_mul,h];exact wD rfl (by omega))
theorem bMn {call:jO} {B:sY} {fs:Sf} {l:List I} {Q:Sf→Prop} {H':List HA} (hs:H'.Sublist fs.H) (hw:FL call B l (fs.heap H') Q):FL call B l fs Q:=fun st rf =>
 hw st ⟨rf.env,rf.hold.sub hs,rf.le,rf.old,fun b hb=>rf.own b ((N8 hs).subset hb),rf.zle,rf.zin⟩
theorem bAa {call:jO} {B:sY} {fs:Sf} {l:List I} {Q:Sf→Prop} {d ty n:Nat} {zero:List Value} {y:Od} (hy:fs.ev y=.c (.v (.int .u32 (n:Nat)))) (hn:n<4294967296) (hz:(Vt 1 (zero.map fun v=>C.v v)).length=1) (hw:∀ b,FL call B l (fs.own d (.c (.sl b 0 1 1)) (Ib eW b ty [UInt32.ofNat n])) Q):FL call B (⟨some d,none,.bslice ty 1 1 zero [(0,y)]⟩::l) fs Q:=by
 refine kO (cs:=cE eW [UInt32.ofNat n]) ?_ hw
 obtain ⟨c,hc⟩:=List.length_eq_one_iff.1 hz
 rw [hc]
 have e:cE eW [UInt32.ofNat n]=[.v (.int .u32 (n:Nat))]:=by simp only [cE,List.map,eW,Go.Num.ofNat_toNat hn]
 rw [e]
 simp only [aEP,hy,AV.cells?]
 rfl
def bLu (fs:Sf) (o:Option Od) (dflt i:Nat):Prop:=match o with
 | none=>i=dflt
 | some x=>∃ k z,fs.ev x=.c (.v (.int k z))∧z=(i:Int)
theorem bLu.e {fs:Sf} {o:Option Od} {dflt i:Nat} (h:bLu fs o dflt i):aVz fs o dflt i:=by
 cases o with
 | none=>exact h
 | some x =>
  obtain ⟨k,z,h1,rfl⟩:=h
  exact ⟨k,h1⟩
theorem bFy {call:jO} {B:sY} {fs:Sf} {l:List I} {Q:Sf→Prop} {d:Nat} {size b o n:Nat} {x:Od} {lo hi:Option Od} {i j:Nat} (oo nn:Nat) (hx:fs.ev x=.c (.sl b o n size)) (hlo:bLu fs lo 0 i) (hhi:bLu fs hi n j) (hij:i≤j) (hj:j≤n) (hin:i<n) (h1:o+i * size=oo) (h2:j - i=nn)
  (hw:FL call B l (fs.put d (.c (.sl b oo nn size))) Q):FL call B (⟨some d,none,.slc size x lo hi⟩::l) fs Q:=by
 subst h1 h2
 exact bKQ hx hlo.e hhi.e hij hj hin hw
theorem FCt.told {call:jO} {f:Nat} {args:List AV} {z:dE} {α:Type} {e:α→Value} [RMono (RE e)] {ty:Nat} {l:List α} {P:AV→AV→Prop} (h:FCt call f args z [] fun v _ H'=>∃ u,P v u∧H'=[It e u ty l]) (hm:l.length≤9223372036854775807):FC call f args z fun v z'=>∃ u,P v u∧SZ 1 (RE e) (zd z z') u l:=fun mem nx hh=>by
  obtain ⟨w,mem',nx',z',H',h1,h2,h3,h4,h5,h6,h7,u,hP,e1⟩:=h mem nx hh
  subst e1
  obtain ⟨g1,g2⟩:=h4.h _ (List.mem_singleton.2 rfl)
  rcases g2 with ⟨h0,rfl⟩ | ⟨b,rfl,h8⟩
  · have e : l = [] := List.eq_nil_of_length_eq_zero (by omega)
    subst e
    exact ⟨_,mem',nx',z',[],h1,h2,h3,h4.sub (List.nil_sublist _),h5,h6,fun b hb=>by simp [yI] at hb,rfl,_,hP,.nil⟩
  · have hfb : b ∈ yI [HA.row (.c (.sl b 0 l.length 1)) ty 1 l.length (cE e l)] := by simp [yI, HA.fp]
    refine ⟨_,mem',nx',fun x y=>z' x y∨(x=b∧y=.cells ty (cE e l)),[],h1,h2,h3,⟨fun x k hx=>?_,fun a ha=>by simp at ha,fun x hx=>by simp [yI] at hx,by simp [yI]⟩,⟨fun _ _ hx=>.inl (h5 _ _ hx)⟩,fun x k hx=>?_,fun x hx=>by simp [yI] at hx,rfl,_,hP,?_⟩
    · rcases hx with hx | ⟨rfl,rfl⟩
      · obtain ⟨k1, k2, _⟩ := h4.z x k hx
        exact ⟨k1,k2,by simp [yI]⟩
      · exact ⟨h8,h4.lt _ hfb,by simp [yI]⟩
    · rcases hx with hx | ⟨rfl,rfl⟩
      · exact h6 x k hx
      · rcases h7 _ hfb with k | k
        · exact .inr (.inl k)
        · simp [yI] at k
    · refine CL.sz (ty:=ty) (cs:=cE e l) Ls rfl hm ⟨.inr ⟨rfl,rfl⟩,fun k' hb=>(h4.z b k' (h5 _ _ hb)).2.2 hfb,rfl⟩
def LZ (z0 zz:dE) (H:List HA) (ls:List (Nat×AV)) (fs:Sf):Prop:=∃ e Hx,fs=⟨e,zz,Hx++H⟩∧zle z0 zz∧AtL e ls
theorem LZ.mk {z0 zz:dE} {H:List HA} {ls:List (Nat×AV)} {e:Zv} (Hx:List HA) (hz:zle z0 zz) (ha:AtL e ls):LZ z0 zz H ls ⟨e,zz,Hx++H⟩:=⟨e,Hx,rfl,hz,ha⟩
theorem LZ.open {call:jO} {k:Nat} {B:sY} {c:XC} {Q:Exit→Sf→Prop} {z0 zz:dE} {H:List HA} {ls:List (Nat×AV)} {fs:Sf} (h:LZ z0 zz H ls fs) (hw:∀ e,zle z0 zz→FX call k B c ⟨aTw e ls,zz,H⟩ Q):FX call k B c fs Q:=by
 obtain ⟨e,Hx,rfl,hz,ha⟩:=h
 exact A9 ha fun e=>vF (List.sublist_append_right _ _) (hw e hz)
theorem bAi {call:jO} {B:sY} {fs:Sf} {l:List I} {Q:Sf→Prop} {d ty n m:Nat} {zero:List Value} {y y':Od} (hy:fs.ev y=.c (.v (.int .u32 (n:Nat)))) (hy':fs.ev y'=.c (.v (.int .u32 (m:Nat)))) (hn:n<4294967296) (hm:m<4294967296) (hz:(Vt 2 (zero.map fun v=>C.v v)).length=2) (hw:∀ b,FL call B l (fs.own d (.c (.sl b 0 2 1)) (Ib eW b ty [UInt32.ofNat n,UInt32.ofNat m])) Q):FL call B (⟨some d,none,.bslice ty 1 2 zero [(0,y),(1,y')]⟩::l) fs Q:=by
 refine kO (cs:=cE eW [UInt32.ofNat n,UInt32.ofNat m]) ?_ hw
 obtain ⟨c,c',hc⟩:∃ c c',Vt 2 (zero.map fun v=>C.v v)=[c,c']:=by
  match h:Vt 2 (zero.map fun v=>C.v v),hz with
  | [c,c'],_=>exact ⟨c,c',rfl⟩
 rw [hc]
 have e:cE eW [UInt32.ofNat n,UInt32.ofNat m]=[.v (.int .u32 (n:Nat)),.v (.int .u32 (m:Nat))]:=by simp only [cE,List.map,eW,Go.Num.ofNat_toNat hn,Go.Num.ofNat_toNat hm]
 rw [e]
 simp only [aEP,hy,hy',AV.cells?]
 rfl
theorem bWc {z:dE} {b ty:Nat} {c d:C} {l m:List UInt32} (h0:CZ 1 RW z c l) (h1:CZ 1 RW z d m) (h2:z b (.cells ty [c,d])):SZ 1 RLs z (.c (.sl b 0 2 1)) [l,m]:=by
 refine CL.sz (cs:=[c,d]) ?_ rfl (by simp) h2
 exact CL.append (cs:=[c]) (l:=[l]) (cs':=[d]) (l':=[m]) (CL.one rfl ⟨_,rfl,h0⟩) (CL.one rfl ⟨_,rfl,h1⟩)
def IV (z:dE) (v:AV) (a:Int):Prop:=∃ c,v=.agg [.v (.bool (decide (a<0))),c]∧CZ 1 RW z c (Go.Num.toL a.natAbs)
def QV (z:dE) (v:AV) (q:Rat):Prop:=∃ c d,v=.agg [.v (.bool (decide (q.num<0))),c,.v (.bool (decide ((q.den:Int)<0))),d]∧CZ 1 RW z c (Go.Num.toL q.num.natAbs)∧CZ 1 RW z d (Go.Num.toL q.den)
end Go.CE
