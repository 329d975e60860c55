/- States as functions; rows of calls; the memo of closed calls. -/
import Derived.WalkKit
import Derived.Orders
import Derived.Laws.Externs
import Derived.Lib.Bytealg
import Derived.Test.YtlceligcgelbdaaGreatMA3
import Derived.Test.YtlceligcgelbdaaGreatMB1
set_option linter.unusedVariables false
set_option linter.unusedSimpArgs false
namespace Go.CE
open Go.RowKit
open Go.Eng (Od need need_pos iU mR binV binBV)
def Wp (r:Option AS) (Q:AS→Prop):Prop:=match r with
 | some st=>Q st
 | none=>False
section
variable {call:iJ} {st:AS} {d:Nat}
theorem bRt {i:I} {l:List I} {st':AS} {Q:AS→Prop} (h:evI call i st=some st'):Wp (I4 call (i::l) st) Q=Wp (I4 call l st') Q:=by simp only [I4,h]
theorem bLt {o:mK} {v:AV} {mem:Tr jX} {nx:Nat} (h:Io call o st=some (v,mem,nx)):evI call ⟨some d,none,o⟩ st=some ((⟨st.env,mem,nx⟩:AS).put d v):=by simp only [evI,gOk,h];rfl
theorem bPx {o:mK} {v:AV} {mem:Tr jX} {nx:Nat} (h:Io call o st=some (v,mem,nx)):evI call ⟨none,none,o⟩ st=some (⟨st.env,mem,nx⟩:AS):=by simp only [evI,gOk,h];rfl
theorem i_q {o:mK} {v:AV} (hc:callee st o=none) (h:dK o st=some v):evI call ⟨some d,none,o⟩ st=some (st.put d v):=bLt (by simp only [Io,hc,h])
theorem bVF {dd:Option Nat} {s:Nat} {want:Bool} {o:mK} (h:st.get s=.c (.v (.bool want))):evI call ⟨dd,some (s,want),o⟩ st=evI call ⟨dd,none,o⟩ st:=by
 simp only [evI,gOk,gd,h]
 cases want<;>rfl
theorem cBH {s:Nat} {want:Bool} {o:mK} (h:st.get s=.c (.v (.bool (!want)))):evI call ⟨some d,some (s,want),o⟩ st=some (st.put d (.tup [])):=by
 simp only [evI,gOk,gd,h]
 cases want<;>rfl
theorem cCr {s:Nat} {want:Bool} {o:mK} (h:st.get s=.tup []):evI call ⟨some d,some (s,want),o⟩ st=some (st.put d (.tup [])):=by
 simp only [evI,gOk,gd,h];rfl
theorem bVO {x:Od}:evI call ⟨some d,none,.mv x⟩ st=some (st.put d (st.ev x)):=i_q rfl rfl
theorem bRI {op:BinOp} {x y:Od} {u v r:Value} (hx:st.ev x=.c (.v u)) (hy:st.ev y=.c (.v v)) (h:pC op u v=some r):evI call ⟨some d,none,.bin op x y⟩ st=some (st.put d (.c (.v r))):=i_q rfl (by simp only [dK,hx,hy,AV.val?,h];rfl)
theorem cB3 {op:UnOp} {x:Od} {u r:Value} (hx:st.ev x=.c (.v u)) (h:unW op u=some r):evI call ⟨some d,none,.un op x⟩ st=some (st.put d (.c (.v r))):=i_q rfl (by simp only [dK,hx,AV.val?,h];rfl)
theorem bSz {size:Nat} {x i:Od} {b o n:Nat} {kd:IntKind} {j:Nat} (hx:st.ev x=.c (.sl b o n size)) (hi:st.ev i=.c (.v (.int kd (j:Nat)))) (h:j<n):evI call ⟨some d,none,.iad size x i⟩ st=some (st.put d (.c (.ptr b (o+j * size)))):=
 i_q rfl (by simp only [dK,hx,hi,AV.int?];rw [need_pos ⟨trivial,by simp,by simp;omega⟩];simp)
theorem bFD {size:Nat} {x:Od} {b o ty:Nat} {agg:Bool} {cs:List C} (hx:st.ev x=.c (.ptr b o)) (hm:st.mem.get b=some (.cells ty cs)) (h:o+size≤cs.length):evI call ⟨some d,none,.load agg size x⟩ st=some (st.put d (Ek agg ((cs.drop o).take size))):=
 i_q rfl (by simp only [dK,hx,AS.read,AS.blk,hm];rw [need_pos h])
theorem bLF {x:Od} {b o ty:Nat} {cs:List C} {c:C} (hx:st.ev x=.c (.ptr b o)) (hm:st.mem.get b=some (.cells ty cs)) (h:cs[o]? = some c):evI call ⟨some d,none,.load false 1 x⟩ st=some (st.put d (.c c)):=by
 have hl:o<cs.length:=(List.getElem?_eq_some_iff.1 h).1
 rw [bFD hx hm (by omega)]
 have:(cs.drop o).take 1=[c]:=by
  rw [List.drop_eq_getElem_cons hl]
  have:=(List.getElem?_eq_some_iff.1 h).2
  simp [this]
 rw [this]
 rfl
variable {l:List I} {Q:AS→Prop}
theorem bQJ (h:Q st):Wp (I4 call [] st) Q:=h
theorem Oo {i:I} {st':AS} (h:evI call i st=some st') (hw:Wp (I4 call l st') Q):Wp (I4 call (i::l) st) Q:=by rw [bRt h];exact hw
theorem bW1 {x:Od} {v:AV} (hx:st.ev x=v) (hw:Wp (I4 call l (st.put d v)) Q):Wp (I4 call (⟨some d,none,.mv x⟩::l) st) Q:=Oo bVO (by rw [hx];exact hw)
theorem bR0 {op:BinOp} {x y:Od} {u v r:Value} (hx:st.ev x=.c (.v u)) (hy:st.ev y=.c (.v v)) (h:pC op u v=some r) (hw:Wp (I4 call l (st.put d (.c (.v r)))) Q):Wp (I4 call (⟨some d,none,.bin op x y⟩::l) st) Q:=Oo (bRI hx hy h) hw
theorem bV1 {op:UnOp} {x:Od} {u r:Value} (hx:st.ev x=.c (.v u)) (h:unW op u=some r) (hw:Wp (I4 call l (st.put d (.c (.v r)))) Q):Wp (I4 call (⟨some d,none,.un op x⟩::l) st) Q:=Oo (cB3 hx h) hw
theorem bTq {size:Nat} {x i:Od} {b o n:Nat} {kd:IntKind} {j:Nat} (hx:st.ev x=.c (.sl b o n size)) (hi:st.ev i=.c (.v (.int kd (j:Nat)))) (h:j<n) (hw:Wp (I4 call l (st.put d (.c (.ptr b (o+j * size))))) Q):Wp (I4 call (⟨some d,none,.iad size x i⟩::l) st) Q:=Oo (bSz hx hi h) hw
theorem aUY {x:Od} {b o ty:Nat} {cs:List C} {c:C} (hx:st.ev x=.c (.ptr b o)) (hm:st.mem.get b=some (.cells ty cs)) (h:cs[o]? = some c) (hw:Wp (I4 call l (st.put d (.c c))) Q):Wp (I4 call (⟨some d,none,.load false 1 x⟩::l) st) Q:=Oo (bLF hx hm h) hw
theorem cCu {dd:Option Nat} {s:Nat} {want:Bool} {o:mK} (h:st.get s=.c (.v (.bool want))) (hw:Wp (I4 call (⟨dd,none,o⟩::l) st) Q):Wp (I4 call (⟨dd,some (s,want),o⟩::l) st) Q:=by
 simp only [I4,bVF h]
 exact hw
theorem cAt {s:Nat} {want:Bool} {o:mK} (h:st.get s=.c (.v (.bool (!want)))) (hw:Wp (I4 call l (st.put d (.tup []))) Q):Wp (I4 call (⟨some d,some (s,want),o⟩::l) st) Q:=Oo (cBH h) hw
theorem bVY {s:Nat} {want:Bool} {o:mK} (h:st.get s=.tup []) (hw:Wp (I4 call l (st.put d (.tup []))) Q):Wp (I4 call (⟨some d,some (s,want),o⟩::l) st) Q:=Oo (cCr h) hw
theorem bTr (k:IntKind) (a b:Int):pC .gtr (.int k a) (.int k b)=some (.bool (decide (b<a))):=by simp [pC,binV,need]
theorem bQ9 (k:IntKind) (a b:Int):pC .lss (.int k a) (.int k b)=some (.bool (decide (a<b))):=by simp [pC,binV,need]
theorem bRK (k:IntKind) (a b:Int):pC .geq (.int k a) (.int k b)=some (.bool (decide (b≤a))):=by simp [pC,binV,need]
theorem bT5 (k:IntKind) (a b:Int):pC .leq (.int k a) (.int k b)=some (.bool (decide (a≤b))):=by simp [pC,binV,need]
theorem bSY (k:IntKind) (a b:Int):pC .eql (.int k a) (.int k b)=some (.bool (decide (a=b))):=by
 simp only [pC,binV,need,if_true]
 congr 2
theorem bMJ (k:IntKind) (a b:Int):pC .neq (.int k a) (.int k b)=some (.bool (!decide (a=b))):=by
 simp only [pC,binV,need,if_true]
 congr 2
theorem bS6 (k:IntKind) (a b:Int):pC .add (.int k a) (.int k b)=some (.int k (k.wrap (a+b))):=by simp [pC,binV,need]
theorem bTm (k:IntKind) (a b:Int):pC .sub (.int k a) (.int k b)=some (.int k (k.wrap (a - b))):=by simp [pC,binV,need]
theorem bMj (k:IntKind) (a b:Int):pC .mul (.int k a) (.int k b)=some (.int k (k.wrap (a * b))):=by simp [pC,binV,need]
theorem bMD {m b q:Nat}:(Int.ofNat m * (b:Int)≤(q:Int))↔m * b≤q:=by
 rw [show Int.ofNat m * (b:Int)=((m * b:Nat):Int) from rfl]
 exact Int.ofNat_le
end
def Wx (r:Option (Exit×AS)) (Q:Exit→AS→Prop):Prop:=match r with
 | some (e,st)=>Q e st
 | none=>False
def onN (Qn:AS→Prop) (Q:Exit→AS→Prop):Exit→AS→Prop:=fun e st=>match e with
 | .normal=>Qn st
 | e=>Q e st
theorem Wx.mono {r:Option (Exit×AS)} {Q R:Exit→AS→Prop} (h:Wx r Q) (g:∀ e st,Q e st→R e st):Wx r R:=by
 cases r with
 | none=>exact h
 | some p=>exact g _ _ h
section
variable {call:iJ} {k:Nat} {st:AS} {Q:Exit→AS→Prop}
theorem bB6 {l:List I} (h:Wp (I4 call l st) (Q .normal)):Wx (I3 call k (.region l) st) Q:=by
 simp only [I3]
 cases he:I4 call l st with
 | none=>rw [he] at h;exact h
 | some st'=>rw [he] at h;exact h
theorem bQt {a b:XC} (h:Wx (I3 call k a st) (onN (fun st=>Wx (I3 call k b st) Q) Q)):Wx (I3 call k (.seq a b) st) Q:=by
 simp only [I3]
 cases he:I3 call k a st with
 | none=>rw [he] at h;exact h
 | some p =>
  obtain ⟨e,st'⟩:=p
  rw [he] at h
  cases e<;>exact h
theorem bL2 {c:Od} {a b:XC} {t:Bool} (hc:st.ev c=.c (.v (.bool t))) (h:Wx (I3 call k (if t=true then a else b) st) Q):Wx (I3 call k (.cond c a b) st) Q:=by
 simp only [I3,hc,AV.bool?]
 cases t<;>exact h
theorem bGw {id:Nat} {b:XC} (h:Wx (I3 call k b st) (fun e=>Q (P8 id e))):Wx (I3 call k (.block id b) st) Q:=by
 simp only [I3]
 cases he:I3 call k b st with
 | none=>rw [he] at h;exact h
 | some p=>rw [he] at h;exact h
theorem bLT {b:XC} (h:Wx (Nw (I3 call k b) k st) Q):Wx (I3 call k (.loop b) st) Q:=h
theorem bKY {body:AS→Option (Exit×AS)} {n:Nat} (h:Wx (body st) (onN (fun st=>Wx (Nw body n st) Q) Q)):Wx (Nw body (n+1) st) Q:=by
 simp only [Nw]
 cases he:body st with
 | none=>rw [he] at h;exact h
 | some p =>
  obtain ⟨e,st'⟩:=p
  rw [he] at h
  cases e<;>exact h
end
open Go.RowKit
open Go.Eng (Od need need_pos iU mR binV binBV)
def Wd (r:Option Ya) (Q:Ya→Prop):Prop:=match r with
 | some a=>Q a
 | none=>False
def Ya.see (a:Ya) (d:D):AS:=⟨nP a.env d.sl,.nil,a.nx⟩
section
variable {call:iJ} {an:List Nat} {j:Nat} {ds:List D} {a:Ya} {Q:Ya→Prop}
theorem bNT (h:Q a):Wd (aLP call an j [] a) Q:=h
theorem aFN {d:D} {a':Ya} (h:Vx call j d (an.getD j 0) a=some a') (hw:Wd (aLP call an (j+1) ds a') Q):Wd (aLP call an j (d::ds) a) Q:=by
 simp only [aLP,h]
 exact hw
theorem bJQ {k:Nat} {an:List Nat} {st:AS} {R:Exit→AS→Prop} (h:Wd (aLP call an 0 ds ⟨st.env,st.nx,[(0,st.mem)],[],[],0⟩) (fun a=>R .normal a.fin)):Wx (I3 call k (.draw ds an) st) R:=by
 simp only [I3,evD]
 cases he:aLP call an 0 ds ⟨st.env,st.nx,[(0,st.mem)],[],[],0⟩ with
 | none=>rw [he] at h;exact h
 | some a=>rw [he] at h;exact h
theorem aWO {env:Tr AV} {l:List Nat} {q:Nat} (hq:q∈l):(nP env l).get q=env.get q:=by
 cases he:env.get q with
 | none =>
  cases hr:(nP env l).get q with
  | none=>rfl
  | some v=>have:=(aTc hr).2;rw [he] at this;cases this
 | some v =>
  induction l with
  | nil=>cases hq
  | cons p l ih =>
   simp only [nP]
   cases hp:env.get p with
   | none =>
    rcases List.mem_cons.1 hq with rfl | h
    ·rw [he] at hp;cases hp
    exact ih h
   | some u =>
    simp only
    rw [Tr.get_put _ _ _ _ _ (by omega)]
    by_cases e:p=q
    ·subst e;rw [if_pos rfl,← hp,he]
    rw [if_neg e]
    rcases List.mem_cons.1 hq with h | h
    ·exact absurd h.symm e
    exact ih h
variable {d:Nat} {af:List Nat}
end
open Go.RowKit
open Go.Eng (Od need need_pos iU mR binV binBV)
section
variable {call:iJ} {st:AS} {d:Nat} {l:List I} {Q:AS→Prop}
theorem Ji (k:jX) (i:Nat):(st.new k).mem.get i=if st.nx=i then some k else st.mem.get i:=by
 show (Tr.put (st.nx+1) st.mem st.nx (some k)).get i=_
 rw [Tr.get_put _ _ _ _ _ (by omega)]
theorem aBm (b:Nat) (k:jX) (i:Nat):(st.setB b k).mem.get i=if b=i then some k else st.mem.get i:=by
 show (Tr.put (b+1) st.mem b (some k)).get i=_
 rw [Tr.get_put _ _ _ _ _ (by omega)]
theorem U8 (b:Nat) (k:jX) (i:Nat):(st.moveB b k).mem.get i=if st.nx=i then some k else if b=i then none else st.mem.get i:=by
 show (Tr.put (st.nx+1) (Tr.put (b+1) st.mem b none) st.nx (some k)).get i=_
 rw [Tr.get_put _ _ _ _ _ (by omega),Tr.get_put _ _ _ _ _ (by omega)]
theorem i_e {o:mK} {v:AV} {st':AS} (hc:callee st o=none) (hq:dK o st=none) (h:eP o st=some (st',v)):evI call ⟨some d,none,o⟩ st=some ((⟨st.env,st'.mem,st'.nx⟩:AS).put d v):=bLt (by simp only [Io,hc,hq,h])
theorem bR9 {o:mK} {v:AV} {st':AS} (hc:callee st o=none) (hq:dK o st=none) (h:eP o st=some (st',v)):evI call ⟨none,none,o⟩ st=some (⟨st.env,st'.mem,st'.nx⟩:AS):=bPx (v:=v) (by simp only [Io,hc,hq,h])
theorem bIJ {size:Nat} {x y:Od} {b o ty:Nat} {cs ds:List C} {v:AV} (hx:st.ev x=.c (.ptr b o)) (hy:st.ev y=v) (hv:v.cells? = some ds) (hm:st.mem.get b=some (.cells ty cs)) (hs:ds.length=size) (h:o+size≤cs.length)
    (hw:Wp (I4 call l (st.setB b (.cells ty (mR cs o ds)))) Q):Wp (I4 call (⟨none,none,.store size x y⟩::l) st) Q:=
  Oo (bR9 (st' := st.setB b (.cells ty (mR cs o ds))) (v := .any) rfl rfl (by
    simp only [eP,hx,hy,hv,hm]
    rw [need_pos ⟨hs,h⟩])) hw
theorem bNf {f:Nat} {args:List Od} {vs:List AV} {v:AV} {mem:Tr jX} {nx:Nat} (ha:args.map st.ev=vs) (h:call f vs st.mem st.nx=some (v,mem,nx)) (hw:Wp (I4 call l ((⟨st.env,mem,nx⟩:AS).put d v)) Q):Wp (I4 call (⟨some d,none,.call f args⟩::l) st) Q:=
 Oo (bLt (by simp only [Io,callee,ha,h])) hw
theorem bHn {ty size bytes m:Nat} {zero:List Value} {x y:Od} {news:List C} {v:AV} (hx:st.ev x=.c (.v (.slice none 0 0))) (hy:st.ev y=v) (hr:st.row size v=some (m+1,news)) (h:(m+1) * bytes≤140737488355328) (hn:m+1≤9223372036854775807)
    (hw:Wp (I4 call l ((st.new (.cells ty news)).put d (.c (.sl st.nx 0 (m+1) size)))) Q):Wp (I4 call (⟨some d,none,.app ty size bytes zero x y⟩::l) st) Q:=
  Oo (i_e (st' := st.new (.cells ty news)) rfl rfl (by
    simp only [eP,hy,hr,hx]
    rw [need_pos ⟨h,hn,by omega⟩])) hw
theorem bMg {ty size bytes m b o n:Nat} {zero:List Value} {x y:Od} {news cs:List C} {v:AV} (hx:st.ev x=.c (.sl b o n size)) (hy:st.ev y=v) (hr:st.row size v=some (m+1,news)) (hm:st.mem.get b=some (.cells ty cs)) (hl:o+n * size=cs.length)
    (h:(n+(m+1)) * bytes≤140737488355328) (hn:n+(m+1)≤9223372036854775807)
    (hw:Wp (I4 call l ((st.moveB b (.cells ty (cs.drop o++news))).put d (.c (.sl st.nx 0 (n+(m+1)) size)))) Q):Wp (I4 call (⟨some d,none,.app ty size bytes zero x y⟩::l) st) Q:=
  Oo (i_e (st' := st.moveB b (.cells ty (cs.drop o ++ news))) rfl rfl (by
    simp only [eP,hy,hr,hx,hm]
    rw [need_pos ⟨hl,trivial,trivial,h,hn⟩])) hw
theorem bP3 {ty size bytes:Nat} {zero:List Value} {x y:Od} {v u:AV} {news:List C} (hx:st.ev x=u) (hu:(∃ b o n s,u=.c (.sl b o n s))∨u=.c (.v (.slice none 0 0))) (hy:st.ev y=v) (hr:st.row size v=some (0,news))
    (hw:Wp (I4 call l (st.put d u)) Q):Wp (I4 call (⟨some d,none,.app ty size bytes zero x y⟩::l) st) Q:=
  Oo (i_e (st' := st) rfl rfl (by
    rcases hu with ⟨b,o,n,s,rfl⟩ | rfl<;>simp only [eP,hy,hr,hx])) hw
theorem aXc {size b o n ty:Nat} {cs:List C} (hm:st.mem.get b=some (.cells ty cs)) (h:o+n * size≤cs.length):st.row size (.c (.sl b o n size))=some (n,(cs.drop o).take (n * size)):=by
 simp only [AS.row,AS.read,AS.blk,hm]
 rw [need_pos h]
 simp only []
 rw [need_pos trivial]
end
open Go.Eng (Od)
section
variable {call:iJ} {st:AS} {d:Nat} {l:List I} {Q:AS→Prop}
theorem bRO {off:Nat} {x:Od} {b o:Nat} (hx:st.ev x=.c (.ptr b o)) (hw:Wp (I4 call l (st.put d (.c (.ptr b (o+off))))) Q):Wp (I4 call (⟨some d,none,.fad off x⟩::l) st) Q:=
 Oo (i_q rfl (by simp only [dK,hx])) hw
theorem bTf {k:IntKind} {x:Od} {k':IntKind} {n:Int} (hx:st.ev x=.c (.v (.int k' n))) (hw:Wp (I4 call l (st.put d (.c (.v (.int k (k.wrap n)))))) Q):Wp (I4 call (⟨some d,none,.cvi k x⟩::l) st) Q:=
 Oo (i_q rfl (by simp only [dK,hx];rfl)) hw
end
open Go.RowKit
open Go.Eng (Od need need_pos iU mR binV binBV)
theorem bJ9 {z:Int} (h : -9223372036854775808≤z) (h':z<9223372036854775808):IntKind.i64.wrap z=z:=by
 simp [IntKind.wrap,IntKind.bits,IntKind.signed]
 omega
open Go.RowKit
open Go.Eng (Od need need_pos iU mR binV binBV)
section
variable {call:iJ} {an:List Nat} {j:Nat} {a:Ya}
theorem bE1 {bits:Nat} {m:Tr jX}:∀ {l:List (Nat×mK×Tr AV×AV)},(∀ p,p∈l→bits.testBit p.1=true)→aUD bits m l=some []:=by
 intro l
 induction l with
 | nil=>intro _;rfl
 | cons p l ih =>
  intro h
  obtain ⟨q,o,re,v⟩:=p
  simp only [aUD,ih fun p hp=>h p (List.mem_cons_of_mem _ hp),h (q,o,re,v) (List.mem_cons_self ..)]
end
open Go.RowKit
open Go.Eng (Od need need_pos iU mR binV binBV)
abbrev O6:=Nat→AV
def aDK (e:O6) (d:Nat) (v:AV):O6:=fun i=>cond (Nat.beq d i) v (e i)
def aPv (e:O6):List (Nat×AV)→O6
 | []=>e
 | p::l=>aDK (aPv e l) p.1 p.2
theorem aO4 (e:O6) (d i:Nat) (v:AV):aDK e d v i=if d=i then v else e i:=by
 unfold aDK
 by_cases h:d=i
 ·subst h;simp
 rw [if_neg h]
 have:Nat.beq d i=false:=by
  cases hb:Nat.beq d i with
  | false=>rfl
  | true=>exact absurd (Nat.eq_of_beq_eq_true hb) h
 rw [this];rfl
theorem aG3 {e:O6} {d:Nat} {v:AV} (h:e d=v):aDK e d v=e:=by
 funext i
 rw [aO4]
 split
 ·rename_i hh;rw [← hh,h]
 rfl
abbrev qY:AV:=.c (.v (.slice none 0 0))
inductive HA where
 | blk (b:Nat) (k:jX)
 | row (u:AV) (ty size n:Nat) (cs:List C)
 | gen (fp:List Nat) (P:Tr jX→Prop) (h:∀ m m',(∀ b,b∈fp→m'.get b=m.get b)→P m→P m')
def HA.fp:HA→List Nat
 | .blk b _=>[b]
 | .row u _ _ _ _=>match u with
  | .c (.sl b _ _ _)=>[b]
  | _=>[]
 | .gen l _ _=>l
def HA.ok (m:Tr jX):HA→Prop
 | .blk b k=>m.get b=some k
 | .row u ty size n cs=>cs.length=n * size∧((n=0∧u=qY)∨∃ b,u=.c (.sl b 0 n size)∧m.get b=some (.cells ty cs))
 | .gen _ P _=>P m
def qT (H:List HA):List Nat:=H.flatMap HA.fp
theorem kD (a:HA) (H:List HA):qT (a::H)=a.fp++qT H:=rfl
theorem kM (H H':List HA):qT (H++H')=qT H++qT H':=by simp [qT]
theorem HA.ok_of {a:HA} {m m':Tr jX} (h:a.ok m) (hm:∀ b,b∈a.fp→m'.get b=m.get b):a.ok m':=by
 cases a with
 | blk b k=>show m'.get b=some k;rw [hm b (by simp [HA.fp])];exact h
 | row u ty size n cs =>
  obtain ⟨h1,h2⟩:=h
  refine ⟨h1,?_⟩
  rcases h2 with h2 | ⟨b,rfl,h3⟩
  ·exact .inl h2
  exact .inr ⟨b,rfl,by rw [hm b (by simp [HA.fp])];exact h3⟩
 | gen l P hP=>exact hP m m' hm h
structure aDL (z:fR) (H:List HA) (m:Tr jX) (nx:Nat):Prop where
 z:∀ b k,z b k→m.get b=some k∧b<nx∧b ∉ qT H
 h:∀ a,a∈H→a.ok m
 lt:∀ b,b∈qT H→b<nx
 nd:(qT H).Nodup
class ZS (z:outParam fR) (z':fR):Prop where
 h:∀ b k,z b k→z' b k
abbrev zle (z z':fR):Prop:=ZS z z'
instance zcf {z z':fR}:CoeFun (ZS z z') fun _=>∀ b k,z b k→z' b k:=⟨fun h=>@ZS.h _ _ h⟩
theorem zle.refl (z:fR):zle z z:=⟨fun _ _ h=>h⟩
theorem ZS.trans {a b c:fR} (h:zle a b) (g:zle b c):zle a c:=⟨fun x k hx=>g x k (h x k hx)⟩
class Zl (a b:fR):Prop where
 h:zle a b
instance zlr {a:fR}:Zl a a:=⟨zle.refl _⟩
instance zls {a b c:fR} [h1:ZS b c] [h2:Zl a b]:Zl a c:=⟨h2.h.trans h1⟩
theorem zI {a b:fR} [h:Zl a b]:zle a b:=h.h
theorem zJ (b:fR) {a:fR} [h:Zl a b]:zle a b:=h.h
structure Sf where
 e:O6
 z:fR
 H:List HA
abbrev Sf.put (fs:Sf) (d:Nat) (v:AV):Sf:=⟨aDK fs.e d v,fs.z,fs.H⟩
abbrev Sf.own (fs:Sf) (d:Nat) (v:AV) (a:HA):Sf:=⟨aDK fs.e d v,fs.z,a::fs.H⟩
abbrev Sf.heap (fs:Sf) (H:List HA):Sf:=⟨fs.e,fs.z,H⟩
abbrev Sf.res (fs:Sf) (d:Nat) (v:AV) (z:fR) (H:List HA):Sf:=⟨aDK fs.e d v,z,H⟩
abbrev Sf.frz (fs:Sf) (z:fR) (H:List HA):Sf:=⟨fs.e,z,H⟩
def Sf.ev (fs:Sf):Od→AV
 | .t i=>fs.e i
 | .k v=>avk v
 | .f f=>.c (.fn f [] [])
 | .bad=>.any
structure rR where
 m:Tr jX
 n:Nat
 z:fR
 L:List Nat
structure Rf (B:rR) (fs:Sf) (st:AS):Prop where
 env:∀ i,st.get i=fs.e i
 hold:aDL fs.z fs.H st.mem st.nx
 le:B.n≤st.nx
 old:∀ b,b<B.n→b ∉ B.L→st.mem.get b=B.m.get b
 own:∀ b,b∈qT fs.H→B.n≤b∨b∈B.L
 zle:zle B.z fs.z
 zin:∀ b k,fs.z b k→B.z b k∨B.n≤b∨b∈B.L
section
variable {B:rR} {fs:Sf} {st:AS}
theorem Rf.ev (h:Rf B fs st) (x:Od):st.ev x=fs.ev x:=by
 cases x with
 | t i=>exact h.env i
 | _=>rfl
theorem Rf.put (h:Rf B fs st) (d:Nat) (v:AV):Rf B (fs.put d v) (st.put d v):=by
 refine ⟨fun i=>?_,h.hold,h.le,h.old,h.own,h.zle,h.zin⟩
 rw [get_put,show (fs.put d v).e=aDK fs.e d v from rfl,aO4]
 split
 ·rfl
 exact h.env i
theorem aDL.new {z:fR} {H:List HA} {m m':Tr jX} {nx:Nat} (h:aDL z H m nx) (a:HA) (ha:a.ok m') (hfp:a.fp=[nx]) (hm:∀ b,b≠nx→m'.get b=m.get b):aDL z (a::H) m' (nx+1):=by
 have hne:∀ b,b∈qT H→b≠nx:=fun b hb e=>by have:=h.lt b hb;omega
 refine ⟨fun b k hb=>?_,fun x hx=>?_,fun b hb=>?_,?_⟩
 ·obtain ⟨h1,h2,h3⟩:=h.z b k hb
  refine ⟨by rw [hm b (by omega)];exact h1,by omega,?_⟩
  rw [kD,hfp]
  simp only [List.singleton_append,List.mem_cons,not_or]
  exact ⟨by omega,h3⟩
 ·rcases List.mem_cons.1 hx with rfl | hx
  ·exact ha
  refine HA.ok_of (h.h x hx) fun b hb=>hm b (hne b ?_)
  exact List.mem_flatMap.2 ⟨x,hx,hb⟩
 ·rw [kD,hfp] at hb
  rcases List.mem_cons.1 hb with rfl | hb
  ·omega
  have:=h.lt b hb;omega
 rw [kD,hfp]
 exact List.nodup_cons.2 ⟨fun hb=>hne _ hb rfl,h.nd⟩
theorem Rf.new (h:Rf B fs st) {a:HA} {m':Tr jX} (ha:a.ok m') (hfp:a.fp=[st.nx]) (hm:∀ b,b≠st.nx→m'.get b=st.mem.get b):Rf B ⟨fs.e,fs.z,a::fs.H⟩ ⟨st.env,m',st.nx+1⟩:=by
 refine ⟨h.env,h.hold.new a ha hfp hm,Nat.le_succ_of_le h.le,fun b hb hl=>?_,fun b hb=>?_,h.zle,h.zin⟩
 ·have:=h.le
  exact (hm b (by omega)).trans (h.old b hb hl)
 have hb:b∈qT (a::fs.H):=hb
 rw [kD,hfp] at hb
 rcases List.mem_cons.1 hb with rfl | hb
 ·exact .inl h.le
 exact h.own b hb
end
inductive By:List HA→HA→HA→List HA→Prop where
 | head (a a':HA) (l:List HA):By (a::l) a a' (a'::l)
 | tail (x a a':HA) (l l':List HA) (h:By l a a' l'):By (x::l) a a' (x::l')
theorem lR {a a':HA} {l:List HA}:By (a::l) a a' (a'::l):=.head ..
theorem oH {x a a':HA} {l l':List HA} (h:By l a a' l'):By (x::l) a a' (x::l'):=.tail _ _ _ _ _ h
theorem By.mem {l l':List HA} {a a':HA} (h:By l a a' l'):a∈l:=by
 induction h with
 | head=>simp
 | tail x a a' l l' h ih=>simp [ih]
theorem By.split {l l':List HA} {a a':HA} (h:By l a a' l'):∃ p q,l=p++a::q∧l'=p++a'::q:=by
 induction h with
 | head a a' l=>exact ⟨[],l,rfl,rfl⟩
 | tail x a a' l l' h ih =>
  obtain ⟨p,q,rfl,rfl⟩:=ih
  exact ⟨x::p,q,rfl,rfl⟩
theorem vW {H:List HA} {b:Nat}:b∈qT H↔∃ a,a∈H∧b∈a.fp:=by simp [qT,List.mem_flatMap]
section
variable {B:rR} {fs:Sf} {st:AS}
theorem Rf.rep (h:Rf B fs st) {a a':HA} {H':List HA} {m':Tr jX} {nx':Nat} (hr:By fs.H a a' H') (hn:st.nx≤nx') (ha:a'.ok m') (hf:∀ b,b∈a'.fp→b∈a.fp∨(st.nx≤b∧b<nx')) (hnd:a'.fp.Nodup)
  (hm:∀ b,b<st.nx→b ∉ a.fp→m'.get b=st.mem.get b):Rf B ⟨fs.e,fs.z,H'⟩ ⟨st.env,m',nx'⟩:=by
 obtain ⟨p,q,e1,e2⟩:=hr.split
 subst e2
 have hH:=h.hold
 rw [e1] at hH
 have hown:=h.own
 rw [e1] at hown
 have hnd0:=hH.nd
 rw [kM,kD] at hnd0
 obtain ⟨n1,n2,n3⟩:=List.nodup_append.1 hnd0
 obtain ⟨n4,n5,n6⟩:=List.nodup_append.1 n2
 have hin:∀ b,b∈qT p∨b∈qT q→b ∉ a.fp∧b<st.nx:=by
  intro b hb
  refine ⟨fun hba=>?_,hH.lt b (by rw [kM,kD];simp;rcases hb with hb | hb<;>simp [hb])⟩
  rcases hb with hb | hb
  ·exact n3 b hb b (by simp [hba]) rfl
  exact n6 b hba b hb rfl
 refine ⟨h.env,⟨fun b k hb=>?_,fun x hx=>?_,fun b hb=>?_,?_⟩,Nat.le_trans h.le hn,fun b hb hl=>?_,fun b hb=>?_,h.zle,h.zin⟩
 ·obtain ⟨h1,h2,h3⟩:=hH.z b k hb
  rw [kM,kD] at h3 ⊢
  simp only [List.mem_append,not_or] at h3 ⊢
  refine ⟨by rw [hm b h2 h3.2.1];exact h1,Nat.lt_of_lt_of_le h2 hn,h3.1,fun hb2=>?_,h3.2.2⟩
  rcases hf b hb2 with h4 | h4
  ·exact h3.2.1 h4
  omega
 ·simp only [List.mem_append,List.mem_cons] at hx
  have hk:∀ x,x∈p∨x∈q→x.ok m':=fun x hx=>by
   refine HA.ok_of (hH.h x (by simp;rcases hx with hx | hx<;>simp [hx])) fun b hb=>?_
   have:=hin b (by rcases hx with hx | hx;exact .inl (vW.2 ⟨x,hx,hb⟩);exact .inr (vW.2 ⟨x,hx,hb⟩))
   exact hm b this.2 this.1
  rcases hx with hx | rfl | hx
  ·exact hk x (.inl hx)
  ·exact ha
  exact hk x (.inr hx)
 ·rw [kM,kD] at hb
  simp only [List.mem_append] at hb
  rcases hb with hb | hb | hb
  ·exact Nat.lt_of_lt_of_le (hin b (.inl hb)).2 hn
  ·rcases hf b hb with h4 | h4
   ·exact Nat.lt_of_lt_of_le (hH.lt b (by rw [kM,kD];simp [h4])) hn
   exact h4.2
  exact Nat.lt_of_lt_of_le (hin b (.inr hb)).2 hn
 ·rw [kM,kD]
  have hd:∀ b,b∈qT p∨b∈qT q→b ∉ a'.fp:=fun b hb hb2=>by
   have:=hin b hb
   rcases hf b hb2 with h4 | h4
   ·exact this.1 h4
   omega
  refine List.nodup_append.2 ⟨n1,List.nodup_append.2 ⟨hnd,n5,fun x hx y hy e=>?_⟩,fun x hx y hy e=>?_⟩
  ·subst e;exact hd x (.inr hy) hx
  subst e
  rcases List.mem_append.1 hy with hy | hy
  ·exact hd x (.inl hx) hy
  exact n3 x hx x (by simp [hy]) rfl
 ·have hb1:b<st.nx:=Nat.lt_of_lt_of_le hb h.le
  refine (hm b hb1 fun hba=>?_).trans (h.old b hb hl)
  rcases hown b (by rw [kM,kD];simp [hba]) with h1 | h1
  ·omega
  exact hl h1
 have hb:b∈qT (p++a'::q):=hb
 rw [kM,kD] at hb
 simp only [List.mem_append] at hb
 rcases hb with hb | hb | hb
 ·exact hown b (by rw [kM,kD];simp [hb])
 ·rcases hf b hb with h4 | h4
  ·exact hown b (by rw [kM,kD];simp [h4])
  exact .inl (Nat.le_trans h.le h4.1)
 exact hown b (by rw [kM,kD];simp [hb])
theorem Rf.frz (h:Rf B fs st) {p q:List HA} {b:Nat} {k:jX} {a:HA} (e:fs.H=p++a::q) (hfp:a.fp=[b]) (ha:∀ m,a.ok m→m.get b=some k):Rf B ⟨fs.e,fun x y=>fs.z x y∨(x=b∧y=k),p++q⟩ st:=by
 have hH:=h.hold
 rw [e] at hH
 have hown:=h.own
 rw [e] at hown
 have hnd0:=hH.nd
 rw [kM,kD,hfp] at hnd0
 have hbk:=ha _ (hH.h a (by simp))
 have hnb:b ∉ qT (p++q):=by
  rw [kM]
  obtain ⟨n1,n2,n3⟩:=List.nodup_append.1 hnd0
  simp only [List.mem_append,not_or]
  refine ⟨fun hb=>n3 b hb b (by simp) rfl,fun hb=>?_⟩
  exact (List.nodup_cons.1 n2).1 hb
 refine ⟨h.env,⟨fun x y hx=>?_,fun x hx=>?_,fun x hx=>?_,?_⟩,h.le,h.old,fun x hx=>?_,⟨fun x y hx=>.inl (h.zle x y hx)⟩,fun x y hx=>?_⟩
 ·rcases hx with hx | ⟨rfl,rfl⟩
  ·obtain ⟨h1,h2,h3⟩:=hH.z x y hx
   refine ⟨h1,h2,fun h4=>h3 ?_⟩
   rw [kM] at h4 ⊢
   rw [kD]
   simp only [List.mem_append] at h4 ⊢
   rcases h4 with h4 | h4<;>simp [h4]
  exact ⟨hbk,hH.lt _ (by rw [kM,kD,hfp];simp),hnb⟩
 ·refine hH.h x ?_
  simp only [List.mem_append,List.mem_cons] at hx ⊢
  rcases hx with hx | hx<;>simp [hx]
 ·refine hH.lt x ?_
  have hx:x∈qT (p++q):=hx
  rw [kM] at hx ⊢
  rw [kD]
  simp only [List.mem_append] at hx ⊢
  rcases hx with hx | hx<;>simp [hx]
 ·rw [kM]
  obtain ⟨n1,n2,n3⟩:=List.nodup_append.1 hnd0
  exact List.nodup_append.2 ⟨n1,(List.nodup_cons.1 n2).2,fun x hx y hy=>n3 x hx y (by simp [hy])⟩
 ·refine hown x ?_
  have hx:x∈qT (p++q):=hx
  rw [kM] at hx ⊢
  rw [kD]
  simp only [List.mem_append] at hx ⊢
  rcases hx with hx | hx<;>simp [hx]
 rcases hx with hx | ⟨rfl,rfl⟩
 ·exact h.zin x y hx
 exact .inr (hown x (by rw [kM,kD,hfp];simp))
end
def FL (call:iJ) (B:rR) (l:List I) (fs:Sf) (Q:Sf→Prop):Prop:=∀ st,Rf B fs st→Wp (I4 call l st) fun st'=>∃ fs',Rf B fs' st'∧Q fs'
def FX (call:iJ) (k:Nat) (B:rR) (c:XC) (fs:Sf) (Q:Exit→Sf→Prop):Prop:=∀ st,Rf B fs st→Wx (I3 call k c st) fun e st'=>∃ fs',Rf B fs' st'∧Q e fs'
def bK7 (Qn:Sf→Prop) (Q:Exit→Sf→Prop):Exit→Sf→Prop:=fun e fs=>match e with
 | .normal=>Qn fs
 | e=>Q e fs
section
variable {call:iJ} {k:Nat} {B:rR} {fs:Sf} {Q:Exit→Sf→Prop}
theorem bJh {c:XC} {Q':Exit→Sf→Prop} (h:FX call k B c fs Q') (g:∀ e fs,Q' e fs→Q e fs):FX call k B c fs Q:=fun st r=>(h st r).mono fun e st' ⟨fs',r',q⟩=>⟨fs',r',g e fs' q⟩
theorem xG {l:List I} (h:FL call B l fs (Q .normal)):FX call k B (.region l) fs Q:=fun st r=>bB6 (h st r)
theorem dE {a b : XC} (h : FX call k B a fs (bK7 (fun fs' => FX call k B b fs' Q) Q)) : FX call k B (.seq a b) fs Q := fun st r => bQt ((h st r).mono fun e st' ⟨fs', r', q⟩ => by
  cases e with
  | normal=>exact q st' r'
  | _=>exact ⟨fs',r',q⟩)
theorem xR {l:List I} {b:XC} (h:FL call B l fs (fun fs'=>FX call k B b fs' Q)):FX call k B (.seq (.region l) b) fs Q:=dE (xG h)
theorem bGj {c c':XC} (he:∀ st,I3 call k c st=I3 call k c' st) (h:FX call k B c' fs Q):FX call k B c fs Q:=fun st r=>by rw [he];exact h st r
theorem Z6 {a b c : XC} (h : FX call k B (.seq a (.seq b c)) fs Q) : FX call k B (.seq (.seq a b) c) fs Q := bGj (fun st => by
  simp only [I3]
  cases I3 call k a st with
  | none=>rfl
  | some p=>obtain ⟨e,st1⟩:=p;cases e<;>rfl) h
theorem dX {r:XC} (h:FX call k B r fs Q):FX call k B (.seq .skip r) fs Q:=bGj (fun _=>rfl) h
theorem eE {id:Nat} {r:XC} (h:Q (.exit id) fs):FX call k B (.seq (.exit id) r) fs Q:=fun st rf=>⟨fs,rf,h⟩
theorem mC {r:XC} (h:Q .ret fs):FX call k B (.seq .ret r) fs Q:=fun st rf=>⟨fs,rf,h⟩
theorem mQ (h:Q .normal fs):FX call k B .skip fs Q:=fun st rf=>⟨fs,rf,h⟩
theorem xT (h:Q .ret fs):FX call k B .ret fs Q:=fun st rf=>⟨fs,rf,h⟩
theorem bAq {id:Nat} (h:Q (.exit id) fs):FX call k B (.exit id) fs Q:=fun st rf=>⟨fs,rf,h⟩
theorem bQ {id:Nat} {b:XC} (h:FX call k B b fs fun e=>Q (P8 id e)):FX call k B (.block id b) fs Q:=fun st r=>bGw (h st r)
theorem kJ {c:Od} {a b:XC} {t:Bool} (hc:fs.ev c=.c (.v (.bool t))) (h1:t=true→FX call k B a fs Q) (h2:t=false→FX call k B b fs Q):FX call k B (.cond c a b) fs Q:=fun st r=>by
 refine bL2 (t:=t) (by rw [r.ev];exact hc) ?_
 cases t with
 | true=>exact h1 rfl st r
 | false=>exact h2 rfl st r
theorem xD {c:Od} {a b:XC} {P:Prop} [Decidable P] (hc:fs.ev c=.c (.v (.bool (decide P)))) (h1:P→FX call k B a fs Q) (h2:¬ P→FX call k B b fs Q):FX call k B (.cond c a b) fs Q:=
 kJ hc (fun h=>h1 (of_decide_eq_true h)) (fun h=>h2 (of_decide_eq_false h))
theorem Ae {c:Od} {a b:XC} {P:Prop} [Decidable P] (hc:fs.ev c=.c (.v (.bool (!decide P)))) (h1:¬ P→FX call k B a fs Q) (h2:P→FX call k B b fs Q):FX call k B (.cond c a b) fs Q:=
 kJ hc (fun h=>h1 (by simpa using h)) (fun h=>h2 (by simpa using h))
theorem aWD {c:Od} {a b:XC} (hc:fs.ev c=.c (.v (.bool true))) (h:FX call k B a fs Q):FX call k B (.cond c a b) fs Q:=kJ hc (fun _=>h) (fun h=>by cases h)
theorem Et {c:Od} {a b:XC} (hc:fs.ev c=.c (.v (.bool false))) (h:FX call k B b fs Q):FX call k B (.cond c a b) fs Q:=kJ hc (fun h=>by cases h) (fun _=>h)
theorem Ez {c : Od} {a b r : XC} (h : FX call k B (.cond c (.seq a r) (.seq b r)) fs Q) : FX call k B (.seq (.cond c a b) r) fs Q := bGj (fun st => by
  simp only [I3]
  cases (st.ev c).bool? with
  | none=>rfl
  | some t=>cases t<;>rfl) h
theorem iE {Qn:Sf→Prop} (h:Qn fs):bK7 Qn Q .normal fs:=h
theorem oD {Qn:Sf→Prop} (h:Q .ret fs):bK7 Qn Q .ret fs:=h
def LQ (I:Nat→Sf→Prop) (n:Nat) (Q:Exit→Sf→Prop):Exit→Sf→Prop:=fun e fs=>match e with
 | .normal=>∃ n',n'<n∧I n' fs
 | e=>Q e fs
theorem nN {I:Nat→Sf→Prop} {n n':Nat} (h:n'<n) (hi:I n' fs):LQ I n Q .normal fs:=⟨n',h,hi⟩
theorem Ou {I:Nat→Sf→Prop} {n:Nat} (h:Q .ret fs):LQ I n Q .ret fs:=h
theorem oC {I:Nat→Sf→Prop} {n id:Nat} (h:Q (.exit id) fs):LQ I n Q (.exit id) fs:=h
theorem eT {b:XC} (I:Nat→Sf→Prop) (step:∀ n fs,I n fs→FX call k B b fs (LQ I n Q)) (n:Nat) (h0:I n fs) (hk:n<k):FX call k B (.loop b) fs Q:=by
 have key:∀ (n:Nat) (j:Nat) (fs:Sf) (st:AS),n<j→I n fs→Rf B fs st→Wx (Nw (I3 call k b) j st) fun e st'=>∃ fs',Rf B fs' st'∧Q e fs':=by
  intro n
  induction n using Nat.strongRecOn with
  | ind n ih =>
   intro j fs st hj hi r
   obtain ⟨j,rfl⟩:∃ i,j=i+1:=⟨j - 1,by omega⟩
   refine bKY ((step n fs hi st r).mono fun e st' ⟨fs',r',q⟩=>?_)
   cases e with
   | normal =>
    obtain ⟨n',hn,hi'⟩:=q
    exact ih n' hn j fs' st' (by omega) hi' r'
   | _=>exact ⟨fs',r',q⟩
 exact fun st r=>bLT (key n k fs st hk h0 r)
inductive Sr (e:O6):List (Nat×AV)→Prop where
 | nil:Sr e []
 | cons (i:Nat) (v:AV) (l:List (Nat×AV)) (h:e i=v) (t:Sr e l):Sr e ((i,v)::l)
theorem D3 {e:O6}:Sr e []:=.nil
theorem lL {e:O6} {i:Nat} {v:AV} {l:List (Nat×AV)} (h:e i=v) (t:Sr e l):Sr e ((i,v)::l):=.cons i v l h t
theorem Sr.eq {e:O6} {l:List (Nat×AV)} (h:Sr e l):aPv e l=e:=by
 induction h with
 | nil=>rfl
 | cons i v l h t ih =>
  show aDK (aPv e l) i v=e
  rw [ih]
  exact aG3 h
theorem zH {c:XC} {e:O6} {z:fR} {H:List HA} {l:List (Nat×AV)} (h:Sr e l) (hx:∀ e',FX call k B c ⟨aPv e' l,z,H⟩ Q):FX call k B c ⟨e,z,H⟩ Q:=by
 have:=hx e
 rw [h.eq] at this
 exact this
end
open Go.RowKit
open Go.Eng (Od need need_pos iU mR binV binBV)
def lenOf:AV→Option Nat
 | .c (.v (.slice none 0 0))=>some 0
 | .c (.sl _ _ n _)=>some n
 | .c .em=>some 0
 | _=>none
def aAY (ev:Od→AV) (size:Nat):List C→List (Nat×Od)→Option (List C)
 | cs,[]=>some cs
 | cs,(i,x)::r=>match (ev x).cells? with
  | some ds=>need (ds.length=size∧i * size+size≤cs.length) (aAY ev size (mR cs (i * size) ds) r)
  | none=>none
theorem bF7 (st:AS) (size:Nat) (cs:List C) (l:List (Nat×Od)):yB st size cs l=aAY st.ev size cs l:=by
 induction l generalizing cs with
 | nil=>rfl
 | cons p l ih =>
  obtain ⟨i,x⟩:=p
  simp only [yB,aAY]
  cases (st.ev x).cells? with
  | none=>rfl
  | some ds=>simp only [ih]
def aOj (ev:Od→AV):List C→List (Nat×Nat×Od)→Option (List C)
 | cs,[]=>some cs
 | cs,(off,size,x)::r=>match (ev x).cells? with
  | some ds=>need (ds.length=size∧off+size≤cs.length) (aOj ev (mR cs off ds) r)
  | none=>none
theorem bD5 (st:AS) (cs:List C) (l:List (Nat×Nat×Od)):Ko st cs l=aOj st.ev cs l:=by
 induction l generalizing cs with
 | nil=>rfl
 | cons p l ih =>
  obtain ⟨i,j,x⟩:=p
  simp only [Ko,aOj]
  cases (st.ev x).cells? with
  | none=>rfl
  | some ds=>simp only [ih]
def aTN (ev:Od→AV):List Od→Option (List (Bool×List C))
 | []=>some []
 | x::r=>match ev x,aTN ev r with
  | .c c,some l=>some ((false,[c])::l)
  | .agg cs,some l=>some ((true,cs)::l)
  | _,_=>none
theorem bA3 (st:AS) (l:List Od):Hi st l=aTN st.ev l:=by
 induction l with
 | nil=>rfl
 | cons x l ih =>
  simp only [Hi,aTN,ih]
  cases st.ev x<;>cases aTN st.ev l<;>rfl
theorem Rf.evf {B:rR} {fs:Sf} {st:AS} (h:Rf B fs st):st.ev=fs.ev:=funext h.ev
theorem mem0 {a:HA} {l:List HA}:a∈a::l:=List.mem_cons_self ..
theorem mX {a x:HA} {l:List HA} (h:a∈l):a∈x::l:=List.mem_cons_of_mem _ h
theorem dN {n m:Nat} (h:Nat.ble n m=true):n≤m:=Nat.le_of_ble_eq_true h
section
variable {call:iJ} {B:rR} {fs:Sf} {l:List I} {Q:Sf→Prop} {d:Nat}
theorem lN (h:Q fs):FL call B [] fs Q:=fun st r=>bQJ ⟨fs,r,h⟩
theorem aFW {o:mK} {v:AV} (hc:∀ st:AS,callee st o=none) (h:∀ st,Rf B fs st→dK o st=some v) (hw:FL call B l (fs.put d v) Q):FL call B (⟨some d,none,o⟩::l) fs Q:=fun st r=>Oo (i_q (hc st) (h st r)) (hw _ (r.put d v))
theorem lM {x:Od} {v:AV} (hx:fs.ev x=v) (hw:FL call B l (fs.put d v) Q):FL call B (⟨some d,none,.mv x⟩::l) fs Q:=fun st r=>bW1 ((r.ev x).trans hx) (hw _ (r.put d v))
theorem lB {op:BinOp} {x y:Od} {u v r:Value} (hx:fs.ev x=.c (.v u)) (hy:fs.ev y=.c (.v v)) (h:pC op u v=some r) (hw:FL call B l (fs.put d (.c (.v r))) Q):FL call B (⟨some d,none,.bin op x y⟩::l) fs Q:=
 fun st rf=>bR0 ((rf.ev x).trans hx) ((rf.ev y).trans hy) h (hw _ (rf.put _ _))
theorem A8 {op:BinOp} {x y:Od} {u v r:Value} (hx:fs.ev x=.c (.v u)) (hy:fs.ev y=.c (.v v)) (h:binBV op u v=some r) (hw:FL call B l (fs.put d (.c (.v r))) Q):FL call B (⟨some d,none,.binB op x y⟩::l) fs Q:=
 aFW (fun _=>rfl) (fun st rf=>by simp only [dK,rf.ev,hx,hy,AV.val?,h];rfl) hw
theorem aSM {op:UnOp} {x:Od} {u r:Value} (hx:fs.ev x=.c (.v u)) (h:unW op u=some r) (hw:FL call B l (fs.put d (.c (.v r))) Q):FL call B (⟨some d,none,.un op x⟩::l) fs Q:=fun st rf=>bV1 ((rf.ev x).trans hx) h (hw _ (rf.put _ _))
theorem nE {k:IntKind} {x:Od} {k':IntKind} {n m:Int} (hx:fs.ev x=.c (.v (.int k' n))) (h:k.wrap n=m) (hw:FL call B l (fs.put d (.c (.v (.int k m)))) Q):FL call B (⟨some d,none,.cvi k x⟩::l) fs Q:=fun st rf=>bTf ((rf.ev x).trans hx) (by rw [h];exact hw _ (rf.put _ _))
theorem aEG {x:Od} {v:AV} {n:Nat} (hx:fs.ev x=v) (h:lenOf v=some n) (hw:FL call B l (fs.put d (.c (.v (.int .i64 n)))) Q):FL call B (⟨some d,none,.len false x⟩::l) fs Q:=by
 refine aFW (fun _=>rfl) (fun st rf=>?_) hw
 simp only [dK,rf.ev,hx]
 unfold lenOf at h
 split at h<;>first | (injection h with h;subst h;rfl) | cases h
theorem lF {off:Nat} {x:Od} {b o:Nat} (hx:fs.ev x=.c (.ptr b o)) (hw:FL call B l (fs.put d (.c (.ptr b (o+off)))) Q):FL call B (⟨some d,none,.fad off x⟩::l) fs Q:=fun st r=>bRO ((r.ev x).trans hx) (hw _ (r.put _ _))
theorem bEw {agg:Bool} {size off:Nat} {x:Od} {cs:List C} {v:AV} (hx:fs.ev x=.agg cs) (hl:off+size≤cs.length) (hv:Ek agg ((cs.drop off).take size)=v) (hw:FL call B l (fs.put d v) Q):FL call B (⟨some d,none,.fld agg size off x⟩::l) fs Q:=
 aFW (fun _=>rfl) (fun st rf=>by simp only [dK,rf.ev,hx];rw [need_pos hl,hv]) hw
theorem bNR {f:Nat} {first caps:List Od} {us cs:List (Bool×List C)} (h1:aTN fs.ev first=some us) (h2:aTN fs.ev caps=some cs) (hw:FL call B l (fs.put d (.c (.fn f us cs))) Q):FL call B (⟨some d,none,.mkf f first caps⟩::l) fs Q:=
 aFW (fun _=>rfl) (fun st rf=>by simp only [dK,bA3,rf.evf,h1,h2]) hw
theorem Eh {zero:List Value} {parts:List (Nat×Nat×Od)} {cs:List C} (h:aOj fs.ev (zero.map fun v=>.v v) parts=some cs) (hw:FL call B l (fs.put d (.agg cs)) Q):FL call B (⟨some d,none,.build zero parts⟩::l) fs Q:=
 aFW (fun _=>rfl) (fun st rf=>by simp only [dK,bD5,rf.evf,h]) hw
theorem bIi {mn:Bool} {x y:Od} {k:IntKind} {a b m:Int} (hx:fs.ev x=.c (.v (.int k a))) (hy:fs.ev y=.c (.v (.int k b))) (hm:(match mn with | false=>if b > a then b else a | true=>if b<a then b else a)=m) (hw:FL call B l (fs.put d (.c (.v (.int k m)))) Q):FL call B (⟨some d,none,.mx mn x y⟩::l) fs Q:=
 aFW (fun _=>rfl) (fun st rf=>by simp only [dK,rf.ev,hx,hy,AV.val?];rw [need_pos trivial];subst hm;cases mn<;>rfl) hw
theorem oP {size:Nat} {x i:Od} {b o n:Nat} {kd:IntKind} {z:Int} (hx:fs.ev x=.c (.sl b o n size)) (hi:fs.ev i=.c (.v (.int kd z))) (j:Nat) (hj:z=(j:Int)) (h:j<n) (hw:FL call B l (fs.put d (.c (.ptr b (o+j * size)))) Q):FL call B (⟨some d,none,.iad size x i⟩::l) fs Q:=
 fun st r=>bTq ((r.ev x).trans hx) ((r.ev i).trans (by rw [hi,hj])) h (hw _ (r.put _ _))
theorem mL {agg:Bool} {size:Nat} {x:Od} {b o ty:Nat} {cs:List C} {v:AV} (hx:fs.ev x=.c (.ptr b o)) (hm:HA.blk b (.cells ty cs)∈fs.H) (hl:o+size≤cs.length) (hv:Ek agg ((cs.drop o).take size)=v) (hw:FL call B l (fs.put d v) Q):FL call B (⟨some d,none,.load agg size x⟩::l) fs Q:=
 fun st r=>Oo (bFD ((r.ev x).trans hx) (r.hold.h _ hm) hl) (by rw [hv];exact hw _ (r.put _ _))
theorem aJq {o:mK} {k:jX} {w:Nat→AV} (hc:∀ st:AS,callee st o=none) (hq:∀ st,dK o st=none) (he:∀ st,Rf B fs st→eP o st=some (st.new k,w st.nx)) (hw:∀ b,FL call B l (fs.own d (w b) (.blk b k)) Q):FL call B (⟨some d,none,o⟩::l) fs Q:=fun st r=>by
 refine Oo (i_e (hc st) (hq st) (he st r)) ?_
 have r1:=r.new (a:=.blk st.nx k) (m':=(st.new k).mem) (by show (st.new k).mem.get st.nx=some k;rw [Ji,if_pos rfl]) rfl (fun b hb=>by rw [Ji,if_neg fun e=>hb e.symm])
 exact hw st.nx _ (r1.put d (w st.nx))
theorem aEu {ty:Nat} {x:Od} {v:AV} {cs:List C} (hx:fs.ev x=v) (hv:v.cells? = some cs) (hw:∀ b,FL call B l (fs.own d (.c (.ptr b 0)) (.blk b (.cells ty cs))) Q):FL call B (⟨some d,none,.box ty x⟩::l) fs Q:=
 aJq (w:=fun b=>.c (.ptr b 0)) (fun _=>rfl) (fun _=>rfl) (fun st r=>by simp only [eP,r.ev,hx,hv]) hw
theorem uF {ty:Nat} {zero:List Value} (hw:∀ b,FL call B l (fs.own d (.c (.ptr b 0)) (.blk b (.cells ty (zero.map fun v=>.v v)))) Q):FL call B (⟨some d,none,.alloc ty zero⟩::l) fs Q:=
 aJq (w:=fun b=>.c (.ptr b 0)) (fun _=>rfl) (fun _=>rfl) (fun st r=>rfl) hw
theorem gU {ty size len:Nat} {zero:List Value} {parts:List (Nat×Od)} {cs:List C} (h:aAY fs.ev size (Gi len (zero.map fun v=>.v v)) parts=some cs) (hw:∀ b,FL call B l (fs.own d (.c (.sl b 0 len size)) (.blk b (.cells ty cs))) Q):FL call B (⟨some d,none,.bslice ty size len zero parts⟩::l) fs Q:=
 aJq (w:=fun b=>.c (.sl b 0 len size)) (fun _=>rfl) (fun _=>rfl) (fun st r=>by simp only [eP,bF7,r.evf,h]) hw
theorem aSy {size:Nat} {x y:Od} {b o ty:Nat} {cs ds:List C} {v:AV} {H':List HA} (hx:fs.ev x=.c (.ptr b o)) (hy:fs.ev y=v) (hv:v.cells? = some ds) (hr:By fs.H (.blk b (.cells ty cs)) (.blk b (.cells ty (mR cs o ds))) H') (hs:ds.length=size) (h:o+size≤cs.length)
  (hw:FL call B l (fs.heap H') Q):FL call B (⟨none,none,.store size x y⟩::l) fs Q:=fun st r=>by
 refine bIJ ((r.ev x).trans hx) ((r.ev y).trans hy) hv (r.hold.h _ hr.mem) hs h ?_
 exact hw _ (r.rep hr (Nat.le_refl _) (by show (st.setB b _).mem.get b=_;rw [aBm,if_pos rfl]) (fun c hc=>.inl hc) (by simp [HA.fp]) (fun c _ hc=>by show (st.setB b _).mem.get c=_;rw [aBm,if_neg fun e=>hc (by simp [HA.fp,e])]))
def Src (z:fR) (H:List HA) (size:Nat) (v:AV) (m:Nat) (news:List C):Prop:=∀ (st:AS) (nx:Nat),aDL z H st.mem nx→st.row size v=some (m,news)
theorem bKS {z:fR} {H:List HA} {size b o m ty:Nat} {cs ds:List C} (hm:HA.blk b (.cells ty cs)∈H) (hl:o+m * size≤cs.length) (hd:(cs.drop o).take (m * size)=ds):Src z H size (.c (.sl b o m size)) m ds:=fun st nx h=>by
 rw [aXc (h.h _ hm) hl,hd]
theorem aXm {st:AS} (r:Rf B fs st) {ty size bytes n m:Nat} {zero:List Value} {x y:Od} {u v:AV} {cs news:List C} {H':AV→List HA} (hx:fs.ev x=u) (hy:fs.ev y=v) (hrow:st.row size v=some (m,news)) (hr:∀ u',By fs.H (.row u ty size n cs) (.row u' ty size (n+m) (cs++news)) (H' u')) (hl:news.length=m * size) (hb:(n+m) * bytes≤140737488355328) (hn:n+m≤9223372036854775807)
    (hw:∀ c':C,pG c' c'=true→FL call B l (fs.res d (.c c') fs.z (H' (.c c'))) Q):Wp (I4 call (⟨some d,none,.app ty size bytes zero x y⟩::l) st) fun st'=>∃ fs',Rf B fs' st'∧Q fs':=by
  obtain ⟨g1,g2⟩:=r.hold.h _ (hr qY).mem
  have hx':=(r.ev x).trans hx
  have hy':=(r.ev y).trans hy
  cases m with
  | zero =>
    have e:news=[]:=List.eq_nil_of_length_eq_zero (by omega)
    subst e
    refine bP3 (u:=u) hx' ?_ hy' hrow ?_
    · rcases g2 with ⟨_, rfl⟩ | ⟨b, rfl, _⟩
      · exact .inr rfl
      · exact .inl ⟨_,_,_,_,rfl⟩
    · have h1:=hr u
      rw [List.append_nil,Nat.add_zero] at h1
      obtain ⟨c0,hc0,hs0⟩:∃ c0,u=.c c0∧pG c0 c0=true:=by rcases g2 with ⟨_,rfl⟩ | ⟨b,rfl,_⟩<;>exact ⟨_,rfl,by simp [pG,aVr]⟩
      subst hc0
      exact hw c0 hs0 _ ((r.rep h1 (Nat.le_refl _) (r.hold.h _ h1.mem) (fun b hb=>.inl hb) (by rcases g2 with ⟨_,h⟩ | ⟨b,h,_⟩<;>injection h with h<;>subst h<;>simp [HA.fp]) (fun _ _ _=>rfl)).put d (.c c0))
  | succ m =>
    rcases g2 with ⟨rfl,rfl⟩ | ⟨b,rfl,h3⟩
    · have e : cs = [] := List.eq_nil_of_length_eq_zero (by omega)
      subst e
      refine bHn hx' hy' hrow (by simpa using hb) (by omega) ?_
      have h1:=hr (.c (.sl st.nx 0 (m+1) size))
      rw [List.nil_append,Nat.zero_add] at h1
      exact hw _ (by simp [pG]) _ ((r.rep (m':=(st.new (.cells ty news)).mem) (nx':=st.nx+1) h1 (by omega) ⟨hl,.inr ⟨st.nx,rfl,by rw [Ji,if_pos rfl]⟩⟩ (fun c hc=>.inr (by simp [HA.fp] at hc;omega)) (by simp [HA.fp]) (fun c hc _=>by rw [Ji,if_neg (by omega)])).put d _)
    · refine bMg hx' hy' hrow h3 (by omega) (by simpa using hb) (by omega) ?_
      have h1:=hr (.c (.sl st.nx 0 (n+(m+1)) size))
      have hb2:b<st.nx:=r.hold.lt b (vW.2 ⟨_,h1.mem,by simp [HA.fp]⟩)
      refine hw _ (by simp [pG]) _ ((r.rep (m':=(st.moveB b (.cells ty (cs.drop 0++news))).mem) (nx':=st.nx+1) h1 (by omega) ⟨by rw [List.length_append,g1,hl,← Nat.add_mul],.inr ⟨st.nx,rfl,by rw [U8,if_pos rfl];rfl⟩⟩ (fun c hc=>.inr (by simp [HA.fp] at hc;omega)) (by simp [HA.fp]) (fun c hc hc2=>?_)).put d _)
      rw [U8,if_neg (by omega),if_neg fun e=>hc2 (by simp [HA.fp,e])]
theorem bPP {ty size bytes n m:Nat} {zero:List Value} {x y:Od} {u v:AV} {cs news:List C} {H':AV→List HA} (hx:fs.ev x=u) (hy:fs.ev y=v) (hs:Src fs.z fs.H size v m news) (hr:∀ u',By fs.H (.row u ty size n cs) (.row u' ty size (n+m) (cs++news)) (H' u')) (hl:news.length=m * size) (hb:(n+m) * bytes≤140737488355328) (hn:n+m≤9223372036854775807)
  (hw:∀ c':C,pG c' c'=true→FL call B l (fs.res d (.c c') fs.z (H' (.c c'))) Q):FL call B (⟨some d,none,.app ty size bytes zero x y⟩::l) fs Q:=fun st r=>aXm r hx hy (hs st st.nx r.hold) hr hl hb hn hw
theorem bQg {a:HA} {p q:List HA} {b:Nat} {k:jX} (e:fs.H=p++a::q) (hfp:a.fp=[b]) (ha:∀ m,a.ok m→m.get b=some k) (hw:∀ z',zle fs.z z'→z' b k→FL call B l (fs.frz z' (p++q)) Q):FL call B l fs Q:=fun st r =>
 hw _ ⟨fun _ _ h=>.inl h⟩ (.inr ⟨rfl,rfl⟩) st (r.frz e hfp ha)
theorem lD {dd:Option Nat} {s:Nat} {want:Bool} {o:mK} (h:fs.e s=.c (.v (.bool want))) (hw:FL call B (⟨dd,none,o⟩::l) fs Q):FL call B (⟨dd,some (s,want),o⟩::l) fs Q:=fun st r=>cCu ((r.env s).trans h) (hw st r)
theorem lX {s:Nat} {want:Bool} {o:mK} (h:fs.e s=.c (.v (.bool (!want)))) (hw:FL call B l (fs.put d (.tup [])) Q):FL call B (⟨some d,some (s,want),o⟩::l) fs Q:=fun st r=>cAt ((r.env s).trans h) (hw _ (r.put _ _))
theorem bQ2 {s:Nat} {want:Bool} {o:mK} (h:fs.e s=.tup []) (hw:FL call B l (fs.put d (.tup [])) Q):FL call B (⟨some d,some (s,want),o⟩::l) fs Q:=fun st r=>bVY ((r.env s).trans h) (hw _ (r.put _ _))
theorem nV (s:Nat) {t:Bool} (h:fs.e s=.c (.v (.bool t))) (h1:t=true→FL call B l (fs.put s (.c (.v (.bool true)))) Q) (h2:t=false→FL call B l (fs.put s (.c (.v (.bool false)))) Q):FL call B l fs Q:=by
 have e:fs.put s (.c (.v (.bool t)))=fs:=by
  cases fs;simp only [Sf.put];rw [aG3 h]
 cases t with
 | true=>have:=h1 rfl;rw [e] at this;exact this
 | false=>have:=h2 rfl;rw [e] at this;exact this
theorem iO (s:Nat) {P:Prop} [Decidable P] (h:fs.e s=.c (.v (.bool (decide P)))) (h1:P→FL call B l (fs.put s (.c (.v (.bool true)))) Q) (h2:¬ P→FL call B l (fs.put s (.c (.v (.bool false)))) Q):FL call B l fs Q:=
 nV s h (fun h=>h1 (of_decide_eq_true h)) (fun h=>h2 (of_decide_eq_false h))
theorem aDb (s:Nat) {P:Prop} [Decidable P] (h:fs.e s=.c (.v (.bool (!decide P)))) (h1:¬ P→FL call B l (fs.put s (.c (.v (.bool true)))) Q) (h2:P→FL call B l (fs.put s (.c (.v (.bool false)))) Q):FL call B l fs Q:=
 nV s h (fun h=>h1 (by simpa using h)) (fun h=>h2 (by simpa using h))
end
theorem vR {z:Int} (h : -9223372036854775808≤z∧z<9223372036854775808):IntKind.i64.wrap z=z:=bJ9 h.1 h.2
theorem bQN {z:Int} (h:0≤z∧z<4294967296):IntKind.u32.wrap z=z:=by
 simp [IntKind.wrap,IntKind.bits,IntKind.signed];omega
theorem cDh {z:Int} (h:0≤z∧z<18446744073709551616):IntKind.u64.wrap z=z:=by
 simp [IntKind.wrap,IntKind.bits,IntKind.signed];omega
theorem wu8 {z:Int} (h:0≤z∧z<256):IntKind.u8.wrap z=z:=by
 simp [IntKind.wrap,IntKind.bits,IntKind.signed];omega
theorem bHP (z:Int):IntKind.u32.wrap z=z % 4294967296:=by
 simp [IntKind.wrap,IntKind.bits,IntKind.signed]
theorem aYs (z:Int):IntKind.u64.wrap z=z % 18446744073709551616:=by
 simp [IntKind.wrap,IntKind.bits,IntKind.signed]
theorem aSG {k:IntKind} {a b r:Int} (ha:0≤a) (hb:0<b) (h:k.wrap (a / b)=r):pC .quo (.int k a) (.int k b)=some (.int k r):=by
 have:a.tdiv b=a / b:=Int.tdiv_eq_ediv_of_nonneg ha
 simp [pC,binV,need,show b≠0 by omega,this,h]
theorem aPb {k:IntKind} {a b r:Int} (ha:0≤a) (hb:0<b) (h:a % b=r):pC .rem (.int k a) (.int k b)=some (.int k r):=by
 have:a.tmod b=a % b:=Int.tmod_eq_emod_of_nonneg ha
 simp [pC,binV,need,show b≠0 by omega,this,h]
theorem tI {k:IntKind} {a b r:Int} (h:k.wrap (a+b)=r):pC .add (.int k a) (.int k b)=some (.int k r):=by rw [bS6,h]
theorem wN {k:IntKind} {a b r:Int} (h:k.wrap (a - b)=r):pC .sub (.int k a) (.int k b)=some (.int k r):=by rw [bTm,h]
theorem aXD {k:IntKind} {a b r:Int} (h:k.wrap (a * b)=r):pC .mul (.int k a) (.int k b)=some (.int k r):=by rw [bMj,h]
open Go.RowKit
open Go.Eng (Od need need_pos iU mR binV binBV)
def FCt (call:iJ) (f:Nat) (args:List AV) (z:fR) (H:List HA) (Post:AV→fR→List HA→Prop):Prop:=
 ∀ mem nx,aDL z H mem nx→∃ v mem' nx' z' H',call f args mem nx=some (v,mem',nx')∧nx≤nx'∧(∀ b,b<nx→b ∉ qT H→mem'.get b=mem.get b)∧aDL z' H' mem' nx'∧zle z z' ∧
  (∀ b k,z' b k→z b k∨nx≤b∨b∈qT H)∧(∀ b,b∈qT H'→nx≤b∨b∈qT H)∧Post v z' H'
def FC (call:iJ) (f:Nat) (args:List AV) (z:fR) (Post:AV→fR→Prop):Prop:=FCt call f args z [] fun v z' H'=>H'=[]∧Post v z'
theorem FCt.mono {call:iJ} {f:Nat} {args:List AV} {z:fR} {H:List HA} {P Q:AV→fR→List HA→Prop} (h:FCt call f args z H P) (g:∀ v z' H',zle z z'→P v z' H'→Q v z' H'):FCt call f args z H Q:=fun mem nx hh=>by
 obtain ⟨v,mem',nx',z',H',h1,h2,h3,h4,h5,h6,h7,h8⟩:=h mem nx hh
 exact ⟨v,mem',nx',z',H',h1,h2,h3,h4,h5,h6,h7,g v z' H' h5 h8⟩
theorem FC.mono {call:iJ} {f:Nat} {args:List AV} {z:fR} {P Q:AV→fR→Prop} (h:FC call f args z P) (g:∀ v z',zle z z'→P v z'→Q v z'):FC call f args z Q:=FCt.mono h fun v z' H' hz ⟨h1,h2⟩=>⟨h1,g v z' hz h2⟩
theorem aDL.left {z:fR} {Hs Hr:List HA} {m:Tr jX} {nx:Nat} (h:aDL z (Hs++Hr) m nx):aDL z Hs m nx:=by
 refine ⟨fun b k hb=>?_,fun a ha=>h.h a (by simp [ha]),fun b hb=>h.lt b (by rw [kM];simp [hb]),?_⟩
 ·obtain ⟨h1,h2,h3⟩:=h.z b k hb
  exact ⟨h1,h2,fun h4=>h3 (by rw [kM];simp [h4])⟩
 have:=h.nd
 rw [kM] at this
 exact (List.nodup_append.1 this).1
theorem Rf.callR {B:rR} {fs:Sf} {st:AS} (r:Rf B fs st) {Hs Hr H':List HA} (e:fs.H=Hs++Hr) {mem':Tr jX} {nx':Nat} {z':fR} (hn:st.nx≤nx') (hm:∀ b,b<st.nx→b ∉ qT Hs→mem'.get b=st.mem.get b) (hh:aDL z' H' mem' nx') (hz:CE.zle fs.z z')
    (hin:∀ b k,z' b k→fs.z b k∨st.nx≤b∨b∈qT Hs) (hown:∀ b,b∈qT H'→st.nx≤b∨b∈qT Hs):Rf B ⟨fs.e,z',H'++Hr⟩ ⟨st.env,mem',nx'⟩:=by
  have hH:=r.hold
  rw [e] at hH
  have ho:=r.own
  rw [e] at ho
  have hnd:=hH.nd
  rw [kM] at hnd
  obtain ⟨n1,n2,n3⟩:=List.nodup_append.1 hnd
  have hs:∀ b,b∈qT Hs→b∈qT (Hs++Hr):=fun b hb=>by rw [kM];simp [hb]
  have hr:∀ b,b∈qT Hr→b∈qT (Hs++Hr):=fun b hb=>by rw [kM];simp [hb]
  have hrl:∀ b,b∈qT Hr→b<st.nx∧b ∉ qT Hs:=fun b hb=>⟨hH.lt b (hr b hb),fun h4=>n3 b h4 b hb rfl⟩
  refine ⟨r.env,⟨fun b k hb=>?_,fun a ha=>?_,fun b hb=>?_,?_⟩,Nat.le_trans r.le hn,fun b hb hl=>?_,fun b hb=>?_,⟨fun b k hb=>hz b k (r.zle b k hb)⟩,fun b k hb=>?_⟩
  · obtain ⟨h1, h2, h3⟩ := hh.z b k hb
    refine ⟨h1,h2,?_⟩
    rw [kM]
    simp only [List.mem_append,not_or]
    refine ⟨h3,fun h4=>?_⟩
    have h5:=hrl b h4
    rcases hin b k hb with h6 | h6 | h6
    · exact (hH.z b k h6).2.2 (hr b h4)
    · omega
    · exact h5.2 h6
  · rcases List.mem_append.1 ha with ha | ha
    · exact hh.h a ha
    · refine HA.ok_of (hH.h a (by simp [ha])) fun b hb => ?_
      have h5:=hrl b (vW.2 ⟨a,ha,hb⟩)
      exact hm b h5.1 h5.2
  · have hb:b∈qT (H'++Hr):=hb
    rw [kM] at hb
    rcases List.mem_append.1 hb with hb | hb
    · exact hh.lt b hb
    · exact Nat.lt_of_lt_of_le (hrl b hb).1 hn
  · rw [kM]
    refine List.nodup_append.2 ⟨hh.nd,n2,fun x hx y hy e=>?_⟩
    subst e
    have h5:=hrl x hy
    rcases hown x hx with h6 | h6
    · omega
    · exact h5.2 h6
  · refine (hm b (Nat.lt_of_lt_of_le hb r.le) fun h4=>?_).trans (r.old b hb hl)
    rcases ho b (hs b h4) with h5 | h5
    · omega
    · exact hl h5
  · have hb:b∈qT (H'++Hr):=hb
    rw [kM] at hb
    rcases List.mem_append.1 hb with hb | hb
    · rcases hown b hb with h6 | h6
      · exact .inl (Nat.le_trans r.le h6)
      · exact ho b (hs b h6)
    · exact ho b (hr b hb)
  · rcases hin b k hb with h6 | h6 | h6
    · exact r.zin b k h6
    · exact .inr (.inl (Nat.le_trans r.le h6))
    · exact .inr (ho b (hs b h6))
section
variable {call:iJ} {B:rR} {fs:Sf} {l:List I} {Q:Sf→Prop} {d:Nat}
theorem aVZ {f:Nat} {args:List Od} {vs:List AV} {Hs Hr:List HA} {Post:AV→fR→List HA→Prop} (ha:args.map fs.ev=vs) (e:fs.H=Hs++Hr) (hc:FCt call f vs fs.z Hs Post)
  (hw:∀ v z' H',zle fs.z z'→Post v z' H'→FL call B l (fs.res d v z' (H'++Hr)) Q):FL call B (⟨some d,none,.call f args⟩::l) fs Q:=fun st r=>by
 have hh:=r.hold
 rw [e] at hh
 obtain ⟨v,mem',nx',z',H',h1,h2,h3,h4,h5,h6,h7,h8⟩:=hc st.mem st.nx hh.left
 refine bNf (vs:=vs) (by rw [r.evf];exact ha) h1 ?_
 exact hw v z' H' h5 h8 _ ((r.callR e h2 h3 h4 h5 h6 h7).put d v)
theorem aFv {f:Nat} {args:List Od} {vs:List AV} {Post:AV→fR→Prop} (ha:args.map fs.ev=vs) (hc:FC call f vs fs.z Post)
  (hw:∀ v z',zle fs.z z'→Post v z'→FL call B l (fs.res d v z' fs.H) Q):FL call B (⟨some d,none,.call f args⟩::l) fs Q:=
 aVZ (Hs:=[]) (Hr:=fs.H) ha rfl hc fun v z' H' hz ⟨h1,h2⟩=>by subst h1;exact hw v z' hz h2
theorem bBe {t:Od} {f:Nat} {us cs:List (Bool×List C)} {args:List Od} {vs:List AV} {Hs Hr:List HA} {Post:AV→fR→List HA→Prop} (ht:fs.ev t=.c (.fn f us cs)) (ha:AV.cs us++(args.map fs.ev++AV.cs cs)=vs) (e:fs.H=Hs++Hr) (hc:FCt call f vs fs.z Hs Post)
  (hw:∀ v z' H',zle fs.z z'→Post v z' H'→FL call B l (fs.res d v z' (H'++Hr)) Q):FL call B (⟨some d,none,.callv t args⟩::l) fs Q:=fun st r=>by
 have hh:=r.hold
 rw [e] at hh
 obtain ⟨v,mem',nx',z',H',h1,h2,h3,h4,h5,h6,h7,h8⟩:=hc st.mem st.nx hh.left
 refine Oo (bLt (v:=v) (mem:=mem') (nx:=nx') ?_) ?_
 ·simp only [Io,callee,r.ev,ht,r.evf,ha,h1]
 exact hw v z' H' h5 h8 _ ((r.callR e h2 h3 h4 h5 h6 h7).put d v)
theorem bFK {t:Od} {f:Nat} {us cs:List (Bool×List C)} {args:List Od} {vs:List AV} {Post:AV→fR→Prop} (ht:fs.ev t=.c (.fn f us cs)) (ha:AV.cs us++(args.map fs.ev++AV.cs cs)=vs) (hc:FC call f vs fs.z Post)
  (hw:∀ v z',zle fs.z z'→Post v z'→FL call B l (fs.res d v z' fs.H) Q):FL call B (⟨some d,none,.callv t args⟩::l) fs Q:=
 bBe (Hs:=[]) (Hr:=fs.H) ht ha rfl hc fun v z' H' hz ⟨h1,h2⟩=>by subst h1;exact hw v z' hz h2
end
def aS1:List AV→Nat→AV
 | [],_=>.any
 | v::l,i=>match i with
  | 0=>v
  | i+1=>aS1 l i
theorem bBB:∀ (l:List AV) (k:Nat) (t:Tr AV) (mem:Tr jX) (nx i:Nat),(⟨K5 k t l,mem,nx⟩:AS).get i=if k≤i∧i<k+l.length then aS1 l (i - k) else (⟨t,mem,nx⟩:AS).get i:=by
  intro l
  induction l with
  | nil =>
    intro k t mem nx i
    rw [if_neg (by simp only [List.length_nil];omega)]
    rfl
  | cons v l ih =>
    intro k t mem nx i
    have e:K5 k t (v::l)=K5 (k+1) (Tr.put (k+1) t k (some v)) l:=rfl
    rw [e,ih]
    have hg:(⟨Tr.put (k+1) t k (some v),mem,nx⟩:AS).get i=if k=i then v else (⟨t,mem,nx⟩:AS).get i:=get_put ⟨t,mem,nx⟩ k i v
    by_cases h:k+1≤i∧i<k+1+l.length
    · rw [if_pos h, if_pos (by simp; omega)]
      obtain ⟨j,hj⟩:∃ j,i - k=j+1:=⟨i - k - 1,by omega⟩
      rw [hj]
      show aS1 l (i - (k+1))=aS1 l j
      congr 1
      omega
    · rw [if_neg h,hg]
      by_cases h2:k=i
      · subst h2
        rw [if_pos rfl,if_pos (by simp),Nat.sub_self]
        rfl
      · rw [if_neg h2,if_neg (by simp;omega)]
theorem bGO (args:List AV) (mem:Tr jX) (nx i:Nat):(⟨K5 0 .nil args,mem,nx⟩:AS).get i=aS1 args i:=by
  rw [bBB]
  by_cases h:i<args.length
  · rw [if_pos (by omega)];rfl
  · rw [if_neg (by omega)]
    have:∀ (l:List AV) (i:Nat),l.length≤i→aS1 l i=.any:=by
      intro l
      induction l with
      | nil=>intro i _;rfl
      | cons v l ih =>
        intro i hi
        cases i with
        | zero=>simp at hi
        | succ i=>exact ih i (by simpa using hi)
    rw [this args i (by omega)]
    simp [AS.get,Tr.get_nil]
inductive bNe (fs:Sf):RR→AV→Prop where
 | t (i:Nat) (v:AV) (h:fs.e i=v):bNe fs (.t i) v
 | c (i:Nat) (g:Bool) (s b o ty:Nat) (cs:List C) (v:AV) (hp:fs.e i=.c (.ptr b o)) (hm:HA.blk b (.cells ty cs)∈fs.H) (hl:o+s≤cs.length) (hv:Ek g ((cs.drop o).take s)=v):bNe fs (.c i g s) v
inductive Wh (fs:Sf):List RR→List AV→Prop where
 | nil:Wh fs [] []
 | cons (r:RR) (v:AV) (rs:List RR) (vs:List AV) (h:bNe fs r v) (t:Wh fs rs vs):Wh fs (r::rs) (v::vs)
theorem rn {fs:Sf}:Wh fs [] []:=.nil
theorem rt {fs:Sf} {i:Nat} {v:AV} {rs:List RR} {vs:List AV} (h:fs.e i=v) (t:Wh fs rs vs):Wh fs (.t i::rs) (v::vs):=.cons _ _ _ _ (.t i v h) t
theorem rc {fs:Sf} {i:Nat} {g:Bool} {s b o ty:Nat} {cs:List C} {v:AV} {rs:List RR} {vs:List AV} (hp:fs.e i=.c (.ptr b o)) (hm:HA.blk b (.cells ty cs)∈fs.H) (hl:o+s≤cs.length) (hv:Ek g ((cs.drop o).take s)=v) (t:Wh fs rs vs):Wh fs (.c i g s::rs) (v::vs):=.cons _ _ _ _ (.c i g s b o ty cs v hp hm hl hv) t
def aTA:List AV→AV
 | [v]=>v
 | vs=>.tup vs
theorem bJu {B:rR} {fs:Sf} {st:AS} (r:Rf B fs st) {ts:List RR} {vs:List AV} (h:Wh fs ts vs):aLV st ts=some vs:=by
 induction h with
 | nil=>rfl
 | cons q v rs vs h t ih =>
  have h1:aRp st q=some v:=by
   cases h with
   | t i v h=>simp only [aRp,r.env,h]
   | c i g s b o ty cs v hp hm hl hv =>
    have:=r.hold.h _ hm
    simp only [HA.ok] at this
    simp only [aRp,r.env,hp,AS.read,AS.blk,this]
    rw [need_pos hl]
    simp only [hv]
  simp only [aLV,h1,ih]
theorem bIv {B:rR} {fs:Sf} {st:AS} (r:Rf B fs st) {ts:List RR} {vs:List AV} (h:Wh fs ts vs):aTd st ts=some (aTA vs):=by
 unfold aTd
 rw [bJu r h]
 match vs with
 | []=>rfl
 | [v]=>rfl
 | _::_::_=>rfl
theorem Lu {H H':List HA} (h:H'.Sublist H):(qT H').Sublist (qT H):=by
 induction h with
 | slnil=>exact List.Sublist.refl _
 | cons a h ih=>rw [kD];exact ih.trans (List.sublist_append_right _ _)
 | cons_cons a h ih=>rw [kD,kD];exact (List.Sublist.refl _).append ih
theorem aDL.sub {z:fR} {H H':List HA} {m:Tr jX} {nx:Nat} (h:aDL z H m nx) (hs:H'.Sublist H):aDL z H' m nx:=
 ⟨fun b k hb=>⟨(h.z b k hb).1,(h.z b k hb).2.1,fun h4=>(h.z b k hb).2.2 ((Lu hs).subset h4)⟩,fun a ha=>h.h a (hs.subset ha),fun b hb=>h.lt b ((Lu hs).subset hb),h.nd.sublist (Lu hs)⟩
def bCQ (ts:List RR) (Post:AV→fR→List HA→Prop):Exit→Sf→Prop:=fun x fs=>(x=.ret∨x=.normal)∧∃ vs H',Wh fs ts vs∧H'.Sublist fs.H∧Post (aTA vs) fs.z H'
theorem aOf {T:Tr FE} {hand:iJ} {k0 k f:Nat} {e:FE} {args:List AV} {z:fR} {H:List HA} {Post:AV→fR→List HA→Prop} (hT:T.get f=some e) (hk:1≤k) (hl:args.length≤e.n)
  (h:∀ B j,k=j+1→FX (evF T hand k0 j) k0 B e.x ⟨aS1 args,z,H⟩ (bCQ e.ts Post)):FCt (evF T hand k0 k) f args z H Post:=fun mem nx hh=>by
 obtain ⟨j,rfl⟩:∃ j,k=j+1:=⟨k - 1,by omega⟩
 have r0:Rf ⟨mem,nx,z,qT H⟩ ⟨aS1 args,z,H⟩ ⟨K5 0 .nil args,mem,nx⟩:=
  ⟨fun i=>bGO args mem nx i,hh,Nat.le_refl _,fun b _ _=>rfl,fun b hb=>.inr hb,⟨fun _ _ h=>h⟩,fun b k hb=>.inl hb⟩
 have:=h _ j rfl _ r0
 simp only [evF,hT,Nat.ble_eq_true_of_le hl]
 cases he:I3 (evF T hand k0 j) k0 e.x ⟨K5 0 .nil args,mem,nx⟩ with
 | none=>rw [he] at this;exact this.elim
 | some p =>
  obtain ⟨x,st⟩:=p
  rw [he] at this
  obtain ⟨fs,r,hx,vs,H',h1,h2,h3⟩:=this
  have hf:fin e st=some (aTA vs,st.mem,st.nx):=by simp only [fin,bIv r h1]
  refine ⟨aTA vs,st.mem,st.nx,fs.z,H',?_,r.le,r.old,r.hold.sub h2,r.zle,r.zin,fun b hb=>r.own b ((Lu h2).subset hb),h3⟩
  rcases hx with rfl | rfl<;>exact hf
theorem iI {T:Tr FE} {hand:iJ} {k0 k f:Nat} {e:FE} {args:List AV} {z:fR} {Post:AV→fR→Prop} (hT:T.get f=some e) (hk:1≤k) (hl:args.length≤e.n)
  (h:∀ B j,k=j+1→FX (evF T hand k0 j) k0 B e.x ⟨aS1 args,z,[]⟩ (bCQ e.ts fun v z' H'=>H'=[]∧Post v z')):FC (evF T hand k0 k) f args z Post:=aOf hT hk hl h
theorem rQ {fs:Sf} {ts:List RR} {vs:List AV} {x:Exit} {Post:AV→fR→Prop} (hx:x=.ret∨x=.normal) (h:Wh fs ts vs) (hp:Post (aTA vs) fs.z):bCQ ts (fun v z' H'=>H'=[]∧Post v z') x fs:=⟨hx,vs,[],h,List.nil_sublist _,rfl,hp⟩
open Go.RowKit
open Go.Eng (Od need need_pos iU mR binV binBV)
def jX.cs:jX→Option (List C)
 | .cells _ cs=>some cs
 | .ro cs=>some cs
 | _=>none
def At (z:fR) (b p:Nat) (cs:List C):Prop:=∃ k full,z b k∧k.cs=some full∧p+cs.length≤full.length∧(full.drop p).take cs.length=cs
theorem At.mono {z z':fR} {b p:Nat} {cs:List C} (h:At z b p cs) (hz:zle z z'):At z' b p cs:=by
 obtain ⟨k,full,h1,h2⟩:=h
 exact ⟨k,full,hz _ _ h1,h2⟩
abbrev RT (α:Type):=fR→List C→α→Prop
class RMono {α:Type} (R:RT α):Prop where
 mono:∀ {z z':fR} {cs:List C} {a:α},zle z z'→R z cs a→R z' cs a
inductive SZ {α:Type} (size:Nat) (R:RT α) (z:fR):AV→List α→Prop where
 | nil:SZ size R z qY []
 | em:SZ size R z (.c .em) []
 | sl (b o n:Nat) (k:jX) (full:List C) (l:List α) (hl:l.length=n) (hm:n≤9223372036854775807) (hz:z b k) (hk:k.cs=some full) (hf:o+n * size≤full.length) (h:∀ (i:Nat) (a:α),l[i]? = some a→R z ((full.drop (o+i * size)).take size) a):SZ size R z (.c (.sl b o n size)) l
section
variable {α:Type} {size:Nat} {R:RT α} [RMono R] {z z':fR} {v:AV} {l:List α}
theorem SZ.mono (h:SZ size R z v l) (hz:zle z z'):SZ size R z' v l:=by
 cases h with
 | nil=>exact .nil
 | em=>exact .em
 | sl b o n k full l hl hm hz' hk hf h=>exact .sl b o n k full l hl hm (hz _ _ hz') hk hf fun i a hi=>RMono.mono hz (h i a hi)
theorem SZ.len {α:Type} {size:Nat} {R:RT α} {z:fR} {v:AV} {l:List α} (h:SZ size R z v l):lenOf v=some l.length:=by cases h with
 | nil=>rfl
 | em=>rfl
 | sl b o n k full l hl hm hz' hk hf h=>rw [hl];rfl
theorem SZ.le {α:Type} {size:Nat} {R:RT α} {z:fR} {v:AV} {l:List α} (h:SZ size R z v l):l.length≤9223372036854775807:=by cases h with
 | nil=>simp
 | em=>simp
 | sl b o n k full l hl hm hz' hk hf h=>omega
theorem SZ.one {α:Type} {size:Nat} {R:RT α} {z:fR} {v:AV} {l:List α} (h:SZ size R z v l):∃ c,v=.c c∧pG c c=true:=by cases h with
 | nil=>exact ⟨_,rfl,by simp [pG]⟩
 | em=>exact ⟨_,rfl,by simp [pG]⟩
 | sl b o n k full l hl hm hz' hk hf h=>exact ⟨_,rfl,by simp [pG]⟩
end
theorem aTz (k:IntKind) (n:Int):aVr (.int k n) (.int k n)=true:=by simp [aVr]
theorem bQF (s:ByteArray):aVr (.string s) (.string s)=true:=by
 simp [aVr]
theorem bBR:pG (.v (.slice none 0 0)) (.v (.slice none 0 0))=true:=by simp [pG]
def CZ {α:Type} (size:Nat) (R:RT α) (z:fR) (c:C) (l:List α):Prop:=SZ size R z (.c c) l
theorem CZ.mono {α:Type} {size:Nat} {R:RT α} [RMono R] {z z':fR} {c:C} {l:List α} (h:CZ size R z c l) (hz:zle z z'):CZ size R z' c l:=SZ.mono h hz
theorem CZ.le {α:Type} {size:Nat} {R:RT α} {z:fR} {c:C} {l:List α} (h:CZ size R z c l):l.length≤9223372036854775807:=SZ.le h
theorem CZ.refl {α:Type} {size:Nat} {R:RT α} {z:fR} {c:C} {l:List α} (h:CZ size R z c l):pG c c=true:=by
 obtain ⟨c',h1,h2⟩:=SZ.one h
 injection h1 with h1
 rw [h1];exact h2
def RS:RT ByteArray:=fun _ cs s=>cs=[.v (.string s)]
instance:RMono RS:=⟨fun _ h=>h⟩
theorem aXw {st:AS} {b:Nat} {k:jX} {full:List C} (h:st.mem.get b=some k) (hk:k.cs=some full):st.blk b=some full:=by
 unfold AS.blk
 rw [h]
 cases k with
 | cells ty cs=>exact hk
 | ro cs=>exact hk
 | sit _ _=>cases hk
 | mp _ _=>cases hk
theorem bJX {st:AS} {z:fR} (hz:∀ b k,z b k→st.mem.get b=some k) {b p:Nat} {cs:List C} (h:At z b p cs) {off size:Nat} (hl:off+size≤cs.length):st.read b (p+off) size=some ((cs.drop off).take size):=by
 obtain ⟨k,full,h1,h2,h3,h4⟩:=h
 unfold AS.read
 rw [aXw (hz _ _ h1) h2]
 simp only
 rw [need_pos (by omega)]
 congr 1
 rw [← h4,List.drop_take,List.take_take,List.drop_drop]
 congr 1
 omega
section
variable {call:iJ} {B:rR} {fs:Sf} {l:List I} {Q:Sf→Prop} {d:Nat}
theorem eA {α:Type} {size:Nat} {R:RT α} {zz:fR} {x i:Od} {v:AV} {r:List α} {kd:IntKind} {n:Int} (hx:fs.ev x=v) (hi:fs.ev i=.c (.v (.int kd n))) (hr:SZ size R zz v r) (j:Nat) (hj:n=(j:Int)) (a:α) (h:r[j]? = some a)
  (hw:∀ b p cs,At zz b p cs→R zz cs a→FL call B l (fs.put d (.c (.ptr b p))) Q):FL call B (⟨some d,none,.iad size x i⟩::l) fs Q:=by
 have hlt:=(List.getElem?_eq_some_iff.1 h).1
 cases hr with
 | nil=>simp at hlt
 | em=>simp at hlt
 | sl b o n k full l hl hm hz' hk hf hh =>
   have hle:o+j * size+size≤full.length:=by
    have:(j+1) * size≤n * size:=Nat.mul_le_mul_right _ (by omega)
    rw [Nat.add_mul,Nat.one_mul] at this
    omega
   have hcl:((full.drop (o+j * size)).take size).length=size:=by simp;omega
   exact oP hx hi j hj (by omega) (hw b (o+j * size) _ ⟨k,full,hz',hk,by rw [hcl];exact hle,by rw [hcl]⟩ (hh j a h))
theorem tG {agg:Bool} {size:Nat} {x:Od} {b q p off:Nat} {cs:List C} {v:AV} (hx:fs.ev x=.c (.ptr b q)) (ha:At fs.z b p cs) (hq:q=p+off) (hl:off+size≤cs.length) (hv:Ek agg ((cs.drop off).take size)=v) (hw:FL call B l (fs.put d v) Q):FL call B (⟨some d,none,.load agg size x⟩::l) fs Q:=
  aFW (fun _ => rfl) (fun st r => by
    subst hq
    simp only [dK,r.ev,hx]
    rw [bJX (fun b k hb=>(r.hold.z b k hb).1) ha hl]
    simp only [hv]) hw
theorem bJA {x:Od} {s:ByteArray} (hx:fs.ev x=.c (.v (.string s))) (hw:FL call B l (fs.put d (.c (.v (.int .i64 s.size)))) Q):FL call B (⟨some d,none,.len true x⟩::l) fs Q:=
 aFW (fun _=>rfl) (fun st r=>by simp only [dK,r.ev,hx];rfl) hw
theorem cX {α:Type} {size:Nat} {R:RT α} {zz:fR} {x:Od} {v:AV} {r:List α} (hx:fs.ev x=v) (hr:SZ size R zz v r) (hw:FL call B l (fs.put d (.c (.v (.int .i64 r.length)))) Q):FL call B (⟨some d,none,.len false x⟩::l) fs Q:=aEG hx hr.len hw
theorem bQy {l2:List I} {J:Sf→Prop} (h:FL call B l fs J) (g:∀ fs',J fs'→FL call B l2 fs' Q):FL call B (l++l2) fs Q:=fun st r=>by
 have key:∀ (l:List I) (st:AS) (P:AS→Prop),Wp (I4 call l st) P→(∀ st',P st'→Wp (I4 call l2 st') fun st'=>∃ fs',Rf B fs' st'∧Q fs')→Wp (I4 call (l++l2) st) fun st'=>∃ fs',Rf B fs' st'∧Q fs':=by
  intro l
  induction l with
  | nil=>intro st P h1 h2;exact h2 st h1
  | cons i l ih =>
   intro st P h1 h2
   simp only [List.cons_append,I4] at h1 ⊢
   cases he:evI call i st with
   | none=>rw [he] at h1;exact h1.elim
   | some st1=>rw [he] at h1;exact ih st1 P h1 h2
 exact key l st _ (h st r) fun st' ⟨fs',r',q⟩=>g fs' q st' r'
end
def CL {α:Type} (size:Nat) (R:RT α) (z:fR) (cs:List C) (l:List α):Prop:=cs.length=l.length * size∧∀ (i:Nat) (a:α),l[i]? = some a→((cs.drop (i * size)).take size).length=size∧R z ((cs.drop (i * size)).take size) a
section
variable {α:Type} {size:Nat} {R:RT α} {z z':fR} {cs c:List C} {l:List α} {a:α}
theorem CL.nil:CL size R z [] ([]:List α):=⟨by simp,fun i a h=>by simp at h⟩
theorem CL.mono [RMono R] (h:CL size R z cs l) (hz:zle z z'):CL size R z' cs l:=⟨h.1,fun i a hi=>⟨(h.2 i a hi).1,RMono.mono hz (h.2 i a hi).2⟩⟩
theorem CL.append {cs':List C} {l':List α} (h:CL size R z cs l) (g:CL size R z cs' l'):CL size R z (cs++cs') (l++l'):=by
 refine ⟨by rw [List.length_append,List.length_append,h.1,g.1,Nat.add_mul],fun i a hi=>?_⟩
 rw [List.getElem?_append] at hi
 split at hi
 ·rename_i hlt
  have h1:=h.2 i a hi
  have h2:i * size+size≤cs.length:=by
   rw [h.1]
   have:(i+1) * size≤l.length * size:=Nat.mul_le_mul_right _ hlt
   rw [Nat.add_mul,Nat.one_mul] at this
   exact this
  have e:((cs++cs').drop (i * size)).take size=(cs.drop (i * size)).take size:=by
   rw [List.drop_append_of_le_length (by omega),List.take_append_of_le_length (by rw [List.length_drop];omega)]
  rw [e]
  exact h1
 rename_i hlt
 have h1:=g.2 _ a hi
 have e:(cs++cs').drop (i * size)=cs'.drop ((i - l.length) * size):=by
  rw [List.drop_append,h.1]
  have h3:l.length * size≤i * size:=Nat.mul_le_mul_right _ (by omega)
  rw [List.drop_eq_nil_of_le (by rw [h.1];exact h3),List.nil_append,Nat.sub_mul]
 rw [e]
 exact h1
theorem CL.one (hc:c.length=size) (h:R z c a):CL size R z c [a]:=by
 refine ⟨by simp [hc],fun i a' hi=>?_⟩
 cases i with
 | zero =>
  simp at hi
  subst hi
  have e:(c.drop (0 * size)).take size=c:=by simp [← hc]
  rw [e]
  exact ⟨hc,h⟩
 | succ i=>simp at hi
theorem CL.sz {b ty n:Nat} (h:CL size R z cs l) (hn:l.length=n) (hm:n≤9223372036854775807) (hz:z b (.cells ty cs)):SZ size R z (.c (.sl b 0 n size)) l:=by
 refine .sl b 0 n (.cells ty cs) cs l hn hm hz rfl (by rw [h.1,hn];omega) fun i a hi=>?_
 rw [Nat.zero_add]
 exact (h.2 i a hi).2
theorem SZ.src {v:AV} {zz:fR} {st:AS} (hz:∀ b k,zz b k→st.mem.get b=some k) (h:SZ size R zz v l):∃ news,st.row size v=some (l.length,news)∧CL size R zz news l:=by
 cases h with
 | nil=>exact ⟨[],rfl,CL.nil⟩
 | em=>exact ⟨[],rfl,CL.nil⟩
 | sl b o n k full l hl hm hz' hk hf hh =>
  refine ⟨(full.drop o).take (n * size),?_,?_,fun i a hi=>?_⟩
  ·simp only [AS.row,AS.read,aXw (hz _ _ hz') hk]
   rw [need_pos hf]
   simp only
   rw [need_pos trivial,hl]
  ·rw [List.length_take,List.length_drop,hl];omega
  have hlt:=(List.getElem?_eq_some_iff.1 hi).1
  have hle:i * size+size≤n * size:=by
   have:(i+1) * size≤n * size:=Nat.mul_le_mul_right _ (by omega)
   rw [Nat.add_mul,Nat.one_mul] at this
   exact this
  have e:((((full.drop o).take (n * size)).drop (i * size)).take size)=(full.drop (o+i * size)).take size:=by
   rw [List.drop_take,List.take_take,List.drop_drop]
   congr 1
   omega
  rw [e]
  refine ⟨?_,hh i a hi⟩
  rw [List.length_take,List.length_drop]
  omega
end
section
variable {call:iJ} {B:rR} {fs:Sf} {l:List I} {Q:Sf→Prop} {d:Nat}
theorem aUP {α:Type} {R:RT α} {ty size bytes n:Nat} {zero:List Value} {x y:Od} {u v:AV} {cs:List C} {r:List α} {H':AV→List C→List HA} (hx:fs.ev x=u) (hy:fs.ev y=v) (hs:SZ size R fs.z v r) (hr:∀ u' news,By fs.H (.row u ty size n cs) (.row u' ty size (n+r.length) (cs++news)) (H' u' news))
  (hb:(n+r.length) * bytes≤140737488355328) (hn:n+r.length≤9223372036854775807) (hw:∀ (c':C) (_:pG c' c'=true) news,CL size R fs.z news r→FL call B l (fs.res d (.c c') fs.z (H' (.c c') news)) Q):FL call B (⟨some d,none,.app ty size bytes zero x y⟩::l) fs Q:=fun st rf=>by
 obtain ⟨news,h1,h2⟩:=hs.src (st:=st) fun b k hb=>(rf.hold.z b k hb).1
 exact aXm rf hx hy h1 (fun u'=>hr u' news) h2.1 hb hn (fun c' hc=>hw c' hc news h2)
theorem rA {ty ty' size bytes n b:Nat} {zero:List Value} {x y:Od} {u:AV} {cs news:List C} {m:Nat} {H':AV→List HA} (hx:fs.ev x=u) (hy:fs.ev y=.c (.sl b 0 m size)) (hm:HA.blk b (.cells ty' news)∈fs.H) (hl:news.length=m * size) (hr:∀ u',By fs.H (.row u ty size n cs) (.row u' ty size (n+m) (cs++news)) (H' u'))
  (hb:(n+m) * bytes≤140737488355328) (hn:n+m≤9223372036854775807) (hw:∀ c':C,pG c' c'=true→FL call B l (fs.res d (.c c') fs.z (H' (.c c'))) Q):FL call B (⟨some d,none,.app ty size bytes zero x y⟩::l) fs Q:=
 bPP hx hy (bKS hm (by omega) (by rw [← hl];simp)) hr hl hb hn hw
theorem Dp {α:Type} {size:Nat} {R:RT α} [RMono R] {k:Nat} {c:XC} {Q:Exit→Sf→Prop} {u:AV} {ty n:Nat} {cs:List C} {r:List α} {p q:List HA} (e:fs.H=p++.row u ty size n cs::q) (hc:CL size R fs.z cs r) (hn:r.length=n) (hm:n≤9223372036854775807)
    (hw:∀ z',zle fs.z z'→SZ size R z' u r→FX call k B c (fs.frz z' (p++q)) Q):FX call k B c fs Q:=fun st rf=>by
  obtain ⟨g1,g2⟩:=rf.hold.h (.row u ty size n cs) (by rw [e];simp)
  rcases g2 with ⟨h0,rfl⟩ | ⟨b,rfl,h3⟩
  · have hr0 : r = [] := List.eq_nil_of_length_eq_zero (by omega)
    subst hr0
    refine hw fs.z (zle.refl _) .nil st ?_
    have hsub:(p++q).Sublist fs.H:=by rw [e];exact (List.Sublist.refl p).append (List.sublist_cons_self _ _)
    exact ⟨rf.env,rf.hold.sub hsub,rf.le,rf.old,fun b hb=>rf.own b ((Lu hsub).subset hb),rf.zle,rf.zin⟩
  · have h1 := rf.frz (p := p) (q := q) (b := b) (k := .cells ty cs) (a := .row (.c (.sl b 0 n size)) ty size n cs) e rfl (fun m hm => by
      obtain ⟨_,hm⟩:=hm
      rcases hm with ⟨_,hm⟩ | ⟨b',hb',hm⟩
      · cases hm
      · injection hb' with hb';injection hb' with hb';subst hb';exact hm)
    exact hw _ ⟨fun _ _ h=>.inl h⟩ ((hc.mono ⟨fun _ _ h=>.inl h⟩).sz hn hm (.inr ⟨rfl,rfl⟩)) st h1
theorem uQ {k:Nat} {c:XC} {Q:Exit→Sf→Prop} {H':List HA} (hs:H'.Sublist fs.H) (hw:FX call k B c (fs.heap H') Q):FX call k B c fs Q:=fun st rf =>
 hw st ⟨rf.env,rf.hold.sub hs,rf.le,rf.old,fun b hb=>rf.own b ((Lu hs).subset hb),rf.zle,rf.zin⟩
theorem vO {size:Nat} {x y:Od} {b o ty:Nat} {cs ds cs':List C} {v:AV} {H':List HA} (hx:fs.ev x=.c (.ptr b o)) (hy:fs.ev y=v) (hv:v.cells? = some ds) (hr:By fs.H (.blk b (.cells ty cs)) (.blk b (.cells ty cs')) H') (he:mR cs o ds=cs') (hs:ds.length=size) (h:o+size≤cs.length)
  (hw:FL call B l (fs.heap H') Q):FL call B (⟨none,none,.store size x y⟩::l) fs Q:=by
 subst he
 exact aSy hx hy hv hr hs h hw
theorem Rf.row0 {st:AS} (h:Rf B fs st) (ty size:Nat):Rf B (fs.heap (.row qY ty size 0 []::fs.H)) st:=by
 have e:qT (HA.row qY ty size 0 []::fs.H)=qT fs.H:=by rw [kD];rfl
 refine ⟨h.env,⟨fun b k hb=>?_,fun a ha=>?_,fun b hb=>?_,?_⟩,h.le,h.old,fun b hb=>?_,h.zle,h.zin⟩
 ·show _∧_∧b ∉ qT (HA.row qY ty size 0 []::fs.H)
  rw [e];exact h.hold.z b k hb
 ·rcases List.mem_cons.1 ha with rfl | ha
  ·exact ⟨by simp,.inl ⟨rfl,rfl⟩⟩
  exact h.hold.h a ha
 ·have hb:b∈qT (HA.row qY ty size 0 []::fs.H):=hb
  rw [e] at hb;exact h.hold.lt b hb
 ·show (qT (HA.row qY ty size 0 []::fs.H)).Nodup
  rw [e];exact h.hold.nd
 have hb:b∈qT (HA.row qY ty size 0 []::fs.H):=hb
 rw [e] at hb;exact h.own b hb
theorem uE (ty size:Nat) (hw:FL call B l (fs.heap (.row qY ty size 0 []::fs.H)) Q):FL call B l fs Q:=fun st r=>hw st (r.row0 ty size)
theorem bKw {k:Nat} {c:XC} {Q:Exit→Sf→Prop} (ty size:Nat) (hw:FX call k B c (fs.heap (.row qY ty size 0 []::fs.H)) Q):FX call k B c fs Q:=fun st r=>hw st (r.row0 ty size)
theorem Rf.asrow {st:AS} (h:Rf B fs st) {b ty n size:Nat} {cs:List C} {p q:List HA} (e:fs.H=p++.blk b (.cells ty cs)::q) (hl:cs.length=n * size):Rf B (fs.heap (p++.row (.c (.sl b 0 n size)) ty size n cs::q)) st:=by
 have e2:qT (p++.row (.c (.sl b 0 n size)) ty size n cs::q)=qT fs.H:=by rw [e,kM,kM,kD,kD];rfl
 have hb0:=h.hold.h (.blk b (.cells ty cs)) (by rw [e];simp)
 refine ⟨h.env,⟨fun b k hb=>?_,fun a ha=>?_,fun b hb=>?_,?_⟩,h.le,h.old,fun b hb=>?_,h.zle,h.zin⟩
 ·show _∧_∧b ∉ qT (p++.row _ ty size n cs::q)
  rw [e2];exact h.hold.z b k hb
 ·have ha:a∈p++.row (.c (.sl b 0 n size)) ty size n cs::q:=ha
  rcases List.mem_append.1 ha with ha | ha
  ·exact h.hold.h a (by rw [e];simp [ha])
  rcases List.mem_cons.1 ha with rfl | ha
  ·exact ⟨hl,.inr ⟨b,rfl,hb0⟩⟩
  exact h.hold.h a (by rw [e];simp [ha])
 ·have hb:b∈qT (p++.row (.c (.sl _ 0 n size)) ty size n cs::q):=hb
  rw [e2] at hb;exact h.hold.lt b hb
 ·show (qT (p++.row _ ty size n cs::q)).Nodup
  rw [e2];exact h.hold.nd
 have hb:b∈qT (p++.row (.c (.sl _ 0 n size)) ty size n cs::q):=hb
 rw [e2] at hb;exact h.own b hb
theorem Hw {b ty n size:Nat} {cs:List C} {p q:List HA} (e:fs.H=p++.blk b (.cells ty cs)::q) (hl:cs.length=n * size) (hw:FL call B l (fs.heap (p++.row (.c (.sl b 0 n size)) ty size n cs::q)) Q):FL call B l fs Q:=fun st r=>hw st (r.asrow e hl)
end
open Go.RowKit
open Go.Eng (Od need need_pos iU mR binV binBV)
structure DS where
 fs:Sf
 T:fR
 tag:Nat
 last:Nat
 pj:List Nat
 lj:List Nat
def Ya.hd (a:Ya):Tr jX:=match a.mems with
 | (_,m)::_=>m
 | []=>.nil
def Ya.seq (a:Ya):AS:=⟨a.env,ovl a.hd a.pend,a.nx⟩
structure DRf (B:rR) (D:DS) (a:Ya):Prop where
 rf:Rf B D.fs a.seq
 hd:∃ m ml,a.mems=(D.tag,m)::ml
 t0:∀ p,p∈a.mems→∀ b k,D.T b k→p.2.get b=some k
 tlt:∀ b k,D.T b k→b<a.nx
 np:∀ p,p∈a.pend→∀ k,¬ D.T p.2.1 k
 fl:∀ p,p∈a.fl→p.1∈D.lj∧∀ m:Tr jX,(∀ b k,D.T b k→m.get b=some k)→dK p.2.1 ⟨p.2.2.1,m,0⟩=some p.2.2.2∧Hy p.2.2.2 p.2.2.2=true
 last:a.last=D.last
 pj:a.pend.map (·.1)=D.pj
 plt:∀ p,p∈a.pend→p.2.1<a.nx
def FD (call:iJ) (B:rR) (an:List Nat) (j:Nat) (l:List D) (D:DS) (Q:Sf→Prop):Prop:=∀ a,DRf B D a→Wd (aLP call an j l a) fun a'=>∃ fs',Rf B fs' a'.fin∧Q fs'
def tz (z:fR) (H:List HA):fR:=fun b k=>z b k∨HA.blk b k∈H
def GK (fs:Sf) (i:I):Prop:=match i.g with
 | none=>True
 | some (s,want)=>fs.e s=.c (.v (.bool want))
section
variable {call:iJ} {B:rR} {an:List Nat} {j:Nat} {l:List D} {D:DS} {Q:Sf→Prop} {a:Ya}
theorem DRf.seqget (h:DRf B D a) {m:Tr jX} {ml:List (Nat×Tr jX)} (hm:a.mems=(D.tag,m)::ml):a.hd=m:=by simp only [Ya.hd,hm]
theorem bKb (h:DRf B D a):a.fin=a.seq:=by
 obtain ⟨m,ml,hm⟩:=h.hd
 simp only [Ya.fin,Ya.seq,Ya.hd,hm]
theorem bOC (h:Q D.fs):FD call B an j [] D Q:=fun a r=>bNT ⟨D.fs,by rw [bKb r];exact r.rf,h⟩
theorem aZB {k:Nat} {fs:Sf} {ds:List CE.D} {Q:Exit→Sf→Prop} (h:FD call B an 0 ds ⟨fs,tz fs.z fs.H,0,0,[],[]⟩ (Q .normal)):FX call k B (.draw ds an) fs Q:=fun st r=>by
  refine bJQ ?_
  refine h _ ⟨r,⟨_,_,rfl⟩,fun p hp b kk hb=>?_,fun b kk hb=>?_,fun p hp=>by simp at hp,fun p hp=>by simp at hp,rfl,rfl,fun p hp=>by simp at hp⟩
  · have : p = (0, st.mem) := by simpa using hp
    subst this
    rcases hb with hb | hb
    · exact (r.hold.z b kk hb).1
    · exact r.hold.h _ hb
  · rcases hb with hb | hb
    · exact (r.hold.z b kk hb).2.1
    · exact r.hold.lt b (vW.2 ⟨_,hb,by simp [HA.fp]⟩)
theorem bF5 {k:Nat} {fs:Sf} {ds:List CE.D} {c:XC} {Q:Exit→Sf→Prop} (h:FD call B an 0 ds ⟨fs,tz fs.z fs.H,0,0,[],[]⟩ (fun fs'=>FX call k B c fs' Q)):FX call k B (.seq (.draw ds an) c) fs Q:=dE (aZB h)
theorem aE7 {d:CE.D} {q:Nat} (h:q∈d.sl):(a.see d).get q=a.seq.get q:=by
 simp only [AS.get,Ya.see,Ya.seq]
 rw [aWO h]
theorem aLy (r:Rf B D.fs a.seq) {d:CE.D} (hg:GK D.fs d.i):gOk d.i (a.see d)=some true:=by
 unfold GK at hg
 unfold gOk
 split at hg
 ·rename_i h;rw [h]
 rename_i s want h
 rw [h]
 simp only
 rw [aE7 (by simp only [CE.D.sl,h];exact List.mem_cons_self ..),r.env,hg]
 simp [gd]
theorem bPC (r:Rf B D.fs a.seq) {d:CE.D} {s:Nat} {want:Bool} (h:d.i.g=some (s,want)) (hg:D.fs.e s=.c (.v (.bool (!want)))∨D.fs.e s=.tup []):gOk d.i (a.see d)=some false:=by
 unfold gOk
 rw [h]
 simp only
 rw [aE7 (by simp only [CE.D.sl,h];exact List.mem_cons_self ..),r.env]
 rcases hg with hg | hg<;>rw [hg]<;>simp [gd]
theorem Qo {d:CE.D} {q:Nat} (h:q∈d.i.o.sl):q∈d.sl:=by
 unfold CE.D.sl
 split
 ·exact List.mem_cons_of_mem _ h
 exact h
def aSC:mK→Bool
 | .mv _ | .pick _ _ _ | .bin _ _ _ | .binB _ _ _ | .un _ _ | .cvi _ _ | .fad _ _ | .fld _ _ _ _ | .iad _ _ _ | .ext _ _ | .len _ _ | .build _ _ | .mkf _ _ _ | .nilck _ | .binA _ _ _ _=>true
 | _=>false
theorem Yu {env:Tr AV} {ls:List Nat} {m m':Tr jX} {n n':Nat} {x:Od} (h:∀ q,q∈Od.sl x→q∈ls):(⟨nP env ls,m,n⟩:AS).ev x=(⟨env,m',n'⟩:AS).ev x:=by
 cases x with
 | t i=>simp only [AS.ev,AS.get];rw [aWO (h i (by simp [Od.sl]))]
 | _=>rfl
theorem bLS {o:mK} (hp:aSC o=true) {env:Tr AV} {ls:List Nat} {m m':Tr jX} {n n':Nat} (h:∀ q,q∈o.sl→q∈ls):dK o ⟨nP env ls,m,n⟩=dK o ⟨env,m',n'⟩:=by
 have hev:∀ x,(∀ q,q∈Od.sl x→q∈o.sl)→(⟨nP env ls,m,n⟩:AS).ev x=(⟨env,m',n'⟩:AS).ev x:=fun x hx=>Yu fun q hq=>h q (hx q hq)
 cases o<;>simp only [aSC,Bool.false_eq_true] at hp
 case mv x=>simp only [dK,hev x (fun q hq=>hq)]
 case pick c x y=>simp only [dK,hev c (fun q hq=>by simp [mK.sl,hq]),hev x (fun q hq=>by simp [mK.sl,hq]),hev y (fun q hq=>by simp [mK.sl,hq])]
 case bin op x y=>simp only [dK,hev x (fun q hq=>by simp [mK.sl,hq]),hev y (fun q hq=>by simp [mK.sl,hq])]
 case binB op x y=>simp only [dK,hev x (fun q hq=>by simp [mK.sl,hq]),hev y (fun q hq=>by simp [mK.sl,hq])]
 case binA ne ks x y=>simp only [dK,hev x (fun q hq=>by simp [mK.sl,hq]),hev y (fun q hq=>by simp [mK.sl,hq])]
 case un op x=>simp only [dK,hev x (fun q hq=>hq)]
 case nilck x=>simp only [dK,hev x (fun q hq=>hq)]
 case cvi k x=>simp only [dK,hev x (fun q hq=>hq)]
 case fad off x=>simp only [dK,hev x (fun q hq=>hq)]
 case fld g s off x=>simp only [dK,hev x (fun q hq=>hq)]
 case iad s x y=>simp only [dK,hev x (fun q hq=>by simp [mK.sl,hq]),hev y (fun q hq=>by simp [mK.sl,hq])]
 case ext x i=>simp only [dK,hev x (fun q hq=>hq)]
 case len s x=>cases s<;>simp only [dK,hev x (fun q hq=>hq)]
 case build zero parts =>
  have key:∀ (l:List (Nat×Nat×Od)) (cs:List C),(∀ p∈l,∀ q∈Od.sl p.2.2,q∈ls)→Ko (⟨nP env ls,m,n⟩:AS) cs l=Ko (⟨env,m',n'⟩:AS) cs l:=by
   intro l
   induction l with
   | nil=>intro cs _;rfl
   | cons p l ih =>
    intro cs hl
    obtain ⟨i,k,x⟩:=p
    simp only [Ko]
    rw [Yu (m':=m') (n':=n') (fun q hq=>hl _ (List.mem_cons_self ..) q hq)]
    cases ((⟨env,m',n'⟩:AS).ev x).cells? with
    | none=>rfl
    | some ds=>simp only [ih _ fun p hp=>hl p (List.mem_cons_of_mem _ hp)]
  simp only [dK]
  rw [key parts _ fun p hp q hq=>h q ?_]
  simp only [mK.sl,Od.sls,List.mem_flatMap,List.mem_map]
  exact ⟨p.2.2,⟨p,hp,rfl⟩,hq⟩
 case mkf f xs ys =>
  have key:∀ (l:List Od),(∀ x∈l,∀ q∈Od.sl x,q∈ls)→Hi (⟨nP env ls,m,n⟩:AS) l=Hi (⟨env,m',n'⟩:AS) l:=by
   intro l
   induction l with
   | nil=>intro _;rfl
   | cons x l ih =>
    intro hl
    simp only [Hi]
    rw [Yu (m':=m') (n':=n') (fun q hq=>hl _ (List.mem_cons_self ..) q hq),ih fun p hp=>hl p (List.mem_cons_of_mem _ hp)]
  simp only [dK]
  rw [key xs fun x hx q hq=>h q (by simp only [mK.sl,Od.sls,List.mem_append,List.mem_flatMap];exact .inl ⟨x,hx,hq⟩),key ys fun x hx q hq=>h q (by simp only [mK.sl,Od.sls,List.mem_append,List.mem_flatMap];exact .inr ⟨x,hx,hq⟩)]
theorem aVR {o:mK} (hp:aSC o=true) (st:AS):eP o st=none∧callee st o=none:=by
 cases o<;>simp only [aSC,Bool.false_eq_true] at hp<;>exact ⟨rfl,rfl⟩
theorem bLn {i:I} {d:Nat} {af:List Nat} (hd:i.d=some d) (hp:aSC i.o=true) (hg:GK D.fs i) (h:FL call B [⟨some d,none,i.o⟩] D.fs fun fs'=>FD call B an (j+1) l ⟨fs',D.T,D.tag,D.last,D.pj,D.lj⟩ Q):FD call B an j (⟨i,af⟩::l) D Q:=fun a r=>by
 have h1:=h a.seq r.rf
 simp only [I4,evI,gOk,Io,(aVR hp a.seq).2] at h1
 cases hq:dK i.o a.seq with
 | none =>
  rw [hq,(aVR hp a.seq).1] at h1
  exact h1.elim
 | some v =>
  rw [hq] at h1
  have hq':dK i.o (a.see ⟨i,af⟩)=some v:=by
   rw [← hq]
   exact bLS hp fun q hq=>Qo (d:=⟨i,af⟩) hq
  have hgo:=aLy (d:=⟨i,af⟩) r.rf hg
  refine aFN (a':=⟨Yf a.env i.d v,a.nx,a.mems,a.pend,a.fl,a.last⟩) ?_ ?_
  ·simp only [Ya.see] at hgo hq'
   simp only [Vx]
   rw [show gOk i ⟨nP a.env (CE.D.sl ⟨i,af⟩),.nil,a.nx⟩=some true from hgo]
   simp only [hq']
  obtain ⟨fs',r',hn⟩:=h1
  rw [hd]
  exact hn _ ⟨r',r.hd,r.t0,r.tlt,r.np,r.fl,r.last,r.pj,r.plt⟩
theorem bQm {i:I} {d s:Nat} {want:Bool} {af:List Nat} (hd:i.d=some d) (hg:i.g=some (s,want)) (hs:D.fs.e s=.c (.v (.bool (!want)))∨D.fs.e s=.tup []) (hw:FD call B an (j+1) l ⟨D.fs.put d (.tup []),D.T,D.tag,D.last,D.pj,D.lj⟩ Q):FD call B an j (⟨i,af⟩::l) D Q:=fun a r=>by
 have hgo:=bPC (d:=⟨i,af⟩) r.rf hg hs
 refine aFN (a':=⟨Yf a.env i.d (.tup []),a.nx,a.mems,a.pend,a.fl,a.last⟩) ?_ ?_
 ·simp only [Vx]
  rw [show gOk i ⟨nP a.env (CE.D.sl ⟨i,af⟩),.nil,a.nx⟩=some false from hgo]
 rw [hd]
 exact hw _ ⟨r.rf.put d _,r.hd,r.t0,r.tlt,r.np,r.fl,r.last,r.pj,r.plt⟩
theorem bLp {o:mK} {re:Tr AV} {bits:Nat} {v:AV} (hs:Hy v v=true):∀ {ml:List (Nat×Tr jX)},(∀ p,p∈ml→dK o ⟨re,p.2,0⟩=some v)→aLH o re bits v ml=true:=by
 intro ml
 induction ml with
 | nil=>intro _;rfl
 | cons p ml ih =>
  intro h
  obtain ⟨x,m⟩:=p
  simp only [aLH,h (x,m) (List.mem_cons_self ..),hs,Bool.true_and]
  cases x with
  | zero=>rfl
  | succ y=>simp only [ih fun p hp=>h p (List.mem_cons_of_mem _ hp),Bool.or_true]
theorem aZm {i:I} {d:Nat} {agg:Bool} {size:Nat} {x:Od} {b o:Nat} {k:jX} {full:List C} {v:AV} {af:List Nat} (hi:i.o=.load agg size x) (hd:i.d=some d) (hg:GK D.fs i) (hx:D.fs.ev x=.c (.ptr b o)) (hT:D.T b k) (hk:k.cs=some full) (hl:o+size≤full.length) (hv:Ek agg ((full.drop o).take size)=v)
  (hs:Hy v v=true) (hw:FD call B an (j+1) l ⟨D.fs.put d v,D.T,D.tag,D.last,D.pj,j::D.lj⟩ Q):FD call B an j (⟨i,af⟩::l) D Q:=fun a r=>by
 have hgo:=aLy (d:=⟨i,af⟩) r.rf hg
 have hev:∀ m n,(⟨nP a.env (CE.D.sl ⟨i,af⟩),m,n⟩:AS).ev x=.c (.ptr b o):=fun m n=>by
  rw [Yu (m':=a.seq.mem) (n':=a.seq.nx) fun q hq=>Qo (d:=⟨i,af⟩) (by rw [hi];exact hq)]
  exact (r.rf.ev x).trans hx
 have hst:∀ (m:Tr jX) (n:Nat),(∀ b k,D.T b k→m.get b=some k)→dK (.load agg size x) ⟨nP a.env (CE.D.sl ⟨i,af⟩),m,n⟩=some v:=fun m n hm=>by
  simp only [dK,hev,AS.read,aXw (st:=⟨nP a.env (CE.D.sl ⟨i,af⟩),m,n⟩) (hm _ _ hT) hk]
  rw [need_pos hl]
  simp only [hv]
 have h0:dK (.load agg size x) ⟨nP a.env (CE.D.sl ⟨i,af⟩),.nil,a.nx⟩=none:=by
  simp only [dK,hev,AS.read,AS.blk,Tr.get_nil]
 obtain ⟨m,ml,hm⟩:=r.hd
 have hm0:∀ b k,D.T b k→m.get b=some k:=r.t0 (D.tag,m) (by rw [hm];exact List.mem_cons_self ..)
 have hrd:aLH (.load agg size x) (nP a.env (CE.D.sl ⟨i,af⟩)) (an.getD j 0) v ((D.tag,m)::ml)=true:=bLp hs fun p hp=>hst p.2 0 (r.t0 p (by rw [hm];exact hp))
 refine aFN (a':=⟨Yf a.env i.d v,a.nx,a.mems,a.pend,(j,i.o,nP a.env (CE.D.sl ⟨i,af⟩),v)::a.fl,a.last⟩) ?_ ?_
 ·simp only [Vx]
  rw [show gOk i ⟨nP a.env (CE.D.sl ⟨i,af⟩),.nil,a.nx⟩=some true from hgo]
  simp only [hi,h0,Wc,hm,hst m 0 hm0,hrd]
 rw [hd]
 refine hw _ ⟨r.rf.put d _,⟨m,ml,hm⟩,r.t0,r.tlt,r.np,fun p hp=>?_,r.last,r.pj,r.plt⟩
 rcases List.mem_cons.1 hp with rfl | hp
 ·exact ⟨List.mem_cons_self ..,fun m' hm'=>⟨by rw [hi];exact hst m' 0 hm',hs⟩⟩
 exact ⟨List.mem_cons_of_mem _ (r.fl p hp).1,(r.fl p hp).2⟩
theorem bPd {i:I} {d:Nat} {agg:Bool} {size:Nat} {x:Od} {b q p off:Nat} {cs:List C} {v:AV} {af:List Nat} {z:fR} (hi:i.o=.load agg size x) (hd:i.d=some d) (hg:GK D.fs i) (hx:D.fs.ev x=.c (.ptr b q)) (ha:At z b p cs) (hz:∀ b k,z b k→D.T b k) (hq:q=p+off) (hl:off+size≤cs.length) (hv:Ek agg ((cs.drop off).take size)=v)
  (hs:Hy v v=true) (hw:FD call B an (j+1) l ⟨D.fs.put d v,D.T,D.tag,D.last,D.pj,j::D.lj⟩ Q):FD call B an j (⟨i,af⟩::l) D Q:=by
 obtain ⟨k,full,h1,h2,h3,h4⟩:=ha
 subst hq
 refine aZm hi hd hg hx (hz _ _ h1) h2 (by omega) ?_ hs hw
 rw [← hv,← h4,List.drop_take,List.take_take,List.drop_drop]
 congr 2
 omega
theorem aDp {bits:Nat} {m:Tr jX}:∀ {l:List (Nat×mK×Tr AV×AV)},(∀ p,p∈l→dK p.2.1 ⟨p.2.2.1,m,0⟩=some p.2.2.2∧Hy p.2.2.2 p.2.2.2=true)→∃ l',aUD bits m l=some l'∧∀ p,p∈l'→p∈l:=by
 intro l
 induction l with
 | nil=>intro _;exact ⟨[],rfl,fun p hp=>hp⟩
 | cons p l ih =>
  intro h
  obtain ⟨q,o,re,v⟩:=p
  obtain ⟨l',h1,h2⟩:=ih fun p hp=>h p (List.mem_cons_of_mem _ hp)
  obtain ⟨h3,h4⟩:=h (q,o,re,v) (List.mem_cons_self ..)
  simp only [aUD,h1]
  cases bits.testBit q with
  | true=>exact ⟨l',rfl,fun p hp=>List.mem_cons_of_mem _ (h2 p hp)⟩
  | false =>
   simp only at h3 h4
   simp only [h3,h4]
   refine ⟨_,rfl,fun p hp=>?_⟩
   rcases List.mem_cons.1 hp with rfl | hp
   ·exact List.mem_cons_self ..
   exact List.mem_cons_of_mem _ (h2 p hp)
theorem bP9 {bits:Nat} {ls:List Nat} (h:(ls.all fun q=>bits.testBit q)=true) {q:Nat} (hq:q∈ls):bits.testBit q=true:=by
 rw [List.all_eq_true] at h
 exact h q hq
theorem aGi {bits:Nat} {l:List (Nat×Nat×jX)} (h:((l.map (·.1)).all fun q=>bits.testBit q)=true):(l.filter fun p=>bits.testBit p.1)=l∧(l.filter fun p=>!bits.testBit p.1)=[]:=by
 constructor
 ·refine List.filter_eq_self.2 fun p hp=>bP9 h (List.mem_map.2 ⟨p,hp,rfl⟩)
 refine List.filter_eq_nil_iff.2 fun p hp=>?_
 rw [bP9 h (List.mem_map.2 ⟨p,hp,rfl⟩)]
 simp
theorem aF5 {m:Tr jX}:∀ {l:List (Nat×Nat×jX)} {b:Nat} {k:jX},(∀ p,p∈l→p.2.1≠b)→m.get b=some k→(ovl m l).get b=some k:=by
 intro l
 induction l with
 | nil=>intro b k _ h;exact h
 | cons p l ih =>
  intro b k hp h
  obtain ⟨A,id,k0⟩:=p
  simp only [ovl]
  rw [Tr.get_put _ _ _ _ _ (by omega),if_neg (hp _ (List.mem_cons_self ..))]
  exact ih (fun p hp'=>hp p (List.mem_cons_of_mem _ hp')) h
theorem bK0 {i:I} {d f:Nat} {args:List Od} {vs:List AV} {af:List Nat} {Post:AV→fR→Prop} (hi:i.o=.call f args) (hd:i.d=some d) (hg:GK D.fs i) (hbits:Nat.beq (an.getD j 0 ||| D.last) (an.getD j 0)=true) (hpj:(D.pj.all fun q=>(an.getD j 0).testBit q)=true)
    (ha:args.map D.fs.ev=vs) (hc:FC call f vs D.fs.z Post) (hw:∀ v z',zle D.fs.z z'→Post v z'→FD call B an (j+1) l ⟨⟨aDK D.fs.e d v,z',D.fs.H⟩,D.T,j+1,an.getD j 0 ||| (1 <<< j),[],D.lj⟩ Q):FD call B an j (⟨i,af⟩::l) D Q:=fun a r=>by
  have hgo:=aLy (d:=⟨i,af⟩) r.rf hg
  obtain ⟨m,ml,hm⟩:=r.hd
  have hhd:=r.seqget hm
  obtain ⟨v, mem', nx', z', H', h1, h2, h3, h4, h5, h6, h7, h8, h9⟩ := hc (ovl m a.pend) a.nx (by
    have:=r.rf.hold
    simp only [Ya.seq,hhd] at this
    exact aDL.left (Hs:=[]) (Hr:=D.fs.H) this)
  subst h8
  have hev:∀ m n,args.map (⟨nP a.env (CE.D.sl ⟨i,af⟩),m,n⟩:AS).ev=vs:=fun m n=>by
    rw [← ha]
    refine List.map_congr_left fun x hx=>?_
    rw [Yu (m':=a.seq.mem) (n':=a.seq.nx) fun q hq=>Qo (d:=⟨i,af⟩) (by rw [hi];simp only [mK.sl,Od.sls,List.mem_flatMap];exact ⟨x,hx,hq⟩)]
    exact r.rf.ev x
  have hp:=aGi (bits:=an.getD j 0) (l:=a.pend) (by rw [r.pj];exact hpj)
  have hT:∀ b k,D.T b k→mem'.get b=some k:=fun b k hb=>by
    rw [h3 b (r.tlt b k hb) (by simp [qT])]
    exact aF5 (fun p hp' e=>r.np p hp' k (e ▸ hb)) (r.t0 (D.tag,m) (by rw [hm];exact List.mem_cons_self ..) b k hb)
  obtain ⟨fl',hf1,hf2⟩:=aDp (bits:=an.getD j 0) (m:=mem') (l:=a.fl) fun p hp=>(r.fl p hp).2 mem' hT
  refine aFN (a':=⟨Yf a.env i.d v,nx',(j+1,mem')::a.mems,a.pend.filter (fun p=>!(an.getD j 0).testBit p.1),fl',(an.getD j 0) ||| (1 <<< j)⟩) ?_ ?_
  · simp only [Vx]
    rw [show gOk i ⟨nP a.env (CE.D.sl ⟨i,af⟩),.nil,a.nx⟩=some true from hgo]
    simp only [hi,dK,Wc,eP,hm,hp.1,Io,callee,hev,h1,r.last,hbits,hf1]
  · rw [hd,hp.2]
    refine hw v z' h5 h9 _ ⟨?_,⟨mem',a.mems,rfl⟩,fun p hp' b k hb=>?_,fun b k hb=>Nat.lt_of_lt_of_le (r.tlt b k hb) h2,fun p hp=>by simp at hp,fun p hp=>r.fl p (hf2 p hp),rfl,rfl,fun p hp=>by simp at hp⟩
    · have := r.rf.callR (Hs := []) (Hr := D.fs.H) rfl (mem' := mem') (nx' := nx') (z' := z') (H' := []) h2 (fun b hb hb2 => by
        rw [h3 b hb hb2];simp only [Ya.seq,hhd]) h4 h5 h6 h7
      exact this.put d v
    · rcases List.mem_cons.1 hp' with rfl | hp'
      · exact hT b k hb
      · exact r.t0 p hp' b k hb
theorem bDN {i:I} {d f:Nat} {args:List Od} {vs:List AV} {af:List Nat} {Post:AV→fR→List HA→Prop} (hi:i.o=.call f args) (hd:i.d=some d) (hg:GK D.fs i) (hbits:Nat.beq (an.getD j 0 ||| D.last) (an.getD j 0)=true) (hpj:(D.pj.all fun q=>(an.getD j 0).testBit q)=true)
    (ha:args.map D.fs.ev=vs) (hc:FCt call f vs D.fs.z [] Post) (hw:∀ v z' H',zle D.fs.z z'→Post v z' H'→FD call B an (j+1) l ⟨⟨aDK D.fs.e d v,z',H'++D.fs.H⟩,D.T,j+1,an.getD j 0 ||| (1 <<< j),[],D.lj⟩ Q):FD call B an j (⟨i,af⟩::l) D Q:=fun a r=>by
  have hgo:=aLy (d:=⟨i,af⟩) r.rf hg
  obtain ⟨m,ml,hm⟩:=r.hd
  have hhd:=r.seqget hm
  obtain ⟨v, mem', nx', z', H', h1, h2, h3, h4, h5, h6, h7, h9⟩ := hc (ovl m a.pend) a.nx (by
    have:=r.rf.hold
    simp only [Ya.seq,hhd] at this
    exact aDL.left (Hs:=[]) (Hr:=D.fs.H) this)
  have hev:∀ m n,args.map (⟨nP a.env (CE.D.sl ⟨i,af⟩),m,n⟩:AS).ev=vs:=fun m n=>by
    rw [← ha]
    refine List.map_congr_left fun x hx=>?_
    rw [Yu (m':=a.seq.mem) (n':=a.seq.nx) fun q hq=>Qo (d:=⟨i,af⟩) (by rw [hi];simp only [mK.sl,Od.sls,List.mem_flatMap];exact ⟨x,hx,hq⟩)]
    exact r.rf.ev x
  have hp:=aGi (bits:=an.getD j 0) (l:=a.pend) (by rw [r.pj];exact hpj)
  have hT:∀ b k,D.T b k→mem'.get b=some k:=fun b k hb=>by
    rw [h3 b (r.tlt b k hb) (by simp [qT])]
    exact aF5 (fun p hp' e=>r.np p hp' k (e ▸ hb)) (r.t0 (D.tag,m) (by rw [hm];exact List.mem_cons_self ..) b k hb)
  obtain ⟨fl',hf1,hf2⟩:=aDp (bits:=an.getD j 0) (m:=mem') (l:=a.fl) fun p hp=>(r.fl p hp).2 mem' hT
  refine aFN (a':=⟨Yf a.env i.d v,nx',(j+1,mem')::a.mems,a.pend.filter (fun p=>!(an.getD j 0).testBit p.1),fl',(an.getD j 0) ||| (1 <<< j)⟩) ?_ ?_
  · simp only [Vx]
    rw [show gOk i ⟨nP a.env (CE.D.sl ⟨i,af⟩),.nil,a.nx⟩=some true from hgo]
    simp only [hi,dK,Wc,eP,hm,hp.1,Io,callee,hev,h1,r.last,hbits,hf1]
  · rw [hd,hp.2]
    refine hw v z' H' h5 h9 _ ⟨?_,⟨mem',a.mems,rfl⟩,fun p hp' b k hb=>?_,fun b k hb=>Nat.lt_of_lt_of_le (r.tlt b k hb) h2,fun p hp=>by simp at hp,fun p hp=>r.fl p (hf2 p hp),rfl,rfl,fun p hp=>by simp at hp⟩
    · have := r.rf.callR (Hs := []) (Hr := D.fs.H) rfl (mem' := mem') (nx' := nx') (z' := z') (H' := H') h2 (fun b hb hb2 => by
        rw [h3 b hb hb2];simp only [Ya.seq,hhd]) h4 h5 h6 h7
      exact this.put d v
    · rcases List.mem_cons.1 hp' with rfl | hp'
      · exact hT b k hb
      · exact r.t0 p hp' b k hb
theorem bCG {bits:Nat} {l:List (Nat×Nat×jX)} (h:((l.map (·.1)).all fun q=>!bits.testBit q)=true):(l.filter fun p=>bits.testBit p.1)=[]∧(l.filter fun p=>!bits.testBit p.1)=l:=by
 have hq:∀ p,p∈l→bits.testBit p.1=false:=fun p hp=>by
  rw [List.all_eq_true] at h
  simpa using h p.1 (List.mem_map.2 ⟨p,hp,rfl⟩)
 constructor
 ·refine List.filter_eq_nil_iff.2 fun p hp=>?_
  rw [hq p hp];simp
 refine List.filter_eq_self.2 fun p hp=>?_
 rw [hq p hp];rfl
theorem bFF {m m':Tr jX}:∀ {l:List (Nat×Nat×jX)} {b:Nat},((∀ p,p∈l→p.2.1≠b)→m'.get b=m.get b)→(ovl m' l).get b=(ovl m l).get b:=by
 intro l
 induction l with
 | nil=>intro b h;exact h fun p hp=>by cases hp
 | cons p l ih =>
  intro b h
  obtain ⟨A,id,k0⟩:=p
  simp only [ovl]
  rw [Tr.get_put _ _ _ _ _ (by omega),Tr.get_put _ _ _ _ _ (by omega)]
  split
  ·rfl
  rename_i hne
  exact ih fun hp=>h fun p hp'=>by
   rcases List.mem_cons.1 hp' with rfl | hp'
   ·exact hne
   exact hp p hp'
theorem bEm {i:I} {d f:Nat} {args:List Od} {vs:List AV} {af:List Nat} {Post:AV→fR→Prop} (hi:i.o=.call f args) (hd:i.d=some d) (hg:GK D.fs i) (hbits:Nat.beq (an.getD j 0 ||| D.last) (an.getD j 0)=true) (hpj:(D.pj.all fun q=>!(an.getD j 0).testBit q)=true) (hzT:∀ b k,D.fs.z b k→D.T b k)
    (ha:args.map D.fs.ev=vs) (hc:FC call f vs D.fs.z Post) (hw:∀ v z',zle D.fs.z z'→Post v z'→FD call B an (j+1) l ⟨⟨aDK D.fs.e d v,z',D.fs.H⟩,D.T,j+1,an.getD j 0 ||| (1 <<< j),D.pj,D.lj⟩ Q):FD call B an j (⟨i,af⟩::l) D Q:=fun a r=>by
  have hgo:=aLy (d:=⟨i,af⟩) r.rf hg
  obtain ⟨m,ml,hm⟩:=r.hd
  have hhd:=r.seqget hm
  obtain ⟨v,mem',nx',z',H',h1,h2,h3,h4,h5,h6,h7,h8,h9⟩:=hc m a.nx ⟨fun b k hb=>⟨r.t0 (D.tag,m) (by rw [hm];exact List.mem_cons_self ..) b k (hzT b k hb),(r.rf.hold.z b k hb).2.1,by simp [qT]⟩,fun a ha=>(by cases ha),fun b hb=>(by simp [qT] at hb),by simp [qT]⟩
  subst h8
  have hev:∀ m n,args.map (⟨nP a.env (CE.D.sl ⟨i,af⟩),m,n⟩:AS).ev=vs:=fun m n=>by
    rw [← ha]
    refine List.map_congr_left fun x hx=>?_
    rw [Yu (m':=a.seq.mem) (n':=a.seq.nx) fun q hq=>Qo (d:=⟨i,af⟩) (by rw [hi];simp only [mK.sl,Od.sls,List.mem_flatMap];exact ⟨x,hx,hq⟩)]
    exact r.rf.ev x
  have hp:=bCG (bits:=an.getD j 0) (l:=a.pend) (by rw [r.pj];exact hpj)
  have hT:∀ b k,D.T b k→mem'.get b=some k:=fun b k hb=>by
    rw [h3 b (r.tlt b k hb) (by simp [qT])]
    exact r.t0 (D.tag,m) (by rw [hm];exact List.mem_cons_self ..) b k hb
  obtain ⟨fl',hf1,hf2⟩:=aDp (bits:=an.getD j 0) (m:=mem') (l:=a.fl) fun p hp=>(r.fl p hp).2 mem' hT
  refine aFN (a':=⟨Yf a.env i.d v,nx',(j+1,mem')::a.mems,a.pend.filter (fun p=>!(an.getD j 0).testBit p.1),fl',(an.getD j 0) ||| (1 <<< j)⟩) ?_ ?_
  · simp only [Vx]
    rw [show gOk i ⟨nP a.env (CE.D.sl ⟨i,af⟩),.nil,a.nx⟩=some true from hgo]
    simp only [hi,dK,Wc,eP,hm,hp.1,ovl,Io,callee,hev,h1,r.last,hbits,hf1]
  · rw [hd,hp.2]
    refine hw v z' h5 h9 _ ⟨?_,⟨mem',a.mems,rfl⟩,fun p hp' b k hb=>?_,fun b k hb=>Nat.lt_of_lt_of_le (r.tlt b k hb) h2,fun p hp'=>r.np p hp',fun p hp=>r.fl p (hf2 p hp),rfl,r.pj,fun p hp'=>Nat.lt_of_lt_of_le (r.plt p hp') h2⟩
    · have hnp:∀ b k,z' b k→∀ p,p∈a.pend→p.2.1≠b:=fun b k hb p hp' e=>by
        rcases h6 b k hb with g | g | g
        · exact r.np p hp' k (hzT _ _ (e ▸ g))
        · have:=r.plt p hp';omega
        · simp [qT] at g
      have := r.rf.callR (Hs := []) (Hr := D.fs.H) rfl (mem' := ovl mem' a.pend) (nx' := nx') (z' := z') (H' := []) h2 (fun b hb hb2 => by
        simp only [Ya.seq,hhd]
        exact bFF fun _=>h3 b hb hb2) ⟨fun b k hb=>⟨aF5 (hnp b k hb) (h4.z b k hb).1,(h4.z b k hb).2⟩,fun a ha=>(by cases ha),fun b hb=>(by simp [qT] at hb),by simp [qT]⟩ h5 h6 (fun b hb=>by simp [qT] at hb)
      exact this.put d v
    · rcases List.mem_cons.1 hp' with rfl | hp'
      · exact hT b k hb
      · exact r.t0 p hp' b k hb
theorem bMZ {i:I} {d:Nat} {af:List Nat} {k:jX} {w:Nat→AV} (hd:i.d=some d) (hg:GK D.fs i) (hl:Wc i.o=false) (hq:∀ st:AS,dK i.o st=none) (he:∀ st:AS,(∀ q,q∈i.o.sl→st.get q=D.fs.e q)→eP i.o st=some (st.new k,w st.nx))
  (hw:∀ b,(∀ k,¬ D.T b k)→FD call B an (j+1) l ⟨⟨aDK D.fs.e d (w b),D.fs.z,.blk b k::D.fs.H⟩,D.T,D.tag,D.last,j::D.pj,D.lj⟩ Q):FD call B an j (⟨i,af⟩::l) D Q:=fun a r=>by
 have hgo:=aLy (d:=⟨i,af⟩) r.rf hg
 have he':eP i.o ⟨nP a.env (CE.D.sl ⟨i,af⟩),.nil,a.nx⟩=some ((⟨nP a.env (CE.D.sl ⟨i,af⟩),.nil,a.nx⟩:AS).new k,w a.nx):=he _ fun q hq=>by
  have:=aE7 (a:=a) (d:=⟨i,af⟩) (Qo (d:=⟨i,af⟩) hq)
  exact this.trans (r.rf.env q)
 have h1:((⟨nP a.env (CE.D.sl ⟨i,af⟩),.nil,a.nx⟩:AS).new k).mem.get a.nx=some k:=by rw [Ji,if_pos rfl]
 have h2:Nat.beq ((⟨nP a.env (CE.D.sl ⟨i,af⟩),.nil,a.nx⟩:AS).new k).nx (a.nx+1)=true:=Nat.beq_refl _
 refine aFN (a':=⟨Yf a.env i.d (w a.nx),a.nx+1,a.mems,(j,a.nx,k)::a.pend,a.fl,a.last⟩) ?_ ?_
 ·simp only [Vx]
  rw [show gOk i ⟨nP a.env (CE.D.sl ⟨i,af⟩),.nil,a.nx⟩=some true from hgo]
  simp only [hq,hl,he',h1,h2]
 rw [hd]
 have r1:=r.rf.new (a:=.blk a.nx k) (m':=(a.seq.new k).mem) (by show (a.seq.new k).mem.get a.seq.nx=some k;rw [Ji,if_pos rfl]) rfl (fun b hb=>by rw [Ji,if_neg fun e=>hb e.symm])
 refine hw a.nx (fun k hb=>absurd (r.tlt _ _ hb) (Nat.lt_irrefl _)) _ ⟨r1.put d (w a.nx),r.hd,r.t0,fun b k' hb=>Nat.lt_succ_of_lt (r.tlt b k' hb),fun p hp k' hb=>?_,r.fl,r.last,?_,fun p hp=>?_⟩
 ·rcases List.mem_cons.1 hp with rfl | hp
  ·exact absurd (r.tlt _ _ hb) (Nat.lt_irrefl _)
  exact r.np p hp k' hb
 ·simp only [List.map_cons,r.pj]
 rcases List.mem_cons.1 hp with rfl | hp
 ·exact Nat.lt_succ_self _
 exact Nat.lt_succ_of_lt (r.plt p hp)
theorem aXi {i:I} {af:List Nat} (hg:GK D.fs i) (hl:Wc i.o=false) (hbits:Nat.beq (an.getD j 0 ||| D.last) (an.getD j 0)=true) (hpj:(D.pj.all fun q=>(an.getD j 0).testBit q)=true) (hlj:(D.lj.all fun q=>(an.getD j 0).testBit q)=true)
    (hq:∀ st:AS,dK i.o st=none) (he:∀ st:AS,(∀ q,q∈i.o.sl→st.get q=D.fs.e q)→st.mem=.nil→eP i.o st=none) (hev:∀ (env:Tr AV) (ls:List Nat) (m:Tr jX) (n:Nat),(∀ q,q∈i.o.sl→q∈ls)→Io call i.o ⟨nP env ls,m,n⟩=Io call i.o ⟨env,m,n⟩)
    (h:FL call B [⟨i.d,none,i.o⟩] D.fs fun fs'=>FD call B an (j+1) l ⟨fs',fun _ _=>False,j+1,an.getD j 0 ||| (1 <<< j),[],[]⟩ Q):FD call B an j (⟨i,af⟩::l) D Q:=fun a r=>by
  have hgo:=aLy (d:=⟨i,af⟩) r.rf hg
  obtain ⟨m,ml,hm⟩:=r.hd
  have hhd:=r.seqget hm
  have hp:=aGi (bits:=an.getD j 0) (l:=a.pend) (by rw [r.pj];exact hpj)
  have h1:=h a.seq r.rf
  simp only [I4,evI,gOk] at h1
  cases hv:Io call i.o a.seq with
  | none=>rw [hv] at h1;exact h1.elim
  | some q =>
    obtain ⟨v,mem',nx'⟩:=q
    rw [hv] at h1
    have hv':Io call i.o ⟨nP a.env (CE.D.sl ⟨i,af⟩),ovl m a.pend,a.nx⟩=some (v,mem',nx'):=by
      rw [hev _ _ _ _ fun q hq=>Qo (d:=⟨i,af⟩) hq,← hv]
      simp only [Ya.seq,hhd]
    have he' : eP i.o ⟨nP a.env (CE.D.sl ⟨i, af⟩), .nil, a.nx⟩ = none := he _ (fun q hq => by
      have:=aE7 (a:=a) (d:=⟨i,af⟩) (Qo (d:=⟨i,af⟩) hq)
      exact this.trans (r.rf.env q)) rfl
    have hf:=bE1 (bits:=an.getD j 0) (m:=mem') (l:=a.fl) fun p hp=>bP9 hlj (r.fl p hp).1
    refine aFN (a':=⟨Yf a.env i.d v,nx',(j+1,mem')::a.mems,a.pend.filter (fun p=>!(an.getD j 0).testBit p.1),[],(an.getD j 0) ||| (1 <<< j)⟩) ?_ ?_
    · simp only [Vx]
      rw [show gOk i ⟨nP a.env (CE.D.sl ⟨i,af⟩),.nil,a.nx⟩=some true from hgo]
      simp only [hq,hl,he',hm,hp.1,hv',r.last,hbits,hf]
    · rw [hp.2]
      obtain ⟨fs',r',hn⟩:=h1
      refine hn _ ⟨?_,⟨mem',a.mems,rfl⟩,fun p _ b k hb=>hb.elim,fun b k hb=>hb.elim,fun p hp=>by simp at hp,fun p hp=>by simp at hp,rfl,rfl,fun p hp=>by simp at hp⟩
      cases hdd:i.d with
      | none=>rw [hdd] at r';exact r'
      | some d=>rw [hdd] at r';exact r'
theorem aU3 {i:I} {af:List Nat} (hg:GK D.fs i) (hl:Wc i.o=false) (hbits:Nat.beq (an.getD j 0 ||| D.last) (an.getD j 0)=true) (hpj:(D.pj.all fun q=>(an.getD j 0).testBit q)=true)
    (hq:∀ st:AS,dK i.o st=none) (he:∀ st:AS,(∀ q,q∈i.o.sl→st.get q=D.fs.e q)→st.mem=.nil→eP i.o st=none) (hev:∀ (env:Tr AV) (ls:List Nat) (m:Tr jX) (n:Nat),(∀ q,q∈i.o.sl→q∈ls)→Io call i.o ⟨nP env ls,m,n⟩=Io call i.o ⟨env,m,n⟩)
    (hk:∀ (st:AS) v m' n',Rf B D.fs st→Io call i.o st=some (v,m',n')→st.nx≤n'∧∀ b k,D.T b k→st.mem.get b=some k→m'.get b=some k)
    (h:FL call B [⟨i.d,none,i.o⟩] D.fs fun fs'=>FD call B an (j+1) l ⟨fs',D.T,j+1,an.getD j 0 ||| (1 <<< j),[],D.lj⟩ Q):FD call B an j (⟨i,af⟩::l) D Q:=fun a r=>by
  have hgo:=aLy (d:=⟨i,af⟩) r.rf hg
  obtain ⟨m,ml,hm⟩:=r.hd
  have hhd:=r.seqget hm
  have hp:=aGi (bits:=an.getD j 0) (l:=a.pend) (by rw [r.pj];exact hpj)
  have h1:=h a.seq r.rf
  simp only [I4,evI,gOk] at h1
  cases hv:Io call i.o a.seq with
  | none=>rw [hv] at h1;exact h1.elim
  | some q =>
    obtain ⟨v,mem',nx'⟩:=q
    rw [hv] at h1
    obtain ⟨hn,hkk⟩:=hk _ _ _ _ r.rf hv
    have hT:∀ b k,D.T b k→mem'.get b=some k:=fun b k hb=>by
      refine hkk b k hb ?_
      show (ovl a.hd a.pend).get b=some k
      rw [hhd]
      exact aF5 (fun p hp' e=>r.np p hp' k (e ▸ hb)) (r.t0 (D.tag,m) (by rw [hm];exact List.mem_cons_self ..) b k hb)
    obtain ⟨fl',hf1,hf2⟩:=aDp (bits:=an.getD j 0) (m:=mem') (l:=a.fl) fun p hp=>(r.fl p hp).2 mem' hT
    have hv':Io call i.o ⟨nP a.env (CE.D.sl ⟨i,af⟩),ovl m a.pend,a.nx⟩=some (v,mem',nx'):=by
      rw [hev _ _ _ _ fun q hq=>Qo (d:=⟨i,af⟩) hq,← hv]
      simp only [Ya.seq,hhd]
    have he' : eP i.o ⟨nP a.env (CE.D.sl ⟨i, af⟩), .nil, a.nx⟩ = none := he _ (fun q hq => by
      have:=aE7 (a:=a) (d:=⟨i,af⟩) (Qo (d:=⟨i,af⟩) hq)
      exact this.trans (r.rf.env q)) rfl
    refine aFN (a':=⟨Yf a.env i.d v,nx',(j+1,mem')::a.mems,a.pend.filter (fun p=>!(an.getD j 0).testBit p.1),fl',(an.getD j 0) ||| (1 <<< j)⟩) ?_ ?_
    · simp only [Vx]
      rw [show gOk i ⟨nP a.env (CE.D.sl ⟨i,af⟩),.nil,a.nx⟩=some true from hgo]
      simp only [hq,hl,he',hm,hp.1,hv',r.last,hbits,hf1]
    · rw [hp.2]
      obtain ⟨fs',r',hnn⟩:=h1
      refine hnn _ ⟨?_,⟨mem',a.mems,rfl⟩,fun p hp' b k hb=>?_,fun b k hb=>Nat.lt_of_lt_of_le (r.tlt b k hb) hn,fun p hp=>by simp at hp,fun p hp=>r.fl p (hf2 p hp),rfl,rfl,fun p hp=>by simp at hp⟩
      · cases hdd:i.d with
        | none=>rw [hdd] at r';exact r'
        | some d=>rw [hdd] at r';exact r'
      · rcases List.mem_cons.1 hp' with rfl | hp'
        · exact hT b k hb
        · exact r.t0 p hp' b k hb
theorem aDq {o:mK} (hs:(∃ s x y,o=.store s x y)∨∃ ty s b zr x y,o=.app ty s b zr x y) (env:Tr AV) (ls:List Nat) (m:Tr jX) (n:Nat) (h:∀ q,q∈o.sl→q∈ls):Io call o ⟨nP env ls,m,n⟩=Io call o ⟨env,m,n⟩:=by
  have hev:∀ x,(∀ q,q∈Od.sl x→q∈o.sl)→(⟨nP env ls,m,n⟩:AS).ev x=(⟨env,m,n⟩:AS).ev x:=fun x hx=>Yu fun q hq=>h q (hx q hq)
  rcases hs with ⟨s,x,y,rfl⟩ | ⟨ty,s,b1,zr,x,y,rfl⟩
  · simp only [Io, callee, dK, eP, hev x (fun q hq => by simp [mK.sl, hq]), hev y (fun q hq => by simp [mK.sl, hq])]
    cases (⟨env,m,n⟩:AS).ev x with
    | c c =>
      cases c with
      | ptr b o =>
        cases ((⟨env,m,n⟩:AS).ev y).cells? with
        | none=>rfl
        | some ds =>
          simp only
          cases m.get b with
          | none=>rfl
          | some k =>
            cases k with
            | cells ty cs =>
              simp only [need]
              by_cases hc:ds.length=s∧o+s≤cs.length
              · rw [if_pos hc,if_pos hc];rfl
              · rw [if_neg hc,if_neg hc]
            | _=>rfl
      | _=>rfl
    | _=>rfl
  · have hrow:∀ v,(⟨nP env ls,m,n⟩:AS).row s v=(⟨env,m,n⟩:AS).row s v:=fun v=>by
      cases v with
      | c c=>cases c<;>rfl
      | _=>rfl
    simp only [Io,callee,dK,eP,hev x (fun q hq=>by simp [mK.sl,hq]),hev y (fun q hq=>by simp [mK.sl,hq]),hrow]
    cases (⟨env,m,n⟩:AS).row s ((⟨env,m,n⟩:AS).ev y) with
    | none=>rfl
    | some p =>
      obtain ⟨c,news⟩:=p
      cases c with
      | zero =>
        simp only
        cases (⟨env,m,n⟩:AS).ev x with
        | c c =>
          cases c with
          | v x =>
            cases x with
            | slice A l c =>
              cases A with
              | none=>cases l<;>cases c<;>rfl
              | some A=>rfl
            | _=>rfl
          | _=>rfl
        | _=>rfl
      | succ c =>
        simp only
        cases (⟨env,m,n⟩:AS).ev x with
        | c c' =>
          cases c' with
          | v x =>
            cases x with
            | slice A l cc =>
              cases A with
              | none =>
                cases l with
                | zero =>
                  cases cc with
                  | zero =>
                    simp only [need]
                    by_cases hc:(c+1) * b1≤140737488355328∧c+1≤9223372036854775807∧0<c+1
                    · rw [if_pos hc,if_pos hc];rfl
                    · rw [if_neg hc,if_neg hc]
                  | succ _=>rfl
                | succ _=>rfl
              | some A=>rfl
            | _=>rfl
          | sl b o n' s' =>
            simp only
            cases m.get b with
            | none=>rfl
            | some k =>
              cases k with
              | cells ty' cs =>
                simp only [need]
                by_cases hc:o+n' * s'=cs.length∧ty'=ty∧s'=s∧(n'+(c+1)) * b1≤140737488355328∧n'+(c+1)≤9223372036854775807
                · rw [if_pos hc,if_pos hc];rfl
                · rw [if_neg hc,if_neg hc]
              | _=>rfl
          | _=>rfl
        | _=>rfl
theorem bBF (s:Nat) {t:Bool} (h:D.fs.e s=.c (.v (.bool t))) (h1:t=true→FD call B an j l ⟨D.fs.put s (.c (.v (.bool true))),D.T,D.tag,D.last,D.pj,D.lj⟩ Q) (h2:t=false→FD call B an j l ⟨D.fs.put s (.c (.v (.bool false))),D.T,D.tag,D.last,D.pj,D.lj⟩ Q):FD call B an j l D Q:=by
 obtain ⟨fs,T,tag,last,pj,lj⟩:=D
 have e:fs.put s (.c (.v (.bool t)))=fs:=by
  cases fs;simp only [Sf.put];rw [aG3 h]
 cases t with
 | true=>have:=h1 rfl;simp only [e] at this;exact this
 | false=>have:=h2 rfl;simp only [e] at this;exact this
theorem bDM {i:I} {s:Nat} {x y:Od} {b o:Nat} {af:List Nat} (hi:i.o=.store s x y) (hg:GK D.fs i) (hbits:Nat.beq (an.getD j 0 ||| D.last) (an.getD j 0)=true) (hpj:(D.pj.all fun q=>(an.getD j 0).testBit q)=true) (hlj:(D.lj.all fun q=>(an.getD j 0).testBit q)=true) (hx:D.fs.ev x=.c (.ptr b o))
  (h:FL call B [⟨i.d,none,.store s x y⟩] D.fs fun fs'=>FD call B an (j+1) l ⟨fs',fun _ _=>False,j+1,an.getD j 0 ||| (1 <<< j),[],[]⟩ Q):FD call B an j (⟨i,af⟩::l) D Q:=by
 refine aXi hg (by rw [hi];rfl) hbits hpj hlj (fun st=>by rw [hi];rfl) (fun st hst hm=>?_) (by rw [hi];exact aDq (.inl ⟨_,_,_,rfl⟩)) (by rw [hi];exact h)
 rw [hi]
 have:st.ev x=.c (.ptr b o):=by
  rw [← hx]
  cases x with
  | t q=>exact hst q (by rw [hi];simp [mK.sl,Od.sl])
  | _=>rfl
 simp only [eP,this,hm,Tr.get_nil]
 cases (st.ev y).cells?<;>rfl
theorem bBU {i:I} {s:Nat} {x y:Od} {b o:Nat} {af:List Nat} (hi:i.o=.store s x y) (hg:GK D.fs i) (hbits:Nat.beq (an.getD j 0 ||| D.last) (an.getD j 0)=true) (hpj:(D.pj.all fun q=>(an.getD j 0).testBit q)=true) (hx:D.fs.ev x=.c (.ptr b o)) (hT:∀ k,¬ D.T b k)
  (h:FL call B [⟨i.d,none,.store s x y⟩] D.fs fun fs'=>FD call B an (j+1) l ⟨fs',D.T,j+1,an.getD j 0 ||| (1 <<< j),[],D.lj⟩ Q):FD call B an j (⟨i,af⟩::l) D Q:=by
 refine aU3 hg (by rw [hi];rfl) hbits hpj (fun st=>by rw [hi];rfl) (fun st hst hm=>?_) (by rw [hi];exact aDq (.inl ⟨_,_,_,rfl⟩)) (fun st v m' n' r hv=>?_) (by rw [hi];exact h)
 ·rw [hi]
  have:st.ev x=.c (.ptr b o):=by
   rw [← hx]
   cases x with
   | t q=>exact hst q (by rw [hi];simp [mK.sl,Od.sl])
   | _=>rfl
  simp only [eP,this,hm,Tr.get_nil]
  cases (st.ev y).cells?<;>rfl
 rw [hi] at hv
 simp only [Io,callee,dK,eP,r.ev,hx] at hv
 cases hc:(D.fs.ev y).cells? with
 | none=>rw [hc] at hv;cases hv
 | some ds =>
  rw [hc] at hv
  simp only at hv
  cases hm:st.mem.get b with
  | none=>rw [hm] at hv;cases hv
  | some k0 =>
   rw [hm] at hv
   cases k0 with
   | cells ty cs =>
    simp only [need] at hv
    by_cases hcc:ds.length=s∧o+s≤cs.length
    ·rw [if_pos hcc] at hv
     injection hv with hv
     obtain ⟨_,hv⟩:=Prod.mk.inj hv
     obtain ⟨h1,h2⟩:=Prod.mk.inj hv
     subst h1 h2
     refine ⟨Nat.le_refl _,fun b' k' hb hg=>?_⟩
     rw [aBm,if_neg fun e=>hT k' (by rw [e];exact hb)]
     exact hg
    rw [if_neg hcc] at hv;cases hv
   | ro _=>cases hv
   | sit _ _=>cases hv
   | mp _ _=>cases hv
theorem bNu {i:I} {ty s bytes:Nat} {zr:List Value} {x y:Od} {b o n:Nat} {af:List Nat} (hi:i.o=.app ty s bytes zr x y) (hg:GK D.fs i) (hbits:Nat.beq (an.getD j 0 ||| D.last) (an.getD j 0)=true) (hpj:(D.pj.all fun q=>(an.getD j 0).testBit q)=true) (hlj:(D.lj.all fun q=>(an.getD j 0).testBit q)=true) (hy:D.fs.ev y=.c (.sl b o n s))
  (h:FL call B [⟨i.d,none,.app ty s bytes zr x y⟩] D.fs fun fs'=>FD call B an (j+1) l ⟨fs',fun _ _=>False,j+1,an.getD j 0 ||| (1 <<< j),[],[]⟩ Q):FD call B an j (⟨i,af⟩::l) D Q:=by
 refine aXi hg (by rw [hi];rfl) hbits hpj hlj (fun st=>by rw [hi];rfl) (fun st hst hm=>?_) (by rw [hi];exact aDq (.inr ⟨_,_,_,_,_,_,rfl⟩)) (by rw [hi];exact h)
 rw [hi]
 have:st.ev y=.c (.sl b o n s):=by
  rw [← hy]
  cases y with
  | t q=>exact hst q (by rw [hi];simp [mK.sl,Od.sl])
  | _=>rfl
 simp only [eP,this,AS.row,AS.read,AS.blk,hm,Tr.get_nil]
end
def FG (call:iJ) (B:rR) (an:List Nat) (j:Nat) (l:List CE.D) (fs:Sf) (T:fR) (tag last:Nat) (pj lj:List Nat) (Q:Sf→Prop):Prop:=FD call B an j l ⟨fs,T,tag,last,pj,lj⟩ Q
section
variable {call:iJ} {B:rR} {an:List Nat} {j:Nat} {l:List CE.D} {fs:Sf} {T:fR} {tag last:Nat} {pj lj:List Nat} {Q:Sf→Prop}
theorem nQ (h:Q fs):FG call B an j [] fs T tag last pj lj Q:=bOC (D:=⟨fs,T,tag,last,pj,lj⟩) h
theorem Ak {k:Nat} {ds:List CE.D} {Q:Exit→Sf→Prop} (h:FG call B an 0 ds fs (tz fs.z fs.H) 0 0 [] [] (Q .normal)):FX call k B (.draw ds an) fs Q:=aZB h
theorem jF {k:Nat} {ds:List CE.D} {c:XC} {Q:Exit→Sf→Prop} (h:FG call B an 0 ds fs (tz fs.z fs.H) 0 0 [] [] (fun fs'=>FX call k B c fs' Q)):FX call k B (.seq (.draw ds an) c) fs Q:=bF5 h
theorem gP {i:I} {d:Nat} {af:List Nat} (hd:i.d=some d) (hp:aSC i.o=true) (hg:GK fs i) (h:FL call B [⟨some d,none,i.o⟩] fs fun fs'=>FG call B an (j+1) l fs' T tag last pj lj Q):FG call B an j (⟨i,af⟩::l) fs T tag last pj lj Q:=bLn (D:=⟨fs,T,tag,last,pj,lj⟩) hd hp hg h
theorem bPa {i:I} {d s:Nat} {want:Bool} {af:List Nat} (hd:i.d=some d) (hg:i.g=some (s,want)) (hs:fs.e s=.c (.v (.bool (!want)))∨fs.e s=.tup []) (hw:FG call B an (j+1) l (fs.put d (.tup [])) T tag last pj lj Q):FG call B an j (⟨i,af⟩::l) fs T tag last pj lj Q:=bQm (D:=⟨fs,T,tag,last,pj,lj⟩) hd hg hs hw
theorem aC4 {i:I} {d:Nat} {agg:Bool} {size:Nat} {x:Od} {b o:Nat} {k:jX} {full:List C} {v:AV} {af:List Nat} (hi:i.o=.load agg size x) (hd:i.d=some d) (hg:GK fs i) (hx:fs.ev x=.c (.ptr b o)) (hT:T b k) (hk:k.cs=some full) (hl:o+size≤full.length) (hv:Ek agg ((full.drop o).take size)=v)
  (hs:Hy v v=true) (hw:FG call B an (j+1) l (fs.put d v) T tag last pj (j::lj) Q):FG call B an j (⟨i,af⟩::l) fs T tag last pj lj Q:=aZm (D:=⟨fs,T,tag,last,pj,lj⟩) hi hd hg hx hT hk hl hv hs hw
theorem mU {i:I} {d:Nat} {agg:Bool} {size:Nat} {x:Od} {b q p off:Nat} {cs:List C} {v:AV} {af:List Nat} {z:fR} (hi:i.o=.load agg size x) (hd:i.d=some d) (hg:GK fs i) (hx:fs.ev x=.c (.ptr b q)) (ha:At z b p cs) (hz:∀ b k,z b k→T b k) (hq:q=p+off) (hl:off+size≤cs.length) (hv:Ek agg ((cs.drop off).take size)=v)
  (hs:Hy v v=true) (hw:FG call B an (j+1) l (fs.put d v) T tag last pj (j::lj) Q):FG call B an j (⟨i,af⟩::l) fs T tag last pj lj Q:=bPd (D:=⟨fs,T,tag,last,pj,lj⟩) hi hd hg hx ha hz hq hl hv hs hw
theorem A7 {i:I} {d f:Nat} {args:List Od} {vs:List AV} {af:List Nat} {Post:AV→fR→Prop} (hi:i.o=.call f args) (hd:i.d=some d) (hg:GK fs i) (hbits:Nat.beq (an.getD j 0 ||| last) (an.getD j 0)=true) (hpj:(pj.all fun q=>(an.getD j 0).testBit q)=true)
  (ha:args.map fs.ev=vs) (hc:FC call f vs fs.z Post) (hw:∀ v z',zle fs.z z'→Post v z'→FG call B an (j+1) l (fs.res d v z' fs.H) T (j+1) (an.getD j 0 ||| (1 <<< j)) [] lj Q):FG call B an j (⟨i,af⟩::l) fs T tag last pj lj Q:=bK0 (D:=⟨fs,T,tag,last,pj,lj⟩) hi hd hg hbits hpj ha hc hw
theorem xM {i:I} {d:Nat} {af:List Nat} {k:jX} {w:Nat→AV} (hd:i.d=some d) (hg:GK fs i) (hl:Wc i.o=false) (hq:∀ st:AS,dK i.o st=none) (he:∀ st:AS,(∀ q,q∈i.o.sl→st.get q=fs.e q)→eP i.o st=some (st.new k,w st.nx))
  (hw:∀ b,(∀ k,¬ T b k)→FG call B an (j+1) l (fs.own d (w b) (.blk b k)) T tag last (j::pj) lj Q):FG call B an j (⟨i,af⟩::l) fs T tag last pj lj Q:=bMZ (D:=⟨fs,T,tag,last,pj,lj⟩) hd hg hl hq he hw
theorem aDC (s:Nat) {t:Bool} (h:fs.e s=.c (.v (.bool t))) (h1:t=true→FG call B an j l (fs.put s (.c (.v (.bool true)))) T tag last pj lj Q) (h2:t=false→FG call B an j l (fs.put s (.c (.v (.bool false)))) T tag last pj lj Q):FG call B an j l fs T tag last pj lj Q:=bBF (D:=⟨fs,T,tag,last,pj,lj⟩) s h h1 h2
theorem bD1 {i:I} {s:Nat} {x y:Od} {b o:Nat} {af:List Nat} (hi:i.o=.store s x y) (hg:GK fs i) (hbits:Nat.beq (an.getD j 0 ||| last) (an.getD j 0)=true) (hpj:(pj.all fun q=>(an.getD j 0).testBit q)=true) (hlj:(lj.all fun q=>(an.getD j 0).testBit q)=true) (hx:fs.ev x=.c (.ptr b o))
  (h:FL call B [⟨i.d,none,.store s x y⟩] fs fun fs'=>FG call B an (j+1) l fs' (fun _ _=>False) (j+1) (an.getD j 0 ||| (1 <<< j)) [] [] Q):FG call B an j (⟨i,af⟩::l) fs T tag last pj lj Q:=bDM (D:=⟨fs,T,tag,last,pj,lj⟩) hi hg hbits hpj hlj hx h
theorem bC0 {i:I} {s:Nat} {x y:Od} {b o:Nat} {af:List Nat} (hi:i.o=.store s x y) (hg:GK fs i) (hbits:Nat.beq (an.getD j 0 ||| last) (an.getD j 0)=true) (hpj:(pj.all fun q=>(an.getD j 0).testBit q)=true) (hx:fs.ev x=.c (.ptr b o)) (hT:∀ k,¬ T b k)
  (h:FL call B [⟨i.d,none,.store s x y⟩] fs fun fs'=>FG call B an (j+1) l fs' T (j+1) (an.getD j 0 ||| (1 <<< j)) [] lj Q):FG call B an j (⟨i,af⟩::l) fs T tag last pj lj Q:=bBU (D:=⟨fs,T,tag,last,pj,lj⟩) hi hg hbits hpj hx hT h
theorem D5 {i:I} {ty s bytes:Nat} {zr:List Value} {x y:Od} {b o n:Nat} {af:List Nat} (hi:i.o=.app ty s bytes zr x y) (hg:GK fs i) (hbits:Nat.beq (an.getD j 0 ||| last) (an.getD j 0)=true) (hpj:(pj.all fun q=>(an.getD j 0).testBit q)=true) (hlj:(lj.all fun q=>(an.getD j 0).testBit q)=true) (hy:fs.ev y=.c (.sl b o n s))
  (h:FL call B [⟨i.d,none,.app ty s bytes zr x y⟩] fs fun fs'=>FG call B an (j+1) l fs' (fun _ _=>False) (j+1) (an.getD j 0 ||| (1 <<< j)) [] [] Q):FG call B an j (⟨i,af⟩::l) fs T tag last pj lj Q:=bNu (D:=⟨fs,T,tag,last,pj,lj⟩) hi hg hbits hpj hlj hy h
end
section
variable {call:iJ} {B:rR} {fs:Sf} {l:List I} {Q:Sf→Prop}
def JQ (fs:Sf) (ls:Bool→List (Nat×AV)) (P:Prop) (fs':Sf):Prop:=∃ r:Bool,fs'.H=fs.H∧zle fs.z fs'.z∧Sr fs'.e (ls r)∧(r=true↔P)
theorem O3 (n s:Nat) (ls:Bool→List (Nat×AV)) (P:Prop) {t:Bool} (hs:fs.e s=.c (.v (.bool t))) (h1:t=true→FL call B (l.take n) (fs.put s (.c (.v (.bool true)))) (JQ fs ls P)) (h0:t=false→FL call B (l.take n) (fs.put s (.c (.v (.bool false)))) (JQ fs ls P))
  (hw:∀ e z' r,zle fs.z z'→(r=true↔P)→FL call B (l.drop n) ⟨aPv e (ls r),z',fs.H⟩ Q):FL call B l fs Q:=by
 rw [← List.take_append_drop n l]
 refine bQy (J:=JQ fs ls P) (nV s hs h1 h0) fun fs' ⟨r,g1,g2,g3,g4⟩=>?_
 have:=hw fs'.e fs'.z r g2 g4
 rw [g3.eq,← g1] at this
 exact this
theorem zK {fs0:Sf} {ls:Bool→List (Nat×AV)} {P:Prop} (r:Bool) (hH:fs.H=fs0.H) (hz:zle fs0.z fs.z) (ha:Sr fs.e (ls r)) (hr:r=true↔P):FL call B [] fs (JQ fs0 ls P):=lN ⟨r,hH,hz,ha,hr⟩
end
theorem O0 {s:Bool} {P Q:Prop} (hs:s=true↔P) (h:s=true):true=true↔P∨Q:=⟨fun _=>.inl (hs.1 h),fun _=>rfl⟩
theorem Ov {r s:Bool} {P Q:Prop} (hs:s=true↔P) (h:s=false) (hr:r=true↔Q):r=true↔P∨Q:=by
 constructor
 ·intro g;exact .inr (hr.1 g)
 intro q
 rcases q with q | q
 ·rw [hs.2 q] at h;cases h
 exact hr.2 q
theorem jB {P:Prop} [Decidable P]:decide P=true↔P:=decide_eq_true_iff
theorem sL {r:Bool} {P:Prop} (h:r=true↔P) (hr:r=false):¬ P:=fun p=>by rw [h.2 p] at hr;cases hr
open Go.RowKit
open Go.Eng (Od need need_pos iU mR binV binBV setL_length Bg)
def zd (z0 z:fR):fR:=fun b k=>z b k∧(∀ k',¬ z0 b k')∧k.isRo=false
theorem kY {z0 z:fR}:zle (zd z0 z) z:=⟨fun _ _ h=>h.1⟩
instance zlm {z a b:fR} [h:Zl a b]:Zl (zd z a) b:=⟨kY.trans h.h⟩
theorem nJ {z0 z z':fR} (h:zle z z'):zle (zd z0 z) (zd z0 z'):=⟨fun b k g=>⟨h b k g.1,g.2⟩⟩
theorem vS {z0 z1 z:fR} (h:zle z0 z1):zle (zd z1 z) (zd z0 z):=⟨fun b k g=>⟨g.1,fun k' h'=>g.2.1 k' (h b k' h'),g.2.2⟩⟩
section
variable {call:iJ} {B:rR} {fs:Sf} {l:List I} {Q:Sf→Prop} {d:Nat}
theorem aZN {α:Type} {size:Nat} {R:RT α} [RMono R] {k:Nat} {c:XC} {Q:Exit→Sf→Prop} {u:AV} {ty n:Nat} {cs:List C} {r:List α} {p q:List HA} {z0:fR} (e:fs.H=p++.row u ty size n cs::q) (hz0:zle z0 fs.z) (hc:CL size R (zd z0 fs.z) cs r) (hn:r.length=n) (hm:n≤9223372036854775807)
    (hw:∀ z',zle fs.z z'→SZ size R (zd z0 z') u r→FX call k B c (fs.frz z' (p++q)) Q):FX call k B c fs Q:=fun st rf=>by
  obtain ⟨g1,g2⟩:=rf.hold.h (.row u ty size n cs) (by rw [e];simp)
  rcases g2 with ⟨h0,rfl⟩ | ⟨b,rfl,h3⟩
  · have hr0 : r = [] := List.eq_nil_of_length_eq_zero (by omega)
    subst hr0
    refine hw fs.z (zle.refl _) .nil st ?_
    have hsub:(p++q).Sublist fs.H:=by rw [e];exact (List.Sublist.refl p).append (List.sublist_cons_self _ _)
    exact ⟨rf.env,rf.hold.sub hsub,rf.le,rf.old,fun b hb=>rf.own b ((Lu hsub).subset hb),rf.zle,rf.zin⟩
  · have h1 := rf.frz (p := p) (q := q) (b := b) (k := .cells ty cs) (a := .row (.c (.sl b 0 n size)) ty size n cs) e rfl (fun m hm => by
      obtain ⟨_,hm⟩:=hm
      rcases hm with ⟨_,hm⟩ | ⟨b',hb',hm⟩
      · cases hm
      · injection hb' with hb';injection hb' with hb';subst hb';exact hm)
    have hnb:∀ k',¬ z0 b k':=fun k' hb=>(rf.hold.z b k' (hz0 b k' hb)).2.2 (by rw [e,kM,kD];simp [HA.fp])
    exact hw _ ⟨fun _ _ h=>.inl h⟩ ((hc.mono (nJ ⟨fun _ _ h=>.inl h⟩)).sz hn hm ⟨.inr ⟨rfl,rfl⟩,hnb,rfl⟩) st h1
theorem aYb {k:NK} {ne:Bool} {x y:Od} {u v:AV} {a b r:Bool} (hx:fs.ev x=u) (hy:fs.ev y=v) (ha:aGJ k u=some a) (hb:aGJ k v=some b) (hab:(a || b)=true) (hr:((a && b) != ne)=r) (hw:FL call B l (fs.put d (.c (.v (.bool r)))) Q):FL call B (⟨some d,none,.cmpn k ne x y⟩::l) fs Q:=
  aFW (fun _ => rfl) (fun st rf => by
    simp only [dK,rf.ev,hx,hy,ha,hb,hab,hr];rfl) hw
theorem Rf.asblk {st:AS} (h:Rf B fs st) {u:AV} {b ty n size:Nat} {cs:List C} {p q:List HA} (e:fs.H=p++.row u ty size n cs::q) (hu:u=.c (.sl b 0 n size)) (hb0:st.mem.get b=some (.cells ty cs)):Rf B (fs.heap (p++.blk b (.cells ty cs)::q)) st:=by
 subst hu
 have e2:qT (p++.blk b (.cells ty cs)::q)=qT fs.H:=by rw [e,kM,kM,kD,kD];rfl
 refine ⟨h.env,⟨fun x k hb=>?_,fun a ha=>?_,fun x hb=>?_,?_⟩,h.le,h.old,fun x hb=>?_,h.zle,h.zin⟩
 ·show _∧_∧x ∉ qT (p++.blk b (.cells ty cs)::q)
  rw [e2];exact h.hold.z x k hb
 ·have ha:a∈p++.blk b (.cells ty cs)::q:=ha
  rcases List.mem_append.1 ha with ha | ha
  ·exact h.hold.h a (by rw [e];simp [ha])
  rcases List.mem_cons.1 ha with rfl | ha
  ·exact hb0
  exact h.hold.h a (by rw [e];simp [ha])
 ·have hb:x∈qT (p++.blk b (.cells ty cs)::q):=hb
  rw [e2] at hb;exact h.hold.lt x hb
 ·show (qT (p++.blk b (.cells ty cs)::q)).Nodup
  rw [e2];exact h.hold.nd
 have hb:x∈qT (p++.blk b (.cells ty cs)::q):=hb
 rw [e2] at hb;exact h.own x hb
theorem aUN {u:AV} {ty n size:Nat} {cs:List C} {p q:List HA} (e:fs.H=p++.row u ty size n cs::q) (hn:0<n) (h1:∀ b,u=.c (.sl b 0 n size)→FL call B l (fs.heap (p++.blk b (.cells ty cs)::q)) Q):FL call B l fs Q:=fun st r=>by
 obtain ⟨g1,g2⟩:=r.hold.h (.row u ty size n cs) (by rw [e];simp)
 rcases g2 with ⟨h0,_⟩ | ⟨b,hu,h3⟩
 ·omega
 exact h1 b hu st (r.asblk e hu h3)
theorem aUS {x:Od} {u:AV} {ty n size:Nat} {cs:List C} (hx:fs.ev x=u) (hm:HA.row u ty size n cs∈fs.H) (hw:FL call B l (fs.put d (.c (.v (.int .i64 n)))) Q):FL call B (⟨some d,none,.len false x⟩::l) fs Q:=fun st r=>by
 obtain ⟨g1,g2⟩:=r.hold.h _ hm
 have hl:lenOf u=some n:=by
  rcases g2 with ⟨h0,rfl⟩ | ⟨b,rfl,h3⟩
  ·rw [h0];rfl
  rfl
 exact aEG hx hl hw st r
theorem bJc {α:Type} (l:List α) (j:Nat) (x:List α) (h:j+x.length≤l.length) (i:Nat):(mR l j x)[i]? = if j≤i∧i<j+x.length then x[i - j]? else l[i]?:=by
 rw [Bg l j x h]
 by_cases h1:i<j
 ·rw [if_pos h1,if_neg (by omega)]
 rw [if_neg h1]
 by_cases h2:i<j+x.length
 ·rw [if_pos h2,if_pos (by omega)]
 rw [if_neg h2,if_neg (by omega)]
end
theorem aSl {fs:Sf} {ts:List RR} {vs:List AV} {x:Exit} {Post:AV→fR→List HA→Prop} {H':List HA} (hx:x=.ret∨x=.normal) (h:Wh fs ts vs) (hs:H'.Sublist fs.H) (hp:Post (aTA vs) fs.z H'):bCQ ts Post x fs:=⟨hx,vs,H',h,hs,hp⟩
def bOm (ty size bytes:Nat) (zero:List Value):XC:=.seq (.region [⟨some 2,none,.mv (.k (.slice none 0 0))⟩])
  (.seq (.seq (.region [⟨some 3, none, .mv (.t 0)⟩, ⟨some 4, none, .cmpn .sl false (.t 3) (.k (.slice none 0 0))⟩]) (.cond (.t 4) (.seq (.region [⟨some 2, none, .mv (.k (.slice none 0 0))⟩]) .ret) .skip))
  (.seq (.region [⟨some 5,none,.bslice ty size 0 zero []⟩,⟨some 6,none,.mv (.t 0)⟩,⟨some 7,none,.app ty size bytes zero (.t 5) (.t 6)⟩,⟨some 2,none,.mv (.t 7)⟩]) .ret))
def aGU {α:Type} (ty size:Nat) (R:RT α) (z:fR) (l:List α) (v:AV) (z':fR) (H':List HA):Prop:=∃ cs,H'=[.row v ty size l.length cs]∧CL size R z' cs l∧z'=z∧∃ c,v=.c c∧pG c c=true
theorem aOd {T:Tr FE} {hand:iJ} {k0 k f ty size bytes:Nat} {zero:List Value} {α:Type} {R:RT α} [RMono R] {z:fR} {v:AV} {l:List α} (hT:T.get f=some ⟨8,bOm ty size bytes zero,[.t 2]⟩) (hk:1≤k) (hv:SZ size R z v l) (hb:l.length * bytes≤140737488355328) :
    FCt (evF T hand k0 k) f [v] z [] (aGU ty size R z l):=by
  refine aOf hT hk (by show 1≤8;omega) fun B j hj=>?_
  have hle:=hv.le
  refine xR (lM rfl (lN ?_))
  refine Z6 (xR (lM rfl ?_))
  have key : aGJ .sl v = some false → FL (evF T hand k0 j) B [⟨some 4, none, .cmpn .sl false (.t 3) (.k (.slice none 0 0))⟩] (((⟨aS1 [v], z, []⟩ : Sf).put 2 qY).put 3 v) fun fs' => FX (evF T hand k0 j) k0 B (.seq (.cond (.t 4) (.seq (.region [⟨some 2, none, .mv (.k (.slice none 0 0))⟩]) .ret) .skip)
      (.seq (.region [⟨some 5,none,.bslice ty size 0 zero []⟩,⟨some 6,none,.mv (.t 0)⟩,⟨some 7,none,.app ty size bytes zero (.t 5) (.t 6)⟩,⟨some 2,none,.mv (.t 7)⟩]) .ret)) fs' (bCQ [.t 2] (aGU ty size R z l)):=fun hn=>by
    refine aYb (a:=false) (b:=true) rfl rfl hn rfl rfl rfl (lN ?_)
    refine Ez (Et rfl (dX (xR ?_)))
    refine gU rfl fun b=>?_
    refine lM rfl ?_
    refine Hw (p:=[]) (n:=0) (cs:=Gi 0 (zero.map fun v=>.v v)) (size:=size) (b:=b) (ty:=ty) (q:=[]) rfl (by simp [Gi]) ?_
    refine aUP rfl rfl hv (fun _ _=>lR) (by rw [Nat.zero_add];exact hb) (by omega) fun c' hc' news hnews=>?_
    refine lM rfl (lN (xT ?_))
    refine aSl (.inl rfl) (rt rfl rn) (List.Sublist.refl _) ⟨news,?_,hnews,rfl,c',rfl,hc'⟩
    simp only [List.nil_append,Nat.zero_add,Gi]
    rfl
  cases hv with
  | nil =>
    refine aYb (a:=true) (b:=true) rfl rfl rfl rfl rfl rfl (lN ?_)
    refine Ez (aWD rfl (Z6 (xR (lM rfl (uE ty size (lN (mC ?_)))))))
    exact aSl (.inl rfl) (rt rfl rn) (List.Sublist.refl _) ⟨[],rfl,CL.nil,rfl,_,rfl,bBR⟩
  | em=>exact key rfl
  | sl b o n k full l hl hm hz hk hf hh=>exact key rfl
theorem FCt.clone {call:iJ} {f ty size:Nat} {α:Type} {R:RT α} {z:fR} {v:AV} {l:List α} (h:FCt call f [v] z [] (aGU ty size R z l)) (hR:∀ {z1 z2:fR} {cs:List C} {a:α},R z1 cs a→R z2 cs a) (hm:l.length≤9223372036854775807):FC call f [v] z fun v' z'=>SZ size R (zd z z') v' l:=fun mem nx hh=>by
  obtain ⟨w,mem',nx',z',H',h1,h2,h3,h4,h5,h6,h7,cs,e1,hcl,e2,c,e3,hc⟩:=h mem nx hh
  subst e1 e2 e3
  obtain ⟨g1,g2⟩:=h4.h _ (List.mem_singleton.2 rfl)
  rcases g2 with ⟨h0,hw⟩ | ⟨b,hw,h8⟩
  · have e : l = [] := List.eq_nil_of_length_eq_zero (by omega)
    subst e
    injection hw with hw
    subst hw
    exact ⟨_,mem',nx',z',[],h1,h2,h3,h4.sub (List.nil_sublist _),h5,h6,fun b hb=>by simp [qT] at hb,rfl,.nil⟩
  · injection hw with hw
    subst hw
    have hfb:b∈qT [HA.row (.c (.sl b 0 l.length size)) ty size l.length cs]:=by simp [qT,HA.fp]
    refine ⟨_,mem',nx',fun x y=>z' x y∨(x=b∧y=.cells ty cs),[],h1,h2,h3,⟨fun x k hx=>?_,fun a ha=>by simp at ha,fun x hx=>by simp [qT] at hx,by simp [qT]⟩,⟨fun _ _ hx=>.inl hx⟩,fun x k hx=>?_,fun x hx=>by simp [qT] at hx,rfl,?_⟩
    · rcases hx with hx | ⟨rfl,rfl⟩
      · obtain ⟨k1, k2, _⟩ := h4.z x k hx
        exact ⟨k1,k2,by simp [qT]⟩
      · exact ⟨h8,h4.lt _ hfb,by simp [qT]⟩
    · rcases hx with hx | ⟨rfl,rfl⟩
      · exact .inl hx
      · rcases h7 _ hfb with k | k
        · exact .inr (.inl k)
        · simp [qT] at k
    · refine CL.sz (ty:=ty) (cs:=cs) ⟨hcl.1,fun i a hi=>⟨(hcl.2 i a hi).1,hR (hcl.2 i a hi).2⟩⟩ rfl hm ⟨.inr ⟨rfl,rfl⟩,fun k' hb=>(h4.z b k' hb).2.2 hfb,rfl⟩
section
variable {call:iJ} {k:Nat} {B:rR} {c:XC} {fs:Sf} {Q:Exit→Sf→Prop}
theorem bLP (h:zle B.z fs.z→FX call k B c fs Q):FX call k B c fs Q:=fun st r=>h r.zle st r
def bC9 (H:List HA):fR:=fun b k=>HA.blk b k∈H
def bTo (z U:fR):fR:=fun b k=>z b k∧∀ k',¬ U b k'
open Classical in
noncomputable def aA5 (U:fR) (n:Nat):List HA:=(List.range n).filterMap fun b=>if h:∃ k,U b k then some (.blk b (Classical.choose h)) else none
theorem aGQ {U:fR} {n b:Nat} {k:jX} (hf:∀ b k k',U b k→U b k'→k=k') (hn:∀ b k,U b k→b<n):HA.blk b k∈aA5 U n↔U b k:=by
 unfold aA5
 rw [List.mem_filterMap]
 constructor
 ·rintro ⟨a,ha,h⟩
  split at h
  ·rename_i hh
   injection h with h
   injection h with h1 h2
   subst h1;subst h2
   exact Classical.choose_spec hh
  cases h
 intro h
 refine ⟨b,List.mem_range.2 (hn b k h),?_⟩
 have hh:∃ k,U b k:=⟨k,h⟩
 rw [dif_pos hh,hf b _ _ (Classical.choose_spec hh) h]
theorem aHJ {U:fR} {n:Nat} {a:HA} (h:a∈aA5 U n):∃ b k,a=.blk b k∧U b k:=by
 unfold aA5 at h
 rw [List.mem_filterMap] at h
 obtain ⟨b,_,h⟩:=h
 split at h
 ·rename_i hh
  injection h with h
  exact ⟨b,_,h.symm,Classical.choose_spec hh⟩
 cases h
theorem bCm {U:fR} {n:Nat}:(qT (aA5 U n)).Sublist (List.range n):=by
 unfold aA5
 generalize List.range n=r
 induction r with
 | nil=>exact List.Sublist.refl _
 | cons b r ih =>
  rw [List.filterMap_cons]
  split
  ·exact ih.cons _
  rename_i a h
  split at h
  ·injection h with h
   subst h
   rw [kD]
   exact ih.cons_cons _
  cases h
theorem Rf.thaw {st:AS} (r:Rf B fs st) {zA zB:fR} (hA:CE.zle B.z zA) (hAB:CE.zle zA zB) (hB:CE.zle zB fs.z) :
  ∃ G:List HA,(∀ b k,bC9 G b k↔zd zA zB b k)∧(∀ a,a∈G→∃ b k,a=.blk b k)∧(∀ b k k',bC9 G b k→bC9 G b k'→k=k')∧Rf B ⟨fs.e,bTo fs.z (zd zA zB),G++fs.H⟩ st:=by
 have hf:∀ b k k',zd zA zB b k→zd zA zB b k'→k=k':=fun b k k' h1 h2=>by
  have g1:=(r.hold.z b k (hB _ _ h1.1)).1
  have g2:=(r.hold.z b k' (hB _ _ h2.1)).1
  rw [g1] at g2
  injection g2
 have hn:∀ b k,zd zA zB b k→b<st.nx:=fun b k h=>(r.hold.z b k (hB _ _ h.1)).2.1
 have hfp:∀ b,b∈qT (aA5 (zd zA zB) st.nx)→∃ k,zd zA zB b k:=fun b hb=>by
  obtain ⟨a,ha,hb⟩:=vW.1 hb
  obtain ⟨b',k,rfl,hk⟩:=aHJ ha
  simp [HA.fp] at hb
  subst hb
  exact ⟨k,hk⟩
 refine ⟨aA5 (zd zA zB) st.nx,fun b k=>aGQ hf hn,fun a ha=>(by obtain ⟨b,k,h,_⟩:=aHJ ha;exact ⟨b,k,h⟩),fun b k k' h1 h2=>hf b k k' ((aGQ hf hn).1 h1) ((aGQ hf hn).1 h2),⟨r.env,⟨fun b k hb=>?_,fun a ha=>?_,fun b hb=>?_,?_⟩,r.le,r.old,fun b hb=>?_,⟨fun b k hb=>?_⟩,fun b k hb=>r.zin b k hb.1⟩⟩
 ·obtain ⟨g1,g2,g3⟩:=r.hold.z b k hb.1
  refine ⟨g1,g2,?_⟩
  rw [kM,List.mem_append]
  rintro (g4 | g4)
  ·obtain ⟨k',hk⟩:=hfp b g4
   exact hb.2 k' hk
  exact g3 g4
 ·rcases List.mem_append.1 ha with ha | ha
  ·obtain ⟨b,k,rfl,hk⟩:=aHJ ha
   exact (r.hold.z b k (hB _ _ hk.1)).1
  exact r.hold.h a ha
 ·have hb:b∈qT (aA5 (zd zA zB) st.nx++fs.H):=hb
  rw [kM,List.mem_append] at hb
  rcases hb with hb | hb
  ·obtain ⟨k,hk⟩:=hfp b hb
   exact hn b k hk
  exact r.hold.lt b hb
 ·show (qT (aA5 (zd zA zB) st.nx++fs.H)).Nodup
  rw [kM]
  refine List.nodup_append.2 ⟨bCm.nodup List.nodup_range,r.hold.nd,fun x hx y hy e=>?_⟩
  subst e
  obtain ⟨k,hk⟩:=hfp x hx
  exact (r.hold.z x k (hB _ _ hk.1)).2.2 hy
 ·have hb:b∈qT (aA5 (zd zA zB) st.nx++fs.H):=hb
  rw [kM,List.mem_append] at hb
  rcases hb with hb | hb
  ·obtain ⟨k,hk⟩:=hfp b hb
   rcases r.zin b k (hB _ _ hk.1) with g | g
   ·exact absurd (hA b k g) (hk.2.1 k)
   exact g
  exact r.own b hb
 exact ⟨r.zle b k hb,fun k' hk=>hk.2.1 k (hA b k hb)⟩
theorem bKJ {l:List I} {Q:Sf→Prop} {zA zB:fR} (hA:zle B.z zA) (hAB:zle zA zB) (hB:zle zB fs.z)
  (hw:∀ (G:List HA) (zt:fR),(∀ b k,bC9 G b k↔zd zA zB b k)→(∀ a,a∈G→∃ b k,a=.blk b k)→(∀ b k k',bC9 G b k→bC9 G b k'→k=k')→zle zA zt→zle (zd zB fs.z) zt→FL call B l ⟨fs.e,zt,G++fs.H⟩ Q):FL call B l fs Q:=fun st r=>by
 obtain ⟨G,h1,h2,h3,h4⟩:=r.thaw hA hAB hB
 exact hw G _ h1 h2 h3 ⟨fun b k h=>⟨hB _ _ (hAB _ _ h),fun k' hk=>hk.2.1 k h⟩⟩ ⟨fun b k h=>⟨h.1,fun k' hk=>h.2.1 k' hk.1⟩⟩ st h4
end
open Go.RowKit
open Go.Eng (Od need need_pos iU mR binV binBV setL_length)
inductive SR:C→C→Prop where
 | same (c:C):SR c c
 | i (k:IntKind) (n m:Int):SR (.v (.int k n)) (.v (.int k m))
 | b (x y:Bool):SR (.v (.bool x)) (.v (.bool y))
 | s (x y:ByteArray):SR (.v (.string x)) (.v (.string y))
 | sl (b o n s:Nat):SR (.sl b o n s) (.v (.slice none 0 0))
 | em:SR .em (.v (.slice none 0 0))
def SRL (l l':List C):Prop:=l'.length=l.length∧∀ (i:Nat) (c c':C),l[i]? = some c→l'[i]? = some c'→SR c c'
theorem SRL.refl (l:List C):SRL l l:=⟨rfl,fun i c c' h h'=>by rw [h] at h';injection h' with h';subst h';exact .same c⟩
theorem SRL.cons {c c' : C} {l l' : List C} (h : SR c c') (g : SRL l l') : SRL (c :: l) (c' :: l') := ⟨by simp [g.1], fun i a a' h1 h2 => by
  cases i with
  | zero=>simp at h1 h2;subst h1;subst h2;exact h
  | succ i=>exact g.2 i a a' (by simpa using h1) (by simpa using h2)⟩
theorem SRL.nil:SRL [] []:=SRL.refl []
theorem SRL.sub {l ws : List C} (h : SRL l ws) (o n : Nat) : SRL ((l.drop o).take n) ((ws.drop o).take n) := ⟨by simp [h.1], fun i c c' h1 h2 => by
  rw [List.getElem?_take] at h1 h2
  split at h1
  · rename_i hi
    rw [if_pos hi] at h2
    rw [List.getElem?_drop] at h1 h2
    exact h.2 _ c c' h1 h2
  · cases h1⟩
theorem SRL.set {l ws ds:List C} {o:Nat} (h:SRL l ws) (ho:o+ds.length≤l.length) (g:SRL ((l.drop o).take ds.length) ds):SRL l (mR ws o ds):=by
 have hl:=setL_length ws o ds (by rw [h.1];exact ho)
 refine ⟨by rw [hl,h.1],fun i c c' h1 h2=>?_⟩
 rw [bJc _ _ _ (by rw [h.1];exact ho)] at h2
 split at h2
 ·rename_i hi
  refine g.2 (i - o) c c' ?_ h2
  rw [List.getElem?_take,if_pos (by omega),List.getElem?_drop,show o+(i - o)=i by omega]
  exact h1
 exact h.2 i c c' h1 h2
theorem SR.refl_row {α:Type} {size:Nat} {R:RT α} {U:fR} {c:C} {l:List α} (hc:CZ size R U c l):SR c (.v (.slice none 0 0)):=by
 cases hc with
 | nil=>exact .same _
 | em=>exact .em
 | sl b o n k full l hl hm hz hk hf h=>exact .sl ..
def KR (k0 k:jX):Prop:=∃ ty cs0 cs,k0=.cells ty cs0∧k=.cells ty cs∧SRL cs0 cs
structure GS (U:fR) (G:List HA):Prop where
 k:∀ b k0 cs0,U b k0→k0.cs=some cs0→∃ k,HA.blk b k∈G∧KR k0 k
 f:∀ b k k',U b k→U b k'→k=k'
theorem bAg {a a':HA}:∀ {l:List HA},a∈l→∃ l',By l a a' l'
 | x::l,h=>by
  rcases List.mem_cons.1 h with rfl | h
  ·exact ⟨_,lR⟩
  obtain ⟨l',h'⟩:=bAg (a':=a') h
  exact ⟨_,oH h'⟩
section
variable {call:iJ} {B:rR} {fs:Sf} {l:List I} {Q:Sf→Prop} {d:Nat} {U:fR} {G pre:List HA}
theorem aZi {size:Nat} {x y:Od} {b p off:Nat} {cs ds:List C} {v:AV} {h1 h2:HA} (hH:fs.H=h1::h2::G) (hG:GS U G) (hx:fs.ev x=.c (.ptr b (p+off))) (hy:fs.ev y=v) (hv:v.cells? = some ds) (ha:At U b p cs) (hl:off+size≤cs.length) (hs:SRL ((cs.drop off).take size) ds)
  (hw:∀ G',GS U G'→FL call B l (fs.heap (h1::h2::G')) Q):FL call B (⟨none,none,.store size x y⟩::l) fs Q:=by
 obtain ⟨k0,full,g1,g2,g3,g4⟩:=ha
 obtain ⟨k,hk,ty,cs0,cs1,rfl,rfl,hs1⟩:=hG.k b k0 full g1 g2
 injection g2 with g2
 subst g2
 have hds:ds.length=size:=by rw [hs.1,List.length_take,List.length_drop];omega
 obtain ⟨G',hr⟩:=bAg (a':=.blk b (.cells ty (mR cs1 (p+off) ds))) hk
 have I0:p+off+ds.length≤cs0.length:=by omega
 have e:((cs.drop off).take size)=((cs0.drop (p+off)).take ds.length):=by
  rw [← g4,List.drop_take,List.take_take,List.drop_drop,hds]
  congr 1
  omega
 refine aSy hx hy hv (by rw [hH];exact oH (oH hr)) hds (by rw [hs1.1];omega) (hw G' ⟨fun b' k0' cs0' u1 u2=>?_,hG.f⟩)
 obtain ⟨pp,qq,e1,e2⟩:=hr.split
 by_cases hb:b'=b
 ·subst hb
  have:=hG.f _ _ _ g1 u1
  subst this
  exact ⟨_,by rw [e2];simp,ty,cs0,_,rfl,rfl,hs1.set I0 (by rw [← e];exact hs)⟩
 obtain ⟨k,hk',hkr⟩:=hG.k b' k0' cs0' u1 u2
 refine ⟨k,?_,hkr⟩
 rw [e1] at hk'
 rw [e2]
 simp only [List.mem_append,List.mem_cons] at hk' ⊢
 rcases hk' with hk' | hk' | hk'
 ·exact .inl hk'
 ·injection hk' with hk';exact absurd hk' hb
 exact .inr (.inr hk')
theorem bH6 {H H':List HA} (h:H.Perm H'):(qT H).Perm (qT H'):=by
 induction h with
 | nil=>exact .refl _
 | cons a _ ih=>rw [kD,kD];exact ih.append_left _
 | swap a b l=>rw [kD,kD,kD,kD,← List.append_assoc,← List.append_assoc];exact List.perm_append_comm.append_right _
 | trans _ _ h1 h2=>exact h1.trans h2
theorem aY0 {H':List HA} (hp:fs.H.Perm H') (hw:FL call B l (fs.heap H') Q):FL call B l fs Q:=fun st r=>by
 have hf:=bH6 hp
 refine hw st ⟨r.env,⟨fun b k hb=>?_,fun a ha=>r.hold.h a (hp.mem_iff.2 ha),fun b hb=>r.hold.lt b (hf.mem_iff.2 hb),hf.nodup r.hold.nd⟩,r.le,r.old,fun b hb=>r.own b (hf.mem_iff.2 hb),r.zle,r.zin⟩
 obtain ⟨h1,h2,h3⟩:=r.hold.z b k hb
 exact ⟨h1,h2,fun h=>h3 (hf.mem_iff.2 h)⟩
end
open Go.RowKit
open Go.Eng (Od need need_pos iU mR binV binBV setL_length aAI)
open Go.Num (nF gI)
abbrev eW (x:UInt32):Value:=.int .u32 (x.toNat:Nat)
abbrev eN (n:Nat):Value:=.int .i64 (n:Nat)
def RE {α:Type} (e:α→Value):RT α:=fun _ cs a=>cs=[.v (e a)]
abbrev RW:RT UInt32:=RE eW
abbrev RN:RT Nat:=RE eN
instance:RMono (RE eW):=⟨fun _ h=>h⟩
instance:RMono (RE eN):=⟨fun _ h=>h⟩
def cE {α:Type} (e:α→Value) (l:List α):List C:=l.map fun a=>.v (e a)
section
variable {α:Type} {e:α→Value} {l:List α}
theorem aBx:(cE e l).length=l.length:=by simp [cE]
theorem aGM {a:α} {j:Nat} (h:l[j]? = some a):(cE e l)[j]? = some (.v (e a)):=by simp [cE,h]
theorem bG0 {j:Nat} {a:α} (h:j<l.length):mR (cE e l) j [.v (e a)]=cE e (l.set j a):=by
 rw [aAI,List.set_eq_take_append_cons_drop,if_pos h]
 simp [cE,List.map_take,List.map_drop]
theorem bIy (n:Nat) (a:α):Gi n [.v (e a)]=cE e (List.replicate n a):=by
 induction n with
 | zero=>rfl
 | succ n ih=>rw [Gi,ih,List.replicate_succ];rfl
theorem aUF {r:List α}:cE e l++cE e r=cE e (l++r):=by simp [cE]
theorem Ti {z:fR}:CL 1 (RE e) z (cE e l) l:=by
 refine ⟨by rw [aBx,Nat.mul_one],fun i a h=>?_⟩
 have hlt:=(List.getElem?_eq_some_iff.1 h).1
 have:((cE e l).drop (i * 1)).take 1=[.v (e a)]:=by
  apply List.ext_getElem?
  intro q
  cases q with
  | zero=>rw [List.getElem?_take,if_pos (by omega),List.getElem?_drop,Nat.mul_one,Nat.add_zero,aGM h];rfl
  | succ q=>rw [List.getElem?_eq_none (by rw [List.length_take];omega),List.getElem?_eq_none (by simp)]
 rw [this]
 exact ⟨rfl,rfl⟩
end
abbrev Ds {α:Type} (e:α→Value) (u:AV) (ty:Nat) (l:List α):HA:=.row u ty 1 l.length (cE e l)
abbrev D6 {α:Type} (e:α→Value) (b:Nat) (ty:Nat) (l:List α):HA:=.blk b (.cells ty (cE e l))
def PE (z:fR) (p:AV) (w:Value):Prop:=∃ b o,p=.c (.ptr b o)∧At z b o [.v w]
theorem aXF {r:List UInt32} {j:Nat} (h:j<r.length):eW r[j]=.int .u32 (nF r j:Nat):=by
 simp [eW,nF,List.getD_eq_getElem?_getD,List.getElem?_eq_getElem h]
theorem aZw {r:List Nat} {j:Nat} (h:j<r.length):eN r[j]=.int .i64 (gI r j:Nat):=by
 simp [eN,gI,List.getD_eq_getElem?_getD,List.getElem?_eq_getElem h]
section
variable {call:iJ} {B:rR} {fs:Sf} {l:List I} {Q:Sf→Prop} {d:Nat}
theorem Lq {α:Type} {size n:Nat} {R:RT α} {zz:fR} {x:Od} {v:AV} {r:List α} (hx:fs.ev x=v) (hr:SZ size R zz v r) (hn:r.length=n) (hw:FL call B l (fs.put d (.c (.v (.int .i64 (n:Nat))))) Q):FL call B (⟨some d,none,.len false x⟩::l) fs Q:=aEG hx (by rw [← hn];exact hr.len) hw
theorem K9 {α:Type} {e:α→Value} {zz:fR} {x i:Od} {v:AV} {r:List α} {kd:IntKind} {z:Int} (hx:fs.ev x=v) (hi:fs.ev i=.c (.v (.int kd z))) (hr:SZ 1 (RE e) zz v r) (j:Nat) (hj:z=(j:Int)) (h:j<r.length)
  (hw:∀ p,PE zz p (e r[j])→FL call B l (fs.put d p) Q):FL call B (⟨some d,none,.iad 1 x i⟩::l) fs Q:=
 eA hx hi hr j hj r[j] (List.getElem?_eq_getElem h) fun b p cs ha hR=>hw _ ⟨b,p,rfl,by rw [← hR];exact ha⟩
theorem qO {zz:fR} {x i:Od} {v:AV} {r:List UInt32} {kd:IntKind} {z:Int} (hx:fs.ev x=v) (hi:fs.ev i=.c (.v (.int kd z))) (hr:SZ 1 RW zz v r) (j:Nat) (hj:z=(j:Int)) (h:j<r.length)
  (hw:∀ p,PE zz p (.int .u32 (nF r j:Nat))→FL call B l (fs.put d p) Q):FL call B (⟨some d,none,.iad 1 x i⟩::l) fs Q:=K9 hx hi hr j hj h (by rw [aXF h];exact hw)
theorem yR {zz:fR} {x i:Od} {v:AV} {r:List Nat} {kd:IntKind} {z:Int} (hx:fs.ev x=v) (hi:fs.ev i=.c (.v (.int kd z))) (hr:SZ 1 RN zz v r) (j:Nat) (hj:z=(j:Int)) (h:j<r.length)
  (hw:∀ p,PE zz p (.int .i64 (gI r j:Nat))→FL call B l (fs.put d p) Q):FL call B (⟨some d,none,.iad 1 x i⟩::l) fs Q:=K9 hx hi hr j hj h (by rw [aZw h];exact hw)
theorem wF {x:Od} {p:AV} {w:Value} (hx:fs.ev x=p) (hp:PE fs.z p w) (hw:FL call B l (fs.put d (.c (.v w))) Q):FL call B (⟨some d,none,.load false 1 x⟩::l) fs Q:=by
 obtain ⟨b,o,rfl,h⟩:=hp
 exact tG (off:=0) hx h rfl (by simp) rfl hw
theorem aFZ {x:Od} {b p ty:Nat} {r:List UInt32} (j:Nat) (hx:fs.ev x=.c (.ptr b p)) (hm:D6 eW b ty r∈fs.H) (hj:p=j) (h:j<r.length) (hw:FL call B l (fs.put d (.c (.v (.int .u32 (nF r j:Nat))))) Q):FL call B (⟨some d,none,.load false 1 x⟩::l) fs Q:=fun st rf =>
 aUY ((rf.ev x).trans hx) (rf.hold.h _ hm) (by rw [hj,aGM (List.getElem?_eq_getElem h),aXF h]) (hw _ (rf.put _ _))
theorem aT0 {x:Od} {b p ty:Nat} {r:List Nat} (j:Nat) (hx:fs.ev x=.c (.ptr b p)) (hm:D6 eN b ty r∈fs.H) (hj:p=j) (h:j<r.length) (hw:FL call B l (fs.put d (.c (.v (.int .i64 (gI r j:Nat))))) Q):FL call B (⟨some d,none,.load false 1 x⟩::l) fs Q:=fun st rf =>
 aUY ((rf.ev x).trans hx) (rf.hold.h _ hm) (by rw [hj,aGM (List.getElem?_eq_getElem h),aZw h]) (hw _ (rf.put _ _))
theorem Ce {x y:Od} {b p ty:Nat} {r:List UInt32} {z:Int} {H':List HA} (j n:Nat) (hx:fs.ev x=.c (.ptr b p)) (hy:fs.ev y=.c (.v (.int .u32 z))) (hr:By fs.H (D6 eW b ty r) (D6 eW b ty (r.set j (UInt32.ofNat n))) H') (hz:z=(n:Int)) (hn:n<4294967296) (hp:p=j) (hj:j<r.length)
  (hw:FL call B l (fs.heap H') Q):FL call B (⟨none,none,.store 1 x y⟩::l) fs Q:=by
 subst hz hp
 refine aSy (ds:=[.v (eW (UInt32.ofNat n))]) hx hy ?_ (by rw [bG0 hj];exact hr) rfl (by rw [aBx];omega) hw
 rw [eW,Go.Num.ofNat_toNat hn]
 rfl
theorem aTZ {x y:Od} {b p ty:Nat} {r:List Nat} {z:Int} {H':List HA} (j n:Nat) (hx:fs.ev x=.c (.ptr b p)) (hy:fs.ev y=.c (.v (.int .i64 z))) (hr:By fs.H (D6 eN b ty r) (D6 eN b ty (r.set j n)) H') (hz:z=(n:Int)) (hp:p=j) (hj:j<r.length)
  (hw:FL call B l (fs.heap H') Q):FL call B (⟨none,none,.store 1 x y⟩::l) fs Q:=by
 subst hz hp
 exact aSy (ds:=[.v (eN n)]) hx hy rfl (by rw [bG0 hj];exact hr) rfl (by rw [aBx];omega) hw
theorem aQo {ty bytes n:Nat} {lo c:Od} {kd kd':IntKind} {z:Int} (hl:fs.ev lo=.c (.v (.int kd z))) (hc:fs.ev c=.c (.v (.int kd' z))) (hz:z=(n:Int)) (h:n * bytes≤140737488355328) (hn:n≤9223372036854775807)
    (hw:∀ b,FL call B l (fs.own d (.c (.sl b 0 n 1)) (D6 eW b ty (List.replicate n 0))) Q):FL call B (⟨some d,none,.mksl ty 1 bytes [.int .u32 0] lo c⟩::l) fs Q:=
  aJq (w := fun b => .c (.sl b 0 n 1)) (fun _ => rfl) (fun _ => rfl) (fun st r => by
    simp only [eP,r.ev,hl,hc,AV.int?,hz]
    rw [need_pos ⟨by omega,by omega,bMD.2 h,by omega⟩]
    rw [← bIy];rfl) hw
theorem bIC {ty bytes n:Nat} {lo c:Od} {kd kd':IntKind} {z:Int} (hl:fs.ev lo=.c (.v (.int kd z))) (hc:fs.ev c=.c (.v (.int kd' z))) (hz:z=(n:Int)) (h:n * bytes≤140737488355328) (hn:n≤9223372036854775807)
    (hw:∀ b,FL call B l (fs.own d (.c (.sl b 0 n 1)) (D6 eN b ty (List.replicate n 0))) Q):FL call B (⟨some d,none,.mksl ty 1 bytes [.int .i64 0] lo c⟩::l) fs Q:=
  aJq (w := fun b => .c (.sl b 0 n 1)) (fun _ => rfl) (fun _ => rfl) (fun st r => by
    simp only [eP,r.ev,hl,hc,AV.int?,hz]
    rw [need_pos ⟨by omega,by omega,bMD.2 h,by omega⟩]
    rw [← bIy];rfl) hw
theorem Zv {α:Type} {e:α→Value} {d1 ty ty' bytes:Nat} {zero zero':List Value} {x y:Od} {u:AV} {r:List α} {w:Value} {a:α} {H':AV→List HA} (hy:fs.ev y=.c (.v w)) (hw0:w=e a) (hz:(Gi 1 (zero.map fun v=>C.v v)).length=1)
    (hx:∀ b,(fs.own d1 (.c (.sl b 0 1 1)) (.blk b (.cells ty [.v w]))).ev x=u) (hr:∀ u',By fs.H (Ds e u ty' r) (Ds e u' ty' (r++[a])) (H' u')) (hb:(r.length+1) * bytes≤140737488355328) (hn:r.length+1≤9223372036854775807)
    (hw:∀ b (c:C),pG c c=true→FL call B l ⟨aDK (aDK fs.e d1 (.c (.sl b 0 1 1))) d (.c c),fs.z,.blk b (.cells ty [.v w])::H' (.c c)⟩ Q) :
    FL call B (⟨some d1,none,.bslice ty 1 1 zero [(0,y)]⟩::⟨some d,none,.app ty' 1 bytes zero' x (.t d1)⟩::l) fs Q:=by
  subst hw0
  refine gU (cs:=[.v (e a)]) ?_ fun b=>?_
  · obtain ⟨c, hc⟩ := List.length_eq_one_iff.1 hz
    rw [hc]
    simp only [aAY,hy,AV.cells?]
    rfl
  · refine rA (m := 1) (cs := cE e r) (news := [.v (e a)]) (b := b) (H' := fun u' => .blk b (.cells ty [.v (e a)]) :: H' u') (hx b) (by show aDK fs.e d1 _ d1 = _; rw [aO4, if_pos rfl]) mem0 rfl (fun u' => oH ?_) hb hn fun c hc => hw b c hc
    have:By fs.H (Ds e u ty' r) (.row u' ty' 1 (r++[a]).length (cE e (r++[a]))) (H' u'):=hr u'
    rw [show cE e (r++[a])=cE e r++[.v (e a)] from aUF.symm,show (r++[a]).length=r.length+1 by simp] at this
    exact this
def aWZ (fs:Sf) (o:Option Od) (dflt i:Nat):Prop:=match o with
 | none=>i=dflt
 | some x=>∃ k,fs.ev x=.c (.v (.int k (i:Nat)))
theorem aU6 {st:AS} (rf:Rf B fs st) {o:Option Od} {dflt i:Nat} (h:aWZ fs o dflt i):bnd st o dflt=some (i:Int):=by
 cases o with
 | none=>simp only [aWZ] at h;subst h;rfl
 | some x =>
  obtain ⟨k,h⟩:=h
  simp only [bnd,rf.ev,h]
  rfl
def aT8 (v:AV) (i j:Nat):AV:=match v with
 | .c (.sl b o n s)=>if i=0 then .c (.sl b o j s) else if i<n then .c (.sl b (o+i * s) (j - i) s) else .c .em
 | v=>v
theorem SZ.sub {α:Type} {size:Nat} {R:RT α} {zz:fR} {v:AV} {r:List α} (h:SZ size R zz v r) {i j:Nat} (hij:i≤j) (hj:j≤r.length):SZ size R zz (aT8 v i j) ((r.take j).drop i):=by
  cases h with
  | nil => simp only [aT8]; have : (([] : List α).take j).drop i = [] := by simp
           rw [this];exact .nil
  | em => simp only [aT8]; have : (([] : List α).take j).drop i = [] := by simp
          rw [this];exact .em
  | sl b o n k full l hl hm hz hk hf h =>
    subst hl
    have I0:((r.take j).drop i).length=j - i:=by rw [List.length_drop,List.length_take];omega
    have hget:∀ q a,((r.take j).drop i)[q]? = some a→r[i+q]? = some a:=fun q a hq=>by
      rw [List.getElem?_drop,List.getElem?_take] at hq
      split at hq
      · exact hq
      · cases hq
    have hjs:j * size≤r.length * size:=Nat.mul_le_mul_right _ hj
    have his:i * size+(j - i) * size=j * size:=by rw [← Nat.add_mul];congr 1;omega
    have key:SZ size R zz (.c (.sl b (o+i * size) (j - i) size)) ((r.take j).drop i):=by
      refine .sl b _ _ k full _ I0 (by omega) hz hk (by omega) fun q a hq=>?_
      have:=h (i+q) a (hget q a hq)
      rw [Nat.add_mul] at this
      rw [Nat.add_assoc]
      exact this
    simp only [aT8]
    by_cases h0:i=0
    · subst h0
      rw [if_pos rfl]
      simpa using key
    · rw [if_neg h0]
      by_cases h1:i<r.length
      · rw [if_pos h1];exact key
      · rw [if_neg h1]
        have e:(r.take j).drop i=[]:=List.eq_nil_of_length_eq_zero (by omega)
        rw [e];exact .em
theorem aM5 {α:Type} {size:Nat} {R:RT α} {zz:fR} {r:List α} {x:Od} {lo hi:Option Od} {v:AV} {i j:Nat} (hx:fs.ev x=v) (hr:SZ size R zz v r) (hlo:aWZ fs lo 0 i) (hhi:aWZ fs hi r.length j) (hij:i≤j) (hj:j≤r.length)
    (hw:FL call B l (fs.put d (aT8 v i j)) Q):FL call B (⟨some d,none,.slc size x lo hi⟩::l) fs Q:=
  aFW (fun _ => rfl) (fun st rf => by
    have h1:=aU6 rf hlo
    have h2:=aU6 rf hhi
    simp only [dK,rf.ev,hx]
    cases hr with
    | nil => simp at hj; subst hj; have : i = 0 := by omega
             subst this;simp only [h1,List.length_nil] at h2 ⊢;simp only [h2];rfl
    | em => simp at hj; subst hj; have : i = 0 := by omega
            subst this;simp only [h1,List.length_nil] at h2 ⊢;simp only [h2];rfl
    | sl b o n k full _ hl hm hz hk hf h =>
      subst hl
      simp only [h1,h2]
      rw [need_pos (by refine ⟨?_,?_,?_,?_⟩<;>first | trivial | omega)]
      simp only [aT8,Int.toNat_natCast]
      congr 1
      by_cases h0:i=0
      · subst h0;simp
      · rw [if_neg (by omega), if_neg h0]
        by_cases h3:i<r.length
        · rw [if_pos (by omega),if_pos h3]
        · rw [if_neg (by omega),if_neg h3]) hw
theorem bI5 {size b o n:Nat} {x:Od} {lo hi:Option Od} {i j:Nat} (hx:fs.ev x=.c (.sl b o n size)) (hlo:aWZ fs lo 0 i) (hhi:aWZ fs hi n j) (hij:i≤j) (hj:j≤n) (hin:i<n)
    (hw:FL call B l (fs.put d (.c (.sl b (o+i * size) (j - i) size))) Q):FL call B (⟨some d,none,.slc size x lo hi⟩::l) fs Q:=
  aFW (fun _ => rfl) (fun st rf => by
    have h1:=aU6 rf hlo
    have h2:=aU6 rf hhi
    simp only [dK,rf.ev,hx,h1,h2]
    rw [need_pos (by refine ⟨?_,?_,?_,?_⟩<;>first | trivial | omega)]
    simp only [Int.toNat_natCast]
    congr 1
    by_cases h0:i=0
    · subst h0;simp
    · rw [if_neg (by omega),if_pos (by omega)]) hw
theorem bPn {x i:Od} {s:ByteArray} {kd:IntKind} {z:Int} (hx:fs.ev x=.c (.v (.string s))) (hi:fs.ev i=.c (.v (.int kd z))) (j:Nat) (hj:z=(j:Int)) (h:j<s.size) (hw:FL call B l (fs.put d (.c (.v (.int .u8 ((Go.Eng.bget s j).toNat:Nat))))) Q):FL call B (⟨some d,none,.ixs x i⟩::l) fs Q:=
  aFW (fun _ => rfl) (fun st rf => by
    subst hj
    simp only [dK,rf.ev,hx,hi,AV.val?,AV.int?]
    rw [need_pos ⟨by omega,by omega⟩,Int.toNat_natCast]
    rfl) hw
theorem dH {x:Od} {b o ty:Nat} {cs:List C} {c:C} (hx:fs.ev x=.c (.ptr b o)) (hm:HA.blk b (.cells ty cs)∈fs.H) (h:cs[o]? = some c) (hw:FL call B l (fs.put d (.c c)) Q):FL call B (⟨some d,none,.load false 1 x⟩::l) fs Q:=
 fun st r=>aUY ((r.ev x).trans hx) (r.hold.h _ hm) h (hw _ (r.put _ _))
theorem jN {x:Od} {b o ty:Nat} {cs:List C} {c0 c1:C} (hx:fs.ev x=.c (.ptr b o)) (hm:HA.blk b (.cells ty cs)∈fs.H) (h:(cs.drop o).take 2=[c0,c1]) (hw:FL call B l (fs.put d (.agg [c0,c1])) Q):FL call B (⟨some d,none,.load true 2 x⟩::l) fs Q:=by
 refine mL hx hm ?_ (by rw [h];rfl) hw
 have:=congrArg List.length h
 rw [List.length_take,List.length_drop] at this
 simp at this;omega
theorem qZ {x:Od} {b o ty:Nat} {cs:List C} {c0 c1 c2 c3:C} (hx:fs.ev x=.c (.ptr b o)) (hm:HA.blk b (.cells ty cs)∈fs.H) (h:(cs.drop o).take 4=[c0,c1,c2,c3]) (hw:FL call B l (fs.put d (.agg [c0,c1,c2,c3])) Q):FL call B (⟨some d,none,.load true 4 x⟩::l) fs Q:=by
 refine mL hx hm ?_ (by rw [h];rfl) hw
 have:=congrArg List.length h
 rw [List.length_take,List.length_drop] at this
 simp at this;omega
theorem jI {x y:Od} {b ty:Nat} {a0 a1 c0 c1:C} {H':List HA} (hx:fs.ev x=.c (.ptr b 0)) (hy:fs.ev y=.agg [c0,c1]) (hr:By fs.H (.blk b (.cells ty [a0,a1])) (.blk b (.cells ty [c0,c1])) H') (hw:FL call B l (fs.heap H') Q):FL call B (⟨none,none,.store 2 x y⟩::l) fs Q:=
 vO hx hy rfl hr rfl rfl (by simp) hw
theorem uZ {x y:Od} {b ty:Nat} {a0 a1 a2 a3 c0 c1 c2 c3:C} {H':List HA} (hx:fs.ev x=.c (.ptr b 0)) (hy:fs.ev y=.agg [c0,c1,c2,c3]) (hr:By fs.H (.blk b (.cells ty [a0,a1,a2,a3])) (.blk b (.cells ty [c0,c1,c2,c3])) H') (hw:FL call B l (fs.heap H') Q):FL call B (⟨none,none,.store 4 x y⟩::l) fs Q:=
 vO hx hy rfl hr rfl rfl (by simp) hw
theorem oI {ty:Nat} {v0 v1:Value} (hw:∀ b,FL call B l (fs.own d (.c (.ptr b 0)) (.blk b (.cells ty [.v v0,.v v1]))) Q):FL call B (⟨some d,none,.alloc ty [v0,v1]⟩::l) fs Q:=uF hw
theorem F3 {ty:Nat} {v0 v1 v2 v3:Value} (hw:∀ b,FL call B l (fs.own d (.c (.ptr b 0)) (.blk b (.cells ty [.v v0,.v v1,.v v2,.v v3]))) Q):FL call B (⟨some d,none,.alloc ty [v0,v1,v2,v3]⟩::l) fs Q:=uF hw
theorem kN {ty:Nat} {x:Od} {cs:List C} (hx:fs.ev x=.agg cs) (hw:∀ b,FL call B l (fs.own d (.c (.ptr b 0)) (.blk b (.cells ty cs))) Q):FL call B (⟨some d,none,.box ty x⟩::l) fs Q:=aEu hx rfl hw
theorem pR {zero:List Value} {parts:List (Nat×Nat×Od)} {cs:List C} (h:aOj fs.ev (zero.map fun v=>.v v) parts=some cs) (hw:FL call B l (fs.put d (.agg cs)) Q):FL call B (⟨some d,none,.build zero parts⟩::l) fs Q:=Eh h hw
end
theorem aDv {x:Od} {off:Nat} {cs:List C} {c:C} {call:iJ} {B:rR} {fs:Sf} {l:List I} {Q:Sf→Prop} {d:Nat} (hx:fs.ev x=.agg cs) (h:cs[off]? = some c) (hw:FL call B l (fs.put d (.c c)) Q):FL call B (⟨some d,none,.fld false 1 off x⟩::l) fs Q:=by
 have hlt:=(List.getElem?_eq_some_iff.1 h).1
 refine bEw hx (by omega) ?_ hw
 have:(cs.drop off).take 1=[c]:=by
  apply List.ext_getElem?
  intro q
  cases q with
  | zero=>rw [List.getElem?_take,if_pos (by omega),List.getElem?_drop,Nat.add_zero,h];rfl
  | succ q=>rw [List.getElem?_eq_none (by rw [List.length_take];omega),List.getElem?_eq_none (by simp)]
 rw [this];rfl
theorem aMF {x:Od} {off:Nat} {cs:List C} {c0 c1:C} {call:iJ} {B:rR} {fs:Sf} {l:List I} {Q:Sf→Prop} {d:Nat} (hx:fs.ev x=.agg cs) (h:(cs.drop off).take 2=[c0,c1]) (hw:FL call B l (fs.put d (.agg [c0,c1])) Q):FL call B (⟨some d,none,.fld true 2 off x⟩::l) fs Q:=by
 refine bEw hx ?_ (by rw [h];rfl) hw
 have:=congrArg List.length h
 rw [List.length_take,List.length_drop] at this
 simp at this;omega
section
variable {call:iJ} {B:rR} {an:List Nat} {j:Nat} {l:List CE.D} {fs:Sf} {T:fR} {tag last:Nat} {pj lj:List Nat} {Q:Sf→Prop} {i:I} {d:Nat} {x:Od} {af:List Nat}
theorem bNO {p:AV} {zz:fR} {k:IntKind} {n:Int} (hi:i.o=.load false 1 x) (hd:i.d=some d) (hg:GK fs i) (hx:fs.ev x=p) (hp:PE zz p (.int k n)) (hz:∀ b k,zz b k→T b k) (hw:FG call B an (j+1) l (fs.put d (.c (.v (.int k n)))) T tag last pj (j::lj) Q):FG call B an j (⟨i,af⟩::l) fs T tag last pj lj Q:=by
 obtain ⟨b,o,rfl,h⟩:=hp
 exact mU (v:=.c (.v (.int k n))) (off:=0) hi hd hg hx h hz rfl (by simp) rfl (by simp [Hy,pG,aTz]) hw
theorem bEM {b o ty:Nat} {cs:List C} {c:C} (hi:i.o=.load false 1 x) (hd:i.d=some d) (hg:GK fs i) (hx:fs.ev x=.c (.ptr b o)) (hT:T b (.cells ty cs)) (h:cs[o]? = some c) (hs:Hy (.c c) (.c c)=true) (hw:FG call B an (j+1) l (fs.put d (.c c)) T tag last pj (j::lj) Q):FG call B an j (⟨i,af⟩::l) fs T tag last pj lj Q:=by
 have hlt:=(List.getElem?_eq_some_iff.1 h).1
 have e:(cs.drop o).take 1=[c]:=by
  apply List.ext_getElem?
  intro q
  cases q with
  | zero=>rw [List.getElem?_take,if_pos (by omega),List.getElem?_drop,Nat.add_zero,h];rfl
  | succ q=>rw [List.getElem?_eq_none (by rw [List.length_take];omega),List.getElem?_eq_none (by simp)]
 exact aC4 hi hd hg hx hT rfl (by omega) (by rw [e];rfl) hs hw
theorem bOw {b o ty:Nat} {cs:List C} {c0 c1:C} (hi:i.o=.load true 2 x) (hd:i.d=some d) (hg:GK fs i) (hx:fs.ev x=.c (.ptr b o)) (hT:T b (.cells ty cs)) (h:(cs.drop o).take 2=[c0,c1]) (hs:Hy (.agg [c0,c1]) (.agg [c0,c1])=true) (hw:FG call B an (j+1) l (fs.put d (.agg [c0,c1])) T tag last pj (j::lj) Q):FG call B an j (⟨i,af⟩::l) fs T tag last pj lj Q:=by
 refine aC4 hi hd hg hx hT rfl ?_ (by rw [h];rfl) hs hw
 have:=congrArg List.length h
 rw [List.length_take,List.length_drop] at this
 simp at this;omega
theorem bPX {b o ty:Nat} {cs:List C} {c0 c1 c2 c3:C} (hi:i.o=.load true 4 x) (hd:i.d=some d) (hg:GK fs i) (hx:fs.ev x=.c (.ptr b o)) (hT:T b (.cells ty cs)) (h:(cs.drop o).take 4=[c0,c1,c2,c3]) (hs:Hy (.agg [c0,c1,c2,c3]) (.agg [c0,c1,c2,c3])=true) (hw:FG call B an (j+1) l (fs.put d (.agg [c0,c1,c2,c3])) T tag last pj (j::lj) Q):FG call B an j (⟨i,af⟩::l) fs T tag last pj lj Q:=by
 refine aC4 hi hd hg hx hT rfl ?_ (by rw [h];rfl) hs hw
 have:=congrArg List.length h
 rw [List.length_take,List.length_drop] at this
 simp at this;omega
theorem aNg {b p ty:Nat} {r:List UInt32} (q:Nat) (hi:i.o=.load false 1 x) (hd:i.d=some d) (hg:GK fs i) (hx:fs.ev x=.c (.ptr b p)) (hT:T b (.cells ty (cE eW r))) (hq:p=q) (h:q<r.length) (hw:FG call B an (j+1) l (fs.put d (.c (.v (.int .u32 (nF r q:Nat))))) T tag last pj (j::lj) Q):FG call B an j (⟨i,af⟩::l) fs T tag last pj lj Q:=
 bEM hi hd hg hx hT (by rw [hq,aGM (List.getElem?_eq_getElem h),aXF h]) (by simp [Hy,pG,aTz]) hw
theorem C9 (s:Nat) {P:Prop} [Decidable P] (h:fs.e s=.c (.v (.bool (decide P)))) (h1:P→FG call B an j l (fs.put s (.c (.v (.bool true)))) T tag last pj lj Q) (h2:¬ P→FG call B an j l (fs.put s (.c (.v (.bool false)))) T tag last pj lj Q):FG call B an j l fs T tag last pj lj Q:=aDC s h (fun h=>h1 (of_decide_eq_true h)) (fun h=>h2 (of_decide_eq_false h))
theorem aJS (s:Nat) {P:Prop} [Decidable P] (h:fs.e s=.c (.v (.bool (!decide P)))) (h1:¬ P→FG call B an j l (fs.put s (.c (.v (.bool true)))) T tag last pj lj Q) (h2:P→FG call B an j l (fs.put s (.c (.v (.bool false)))) T tag last pj lj Q):FG call B an j l fs T tag last pj lj Q:=aDC s h (fun h=>h1 (by simpa using h)) (fun h=>h2 (by simpa using h))
end
section
variable {call:iJ} {B:rR} {fs:Sf}
theorem aZ6 {α:Type} {size:Nat} {R:RT α} [RMono R] {G:AS→Prop} {u:AV} {ty n:Nat} {cs:List C} {r:List α} {p q:List HA} {z0:fR} (e:fs.H=p++.row u ty size n cs::q) (hz0:zle z0 fs.z) (hc:CL size R (zd z0 fs.z) cs r) (hn:r.length=n) (hm:n≤9223372036854775807)
    (hw:∀ z',zle fs.z z'→SZ size R (zd z0 z') u r→∀ st,Rf B (fs.frz z' (p++q)) st→G st):∀ st,Rf B fs st→G st:=fun st rf=>by
  obtain ⟨g1,g2⟩:=rf.hold.h (.row u ty size n cs) (by rw [e];simp)
  rcases g2 with ⟨h0,rfl⟩ | ⟨b,rfl,h3⟩
  · have hr0 : r = [] := List.eq_nil_of_length_eq_zero (by omega)
    subst hr0
    refine hw fs.z (zle.refl _) .nil st ?_
    have hsub:(p++q).Sublist fs.H:=by rw [e];exact (List.Sublist.refl p).append (List.sublist_cons_self _ _)
    exact ⟨rf.env,rf.hold.sub hsub,rf.le,rf.old,fun b hb=>rf.own b ((Lu hsub).subset hb),rf.zle,rf.zin⟩
  · have h1 := rf.frz (p := p) (q := q) (b := b) (k := .cells ty cs) (a := .row (.c (.sl b 0 n size)) ty size n cs) e rfl (fun m hm => by
      obtain ⟨_,hm⟩:=hm
      rcases hm with ⟨_,hm⟩ | ⟨b',hb',hm⟩
      · cases hm
      · injection hb' with hb';injection hb' with hb';subst hb';exact hm)
    have hnb:∀ k',¬ z0 b k':=fun k' hb=>(rf.hold.z b k' (hz0 b k' hb)).2.2 (by rw [e,kM,kD];simp [HA.fp])
    exact hw _ ⟨fun _ _ h=>.inl h⟩ ((hc.mono (nJ ⟨fun _ _ h=>.inl h⟩)).sz hn hm ⟨.inr ⟨rfl,rfl⟩,hnb,rfl⟩) st h1
variable {α:Type} {e:α→Value} [RMono (RE e)]
theorem bIW {l:List I} {Q:Sf→Prop} {u:AV} {ty:Nat} {r:List α} {p q:List HA} (z0:fR) (h:fs.H=p++Ds e u ty r::q) (hz0:zle z0 fs.z) (hm:r.length≤9223372036854775807) (hw:∀ z',zle fs.z z'→SZ 1 (RE e) (zd z0 z') u r→FL call B l (fs.frz z' (p++q)) Q):FL call B l fs Q:=aZ6 h hz0 Ti rfl hm hw
theorem bKN {l:List I} {Q:Sf→Prop} {b ty n:Nat} {r:List α} {p q:List HA} (z0:fR) (h:fs.H=p++D6 e b ty r::q) (hz0:zle z0 fs.z) (hn:r.length=n) (hm:n≤9223372036854775807) (hw:∀ z',zle fs.z z'→SZ 1 (RE e) (zd z0 z') (.c (.sl b 0 n 1)) r→FL call B l (fs.frz z' (p++q)) Q):FL call B l fs Q:=
 Hw (n:=n) (size:=1) h (by rw [aBx];omega) (aZ6 (fs:=fs.heap _) (ty:=ty) (p:=p) (q:=q) (cs:=cE e r) rfl hz0 Ti hn hm hw)
end
theorem aUe {call:iJ} {B:rR} {fs:Sf} {l:List I} {Q:Sf→Prop} {α:Type} {e:α→Value} {u:AV} {ty:Nat} {r:List α} {p q:List HA} (h:fs.H=p++Ds e u ty r::q) (hn:0<r.length) (h1:∀ b,u=.c (.sl b 0 r.length 1)→FL call B l (fs.heap (p++D6 e b ty r::q)) Q):FL call B l fs Q:=aUN h hn h1
theorem aJ6 {call:iJ} {B:rR} {fs:Sf} {l:List I} {Q:Sf→Prop} {α:Type} {e:α→Value} {b ty n:Nat} {r:List α} {p q:List HA} (h:fs.H=p++D6 e b ty r::q) (hn:r.length=n) (hw:FL call B l (fs.heap (p++Ds e (.c (.sl b 0 n 1)) ty r::q)) Q):FL call B l fs Q:=by
 subst hn
 exact Hw h (by rw [aBx,Nat.mul_one]) hw
def LI (z0:fR) (H:List HA) (ls:List (Nat×AV)) (fs:Sf):Prop:=∃ e z Hx,fs=⟨e,z,Hx++H⟩∧zle z0 z∧Sr e ls
theorem LI.mk {z0 z:fR} {H:List HA} {ls:List (Nat×AV)} {e:O6} (Hx:List HA) (hz:zle z0 z) (ha:Sr e ls):LI z0 H ls ⟨e,z,Hx++H⟩:=⟨e,z,Hx,rfl,hz,ha⟩
theorem LI.open {call:iJ} {k:Nat} {B:rR} {c:XC} {Q:Exit→Sf→Prop} {z0:fR} {H:List HA} {ls:List (Nat×AV)} {fs:Sf} (h:LI z0 H ls fs) (hw:∀ e z,zle z0 z→FX call k B c ⟨aPv e ls,z,H⟩ Q):FX call k B c fs Q:=by
 obtain ⟨e,z,Hx,rfl,hz,ha⟩:=h
 exact zH ha fun e=>uQ (List.sublist_append_right _ _) (hw e z hz)
theorem Ik {call : iJ} {k : Nat} {B : rR} {fs : Sf} {Q : Exit → Sf → Prop} {a b : XC} (J : Sf → Prop) (h : FX call k B a fs (bK7 J Q)) (g : ∀ fs', J fs' → FX call k B b fs' Q) : FX call k B (.seq a b) fs Q := dE (bJh h fun e fs' q => by
  cases e with
  | normal=>exact g fs' q
  | _=>exact q)
theorem bEe {α:Type} {e:α→Value} {z:fR} {cs:List C} {l:List α} (h:CL 1 (RE e) z cs l):cs=cE e l:=by
 apply List.ext_getElem?
 intro i
 rcases Nat.lt_or_ge i l.length with hi | hi
 ·have h1:=(h.2 i l[i] (List.getElem?_eq_getElem hi)).2
  have h2:((cs.drop (i * 1)).take 1)[0]? = cs[i]?:=by rw [List.getElem?_take,if_pos (by omega),List.getElem?_drop,Nat.mul_one,Nat.add_zero]
  rw [← h2,show (cs.drop (i * 1)).take 1=[.v (e l[i])] from h1,aGM (List.getElem?_eq_getElem hi)]
  rfl
 rw [List.getElem?_eq_none (by rw [h.1];omega),List.getElem?_eq_none (by rw [aBx];exact hi)]
theorem Xr {fs:Sf} {i b ty:Nat} {c0 c1:C} {rs:List RR} {vs:List AV} (hp:fs.e i=.c (.ptr b 0)) (hm:HA.blk b (.cells ty [c0,c1])∈fs.H) (t:Wh fs rs vs):Wh fs (.c i true 2::rs) (.agg [c0,c1]::vs):=rc hp hm (by simp) rfl t
theorem rc4 {fs:Sf} {i b ty:Nat} {c0 c1 c2 c3:C} {rs:List RR} {vs:List AV} (hp:fs.e i=.c (.ptr b 0)) (hm:HA.blk b (.cells ty [c0,c1,c2,c3])∈fs.H) (t:Wh fs rs vs):Wh fs (.c i true 4::rs) (.agg [c0,c1,c2,c3]::vs):=rc hp hm (by simp) rfl t
theorem wI {z:Int} {n:Nat} (h:z=n) (h2:n<9223372036854775808):IntKind.i64.wrap z=n:=by rw [h];exact vR ⟨by omega,by omega⟩
theorem wQ {z:Int} {n:Nat} (h:z=n) (h2:n<18446744073709551616):IntKind.u64.wrap z=n:=by rw [h];exact cDh ⟨by omega,by omega⟩
theorem wD {z:Int} {n:Nat} (h:z=n) (h2:n<4294967296):IntKind.u32.wrap z=n:=by rw [h];exact bQN ⟨by omega,by omega⟩
theorem wDm (n:Nat):IntKind.u32.wrap (n:Int)=((n % 4294967296:Nat):Int):=by rw [bHP];omega
theorem iW {a b:Int} {n:Nat} (h:a+b=n) (h2:n<9223372036854775808):pC .add (.int .i64 a) (.int .i64 b)=some (.int .i64 n):=tI (wI h h2)
theorem wC {a b:Int} {n:Nat} (h:a - b=n) (h2:n<9223372036854775808):pC .sub (.int .i64 a) (.int .i64 b)=some (.int .i64 n):=wN (wI h h2)
theorem aXv {a b:Int} {n:Nat} (h:a * b=n) (h2:n<9223372036854775808):pC .mul (.int .i64 a) (.int .i64 b)=some (.int .i64 n):=aXD (wI h h2)
theorem aE1 {a b:Int} {n:Nat} (h:a+b=n) (h2:n<18446744073709551616):pC .add (.int .u64 a) (.int .u64 b)=some (.int .u64 n):=tI (wQ h h2)
theorem aXz {a b:Int} {n:Nat} (h:a - b=n) (h2:n<18446744073709551616):pC .sub (.int .u64 a) (.int .u64 b)=some (.int .u64 n):=wN (wQ h h2)
theorem aUE {a b:Int} {n:Nat} (h:a * b=n) (h2:n<18446744073709551616):pC .mul (.int .u64 a) (.int .u64 b)=some (.int .u64 n):=aXD (wQ h h2)
theorem bIp {a b:Int} {n:Nat} (h:a+b=n) (h2:n<4294967296):pC .add (.int .u32 a) (.int .u32 b)=some (.int .u32 n):=tI (wD h h2)
theorem bGT {a b n:Nat} (hb:0<b) (h:a / b=n) (ha:a<9223372036854775808):pC .quo (.int .i64 a) (.int .i64 b)=some (.int .i64 n):=aSG (by omega) (by omega) (wI (by rw [← h,Int.natCast_ediv]) (by have:=Nat.div_le_self a b;omega))
theorem bE2 {a b n:Nat} (hb:0<b) (h:a % b=n):pC .rem (.int .i64 a) (.int .i64 b)=some (.int .i64 n):=aPb (by omega) (by omega) (by rw [← h,Int.natCast_emod])
theorem bFE {a b n:Nat} (hb:0<b) (h:a / b=n) (ha:a<18446744073709551616):pC .quo (.int .u64 a) (.int .u64 b)=some (.int .u64 n):=aSG (by omega) (by omega) (wQ (by rw [← h,Int.natCast_ediv]) (by have:=Nat.div_le_self a b;omega))
theorem bFN {a b n:Nat} (hb:0<b) (h:a % b=n):pC .rem (.int .u64 a) (.int .u64 b)=some (.int .u64 n):=aPb (by omega) (by omega) (by rw [← h,Int.natCast_emod])
theorem aFn {k kb:IntKind} {a s n:Nat} (hs:s≤k.bits) (h:a / 2 ^ s=n):pC .shr (.int k a) (.int kb s)=some (.int k n):=by
 subst h
 simp only [pC,binV]
 rw [need_pos (by omega),Int.toNat_natCast,Nat.min_eq_left hs,Int.fdiv_eq_ediv_of_nonneg _ (by exact Int.pow_nonneg (by omega))]
 have:((a / 2 ^ s:Nat):Int)=(a:Int) / 2 ^ s:=by simp
 rw [this]
theorem bMT {k kb:IntKind} {a s n:Nat} (hs:s≤k.bits) (h:k.wrap ((a * 2 ^ s:Nat):Int)=n):pC .shl (.int k a) (.int kb s)=some (.int k n):=by
 simp only [pC,binV]
 rw [need_pos (by omega),Int.toNat_natCast,Nat.min_eq_left hs,← h]
 simp
theorem bL5 {k:IntKind} {a b:Nat} (ha:a<2 ^ k.bits) (hb:b<2 ^ k.bits):(BitVec.ofInt k.bits (a:Int) &&& BitVec.ofInt k.bits (b:Int)).toNat=a &&& b:=by
 rw [BitVec.toNat_and,BitVec.toNat_ofInt,BitVec.toNat_ofInt,Int.emod_eq_of_lt (by omega) (by exact_mod_cast ha),Int.emod_eq_of_lt (by omega) (by exact_mod_cast hb)]
 simp
theorem bEh {k:IntKind} {a b:Nat} (ha:a<2 ^ k.bits) (hb:b<2 ^ k.bits):(BitVec.ofInt k.bits (a:Int) ||| BitVec.ofInt k.bits (b:Int)).toNat=a ||| b:=by
 rw [BitVec.toNat_or,BitVec.toNat_ofInt,BitVec.toNat_ofInt,Int.emod_eq_of_lt (by omega) (by exact_mod_cast ha),Int.emod_eq_of_lt (by omega) (by exact_mod_cast hb)]
 simp
theorem bJT {k:IntKind} {a b:Nat} (ha:a<2 ^ k.bits) (hb:b<2 ^ k.bits):(BitVec.ofInt k.bits (a:Int) ^^^ BitVec.ofInt k.bits (b:Int)).toNat=a ^^^ b:=by
 rw [BitVec.toNat_xor,BitVec.toNat_ofInt,BitVec.toNat_ofInt,Int.emod_eq_of_lt (by omega) (by exact_mod_cast ha),Int.emod_eq_of_lt (by omega) (by exact_mod_cast hb)]
 simp
theorem bHv {a b n:Nat} (ha:a<18446744073709551616) (hb:b<18446744073709551616) (h:a ||| b=n):pC .or (.int .u64 a) (.int .u64 b)=some (.int .u64 n):=by
 have h2:a ||| b<2 ^ 64:=Nat.or_lt_two_pow ha hb
 simp only [pC,binV]
 rw [need_pos trivial,bEh (k:=.u64) ha hb,wQ (n:=n) (by rw [h]) (by omega)]
theorem bHd {a b n:Nat} (ha:a<4294967296) (hb:b<4294967296) (h:a &&& b=n):pC .and (.int .u32 a) (.int .u32 b)=some (.int .u32 n):=by
 have h2:a &&& b<2 ^ 32:=Nat.and_lt_two_pow _ hb
 simp only [pC,binV]
 rw [need_pos trivial,bL5 (k:=.u32) ha hb,wD (n:=n) (by rw [h]) (by omega)]
theorem bSF {a b n:Nat} (ha:a<4294967296) (hb:b<4294967296) (h:a ||| b=n):pC .or (.int .u32 a) (.int .u32 b)=some (.int .u32 n):=by
 have h2:a ||| b<2 ^ 32:=Nat.or_lt_two_pow ha hb
 simp only [pC,binV]
 rw [need_pos trivial,bEh (k:=.u32) ha hb,wD (n:=n) (by rw [h]) (by omega)]
theorem bPT {a b n:Nat} (ha:a<4294967296) (hb:b<4294967296) (h:a ^^^ b=n):pC .xor (.int .u32 a) (.int .u32 b)=some (.int .u32 n):=by
 have h2:a ^^^ b<2 ^ 32:=Nat.xor_lt_two_pow ha hb
 simp only [pC,binV]
 rw [need_pos trivial,bJT (k:=.u32) ha hb,wD (n:=n) (by rw [h]) (by omega)]
theorem bGW {a n:Nat} (ha:a<4294967296) (h:4294967295 - a=n):unW .xor (.int .u32 a)=some (.int .u32 n):=by
 have e:(BitVec.ofInt 32 (4294967295:Int) ^^^ BitVec.ofInt 32 (a:Int)).toNat=4294967295 - a:=by
  rw [show BitVec.ofInt 32 (4294967295:Int)=BitVec.allOnes 32 by decide,BitVec.allOnes_xor,BitVec.toNat_not,BitVec.toNat_ofInt]
  omega
 show some (Value.int .u32 (IntKind.u32.wrap (((BitVec.ofInt 32 (4294967295:Int) ^^^ BitVec.ofInt 32 (a:Int)).toNat:Nat):Int)))=_
 rw [e,wD (n:=n) (by rw [h]) (by omega)]
theorem aVE {k:IntKind} {z r:Int} (h:k.wrap (0 - z)=r):unW .neg (.int k z)=some (.int k r):=by
 simp only [unW,Go.Eng.unV,h]
open Go.RowKit
open Go.Eng (callable Od)
def aBD (g ty:Nat) (h0:iJ):iJ:=fun f args mem nx=>match Nat.beq f g with
 | true=>match args with
  | [.c (.v (.slice none 0 0)),.c (.v (.int .i64 n))]=>match decide (0<n) && decide (n≤35184372088832) with
   | true=>some (.c (.sl nx 0 0 1),Tr.put (nx+1) mem nx (some (.cells ty [])),nx+1)
   | false=>none
  | _=>none
 | false=>h0 f args mem nx
def aVG (P:Program) (g ty:Nat):Prop:=∀ (n:Nat) (w:World),0<n→n≤35184372088832 →
 Calls P g #[.slice none 0 0,.int .i64 n] w fun e w'=>∃ cap cur,e=.returned (.slice (some ⟨w.heap.size,0,none⟩) 0 cap)∧cap≤maxLen∧cur.size=cap∧w'=w.drew.alloc (.cells cur ty)
theorem bCP {P:Program} {g ty:Nat} {h0:iJ} (hg:callable P g=true) (hG:aVG P g ty) (hh:sJ P h0):sJ P (aBD g ty h0):=by
 intro f args mem nx res mem' nx' h
 unfold aBD at h
 split at h
 case h_2=>exact hh _ _ _ _ _ _ _ h
 rename_i hf
 have:=Nat.eq_of_beq_eq_true hf
 subst this
 split at h
 case h_2=>cases h
 rename_i z
 split at h
 case h_2=>cases h
 rename_i hz
 simp only [Bool.and_eq_true,decide_eq_true_eq] at hz
 simp only [Option.some.injEq,Prod.mk.injEq] at h
 obtain ⟨rfl,rfl,rfl⟩:=h
 obtain ⟨n,rfl⟩:∃ n:Nat,z=(n:Int):=⟨z.toNat,by omega⟩
 refine ⟨⟨by omega,fun b k' hb=>?_,fun b k hb hr=>?_⟩,fun K w0 ρ w vs hms hfree hl hrep=>.inl ⟨hg,?_⟩⟩
 ·rcases E2 (nx:=nx) (mem:=mem) b k' hb with ⟨rfl,_⟩ | ⟨_,h⟩
  ·exact .inr ⟨Nat.le_refl _,by omega⟩
  exact .inl ⟨k',h⟩
 ·rcases E2 (nx:=nx) (mem:=mem) b k hb with ⟨_,rfl⟩ | ⟨_,h⟩
  ·cases hr
  exact h
 have hvs:vs = #[.slice none 0 0,.int .i64 n]:=by
  have h0:=hrep 0 _ rfl
  have h1:=hrep 1 _ rfl
  have hsz:vs.size=2:=hl
  have e0:vs.getD 0 undef=.slice none 0 0:=by
   generalize vs.getD 0 undef=x at h0
   cases h0 with
   | c _ _ h0=>cases h0 with
    | v _ _=>rfl
  have e1:vs.getD 1 undef=.int .i64 n:=by
   generalize vs.getD 1 undef=x at h1
   cases h1 with
   | c _ _ h1=>cases h1 with
    | v _ _=>rfl
  apply Array.ext
  ·simpa using hsz
  intro i hi1 hi2
  have hi:i=0∨i=1:=by simp at hi2;omega
  rcases hi with rfl | rfl
  ·simp [Array.getD,hsz] at e0;simpa using e0
  simp [Array.getD,hsz] at e1;simpa using e1
 subst hvs
 refine (hG n w (by omega) (by omega)).mono fun e w' hq=>?_
 obtain ⟨cap,cur,rfl,hcap,hcur,rfl⟩:=hq
 have hn:ρ nx=none:=hfree nx (Nat.le_refl _) (by omega)
 have hgr:=C5 hn ⟨w.heap.size,0,cur.size⟩
 refine ⟨_,_,rfl,hgr,hms.new hn (w':=w.drew.alloc (.cells cur ty)) (.cells ty []) ⟨w.heap.size,0,cur.size⟩ (.cells ty [] cur (heap_alloc_new w.drew _) rfl (by simp) fun i c hc=>by simp at hc) ⟨Nat.le_refl _,by simp⟩ rfl rfl rfl (by simp) (fun b hb=>heap_alloc_old w.drew _ hb) E2,?_⟩
 refine .c _ _ (nC.sl (ρ:=upd ρ nx ⟨w.heap.size,0,cur.size⟩) nx 0 0 1 cap ⟨w.heap.size,0,cur.size⟩ (rU _ _ _) (by show 0+0+cap * 1≤cur.size;omega) (Nat.zero_le _) hcap)
theorem bJm {T:Tr FE} {g ty k0 k n:Nat} {h0:iJ} (hT:T.get g=none) (hk:1≤k) {z:fR} (h1:0<n) (h2:n≤35184372088832):FCt (evF T (aBD g ty h0) k0 k) g [qY,.c (.v (.int .i64 (n:Nat)))] z [] fun v _ H'=>H'=[Ds eW v ty []]:=fun mem nx hh=>by
  obtain ⟨j,rfl⟩:∃ j,k=j+1:=⟨k - 1,by omega⟩
  have r0:Rf ⟨mem,nx,z,[]⟩ ⟨fun _=>.any,z,[]⟩ ⟨.nil,mem,nx⟩:=⟨fun i=>by simp [AS.get,Tr.get_nil],hh,Nat.le_refl _,fun b _ _=>rfl,fun b hb=>by simp [qT] at hb,⟨fun _ _ h=>h⟩,fun b k hb=>.inl hb⟩
  have r1 := r0.new (a := .row (.c (.sl nx 0 0 1)) ty 1 0 []) (m' := Tr.put (nx + 1) mem nx (some (.cells ty []))) ⟨rfl, .inr ⟨nx, rfl, by rw [Tr.get_put _ _ _ _ _ (by omega), if_pos rfl]⟩⟩ rfl (fun b hb => by
    by_cases hlt:b<nx+1
    · rw [Tr.get_put _ _ _ _ _ (by omega),if_neg (fun e=>hb e.symm)]
    · rw [Tr.get_put _ _ _ _ _ (by omega),if_neg (fun e=>hb e.symm)])
  refine ⟨.c (.sl nx 0 0 1),_,nx+1,z,_,?_,by omega,fun b hb _=>r1.old b hb (by simp),r1.hold,zle.refl _,fun b k hb=>.inl hb,fun b hb=>(r1.own b hb).imp (fun h=>h) (fun h=>by simp at h),rfl⟩
  rw [evF,hT]
  show aBD g ty h0 g _ mem nx=_
  unfold aBD
  rw [Nat.beq_refl]
  simp only
  rw [show (decide (0<(n:Int)) && decide ((n:Int)≤35184372088832))=true by simp;omega]
def RLs:RT (List UInt32):=fun z cs l=>∃ c,cs=[c]∧CZ 1 RW z c l
instance:RMono RLs:=⟨fun hz ⟨c,h,g⟩=>⟨c,h,g.mono hz⟩⟩
def aDN (ls:List (List UInt32)):Nat:=(ls.map List.length).sum
theorem aIw {ls:List (List UInt32)} {i:Nat} (h:i<ls.length):aDN (ls.take (i+1))=aDN (ls.take i)+ls[i].length:=by
 unfold aDN
 rw [List.take_add_one,List.getElem?_eq_getElem h]
 simp only [Option.toList,List.map_append,List.map_cons,List.map_nil,List.sum_append,List.sum_cons,List.sum_nil,Nat.add_zero]
theorem aUU {ls:List (List UInt32)} (i:Nat):aDN (ls.take i)≤aDN ls:=by
 conv=>rhs;rw [← List.take_append_drop i ls]
 unfold aDN
 rw [List.map_append,List.sum_append]
 omega
theorem aVl (ls:List (List UInt32)):ls.flatten.length=aDN ls:=by rw [List.length_flatten];rfl
theorem bCv {ls:List (List UInt32)} {i:Nat} (h:i<ls.length):(ls.take (i+1)).flatten=(ls.take i).flatten++ls[i]:=by
 rw [List.take_add_one,List.getElem?_eq_getElem h]
 simp only [Option.toList,List.flatten_append,List.flatten_cons,List.flatten_nil,List.append_nil]
theorem aT4 {call:iJ} {B:rR} {fs:Sf} {l:List I} {Q:Sf→Prop} {d:Nat} {α:Type} {e:α→Value} {ty bytes:Nat} {zero:List Value} {x y:Od} {u v:AV} {r s:List α} {H':AV→List HA} (hx:fs.ev x=u) (hy:fs.ev y=v) (hs:SZ 1 (RE e) fs.z v s) (hr:∀ u',By fs.H (Ds e u ty r) (Ds e u' ty (r++s)) (H' u'))
  (hb:(r.length+s.length) * bytes≤140737488355328) (hn:r.length+s.length≤9223372036854775807) (hw:∀ c:C,pG c c=true→FL call B l (fs.res d (.c c) fs.z (H' (.c c))) Q):FL call B (⟨some d,none,.app ty 1 bytes zero x y⟩::l) fs Q:=fun st rf=>by
 obtain ⟨news,h1,h2⟩:=hs.src (st:=st) fun b k hb=>(rf.hold.z b k hb).1
 have:=bEe h2
 subst this
 refine aXm (cs:=cE e r) rf hx hy h1 (H':=H') (fun u'=>?_) h2.1 hb hn hw
 have h:=hr u'
 have e1:Ds e u' ty (r++s)=.row u' ty 1 (r.length+s.length) (cE e r++cE e s):=by rw [aUF];simp [Ds]
 rw [e1] at h
 exact h
theorem bQB {call:iJ} {B:rR} {an:List Nat} {j:Nat} {l:List CE.D} {fs:Sf} {T:fR} {tag last:Nat} {pj lj:List Nat} {Q:Sf→Prop} {a:HA} {p q:List HA} {b:Nat} {k:jX} (e:fs.H=p++a::q) (hfp:a.fp=[b]) (ha:∀ m,a.ok m→m.get b=some k)
  (hw:∀ z',zle fs.z z'→z' b k→FG call B an j l (fs.frz z' (p++q)) T tag last pj lj Q):FG call B an j l fs T tag last pj lj Q:=fun x r=>by
 have h:=r.rf.frz e hfp ha
 exact hw _ ⟨fun _ _ h=>.inl h⟩ (.inr ⟨rfl,rfl⟩) x ⟨h,r.hd,r.t0,r.tlt,r.np,r.fl,r.last,r.pj,r.plt⟩
section
variable {call:iJ} {B:rR} {fs:Sf} {l:List I} {Q:Sf→Prop} {d:Nat}
theorem lC {x:Od} {c:C} (hx:fs.ev x=.c c) (hw:FL call B l (fs.put d (.c c)) Q):FL call B (⟨some d,none,.mv x⟩::l) fs Q:=lM hx hw
theorem lZ (z0:fR) {f:Nat} {args:List Od} {vs:List AV} {Post:AV→fR→Prop} (hc:FC call f vs z0 Post) (ha:args.map fs.ev=vs) (hz0:fs.z=z0)
  (hw:∀ v z',zle z0 z'→Post v z'→FL call B l (fs.res d v z' fs.H) Q):FL call B (⟨some d,none,.call f args⟩::l) fs Q:=by
 subst hz0
 exact aFv ha hc hw
theorem Dm (z0:fR) (Hs:List HA) {Hr:List HA} {f:Nat} {args:List Od} {vs:List AV} {Post:AV→fR→List HA→Prop} (hc:FCt call f vs z0 Hs Post) (ha:args.map fs.ev=vs) (hz0:fs.z=z0) (e:fs.H=Hs++Hr)
  (hw:∀ v z' H',zle z0 z'→Post v z' H'→FL call B l (fs.res d v z' (H'++Hr)) Q):FL call B (⟨some d,none,.call f args⟩::l) fs Q:=by
 subst hz0
 exact aVZ ha e hc hw
theorem Bw {α:Type} {e:α→Value} [RMono (RE e)] {u:AV} {ty:Nat} {r:List α} {p q:List HA} (z0 z1:fR) (h:fs.H=p++Ds e u ty r::q) (h1:fs.z=z1) (hz0:zle z0 z1) (hm:r.length≤9223372036854775807) (hw:∀ z',zle z1 z'→SZ 1 (RE e) (zd z0 z') u r→FL call B l (fs.frz z' (p++q)) Q):FL call B l fs Q:=by
 subst h1
 exact bIW z0 h hz0 hm hw
theorem zW {α:Type} {e:α→Value} [RMono (RE e)] {b ty n:Nat} {r:List α} {p q:List HA} (z0 z1:fR) (h:fs.H=p++D6 e b ty r::q) (h1:fs.z=z1) (hz0:zle z0 z1) (hn:r.length=n) (hm:n≤9223372036854775807) (hw:∀ z',zle z1 z'→SZ 1 (RE e) (zd z0 z') (.c (.sl b 0 n 1)) r→FL call B l (fs.frz z' (p++q)) Q):FL call B l fs Q:=by
 subst h1
 exact bKN z0 h hz0 hn hm hw
theorem Ju {a:HA} {p q:List HA} {b:Nat} {k:jX} (z1:fR) (e:fs.H=p++a::q) (h1:fs.z=z1) (hfp:a.fp=[b]) (ha:∀ m,a.ok m→m.get b=some k) (hw:∀ z',zle z1 z'→z' b k→FL call B l (fs.frz z' (p++q)) Q):FL call B l fs Q:=by
 subst h1
 exact bQg e hfp ha hw
end
theorem gZ {call:iJ} {B:rR} {an:List Nat} {j:Nat} {l:List CE.D} {fs:Sf} {T:fR} {tag last:Nat} {pj lj:List Nat} {Q:Sf→Prop} (z0:fR) {i:I} {d f:Nat} {args:List Od} {vs:List AV} {af:List Nat} {Post:AV→fR→Prop} (hc:FC call f vs z0 Post) (hi:i.o=.call f args) (hd:i.d=some d) (hg:GK fs i) (hbits:Nat.beq (an.getD j 0 ||| last) (an.getD j 0)=true) (hpj:(pj.all fun q=>(an.getD j 0).testBit q)=true)
  (ha:args.map fs.ev=vs) (hz0:fs.z=z0) (hw:∀ v z',zle z0 z'→Post v z'→FG call B an (j+1) l (fs.res d v z' fs.H) T (j+1) (an.getD j 0 ||| (1 <<< j)) [] lj Q):FG call B an j (⟨i,af⟩::l) fs T tag last pj lj Q:=by
 subst hz0
 exact A7 hi hd hg hbits hpj ha hc hw
theorem aM6 {call:iJ} {B:rR} {an:List Nat} {j:Nat} {l:List CE.D} {fs:Sf} {T:fR} {tag last:Nat} {pj lj:List Nat} {Q:Sf→Prop} {a:HA} {p q:List HA} {b:Nat} {k:jX} (z1:fR) (e:fs.H=p++a::q) (h1:fs.z=z1) (hfp:a.fp=[b]) (ha:∀ m,a.ok m→m.get b=some k)
  (hw:∀ z',zle z1 z'→z' b k→FG call B an j l (fs.frz z' (p++q)) T tag last pj lj Q):FG call B an j l fs T tag last pj lj Q:=by
 subst h1
 exact bQB e hfp ha hw
theorem aQ6 {a n:Nat} {kb:IntKind} (h:a * 4294967296=n) (h2:n<18446744073709551616):pC .shl (.int .u64 a) (.int kb 32)=some (.int .u64 n):=by
 have:=bMT (k:=.u64) (kb:=kb) (a:=a) (s:=32) (n:=n) (by decide) (by rw [show a * 2 ^ 32=n from h];exact wQ rfl h2)
 exact this
theorem bC1 {call:iJ} {B:rR} {an:List Nat} {j:Nat} {l:List CE.D} {fs:Sf} {T:fR} {tag last:Nat} {pj lj:List Nat} {Q:Sf→Prop} (z0:fR) {i:I} {d f:Nat} {args:List Od} {vs:List AV} {af:List Nat} {Post:AV→fR→List HA→Prop} (hc:FCt call f vs z0 [] Post) (hi:i.o=.call f args) (hd:i.d=some d) (hg:GK fs i) (hbits:Nat.beq (an.getD j 0 ||| last) (an.getD j 0)=true) (hpj:(pj.all fun q=>(an.getD j 0).testBit q)=true)
  (ha:args.map fs.ev=vs) (hz0:fs.z=z0) (hw:∀ v z' H',zle z0 z'→Post v z' H'→FG call B an (j+1) l (fs.res d v z' (H'++fs.H)) T (j+1) (an.getD j 0 ||| (1 <<< j)) [] lj Q):FG call B an j (⟨i,af⟩::l) fs T tag last pj lj Q:=by
 subst hz0
 exact bDN (D:=⟨fs,T,tag,last,pj,lj⟩) hi hd hg hbits hpj ha hc hw
theorem bA1 {call:iJ} {B:rR} {an:List Nat} {j:Nat} {l:List CE.D} {fs:Sf} {T:fR} {tag last:Nat} {pj lj:List Nat} {Q:Sf→Prop} (z0:fR) {i:I} {d f:Nat} {args:List Od} {vs:List AV} {af:List Nat} {Post:AV→fR→Prop} (hc:FC call f vs z0 Post) (hi:i.o=.call f args) (hd:i.d=some d) (hg:GK fs i) (hbits:Nat.beq (an.getD j 0 ||| last) (an.getD j 0)=true) (hpj:(pj.all fun q=>!(an.getD j 0).testBit q)=true)
  (ha:args.map fs.ev=vs) (hz0:fs.z=z0) (hzT:∀ b k,z0 b k→T b k) (hw:∀ v z',zle z0 z'→Post v z'→FG call B an (j+1) l (fs.res d v z' fs.H) T (j+1) (an.getD j 0 ||| (1 <<< j)) pj lj Q):FG call B an j (⟨i,af⟩::l) fs T tag last pj lj Q:=by
 subst hz0
 exact bEm (D:=⟨fs,T,tag,last,pj,lj⟩) hi hd hg hbits hpj hzT ha hc hw
theorem aFH {call:iJ} {B:rR} {fs:Sf} {l:List I} {Q:Sf→Prop} {d:Nat} {x:Od} {b p:Nat} {c:C} (hx:fs.ev x=.c (.ptr b p)) (ha:At fs.z b p [c]) (hw:FL call B l (fs.put d (.c c)) Q):FL call B (⟨some d,none,.load false 1 x⟩::l) fs Q:=tG (off:=0) hx ha rfl (by simp) rfl hw
theorem aYM {s n:Nat} {kb:IntKind} (hs:s≤31) (h:2 ^ s=n):pC .shl (.int .u32 1) (.int kb s)=some (.int .u32 n):=by
 have h2:2 ^ s<4294967296:=Nat.lt_of_le_of_lt (Nat.pow_le_pow_right (by decide) hs) (by decide)
 exact bMT (k:=.u32) (a:=1) (by show s≤32;omega) (by rw [Nat.one_mul,h];exact wD rfl (by omega))
theorem bHp {call:iJ} {B:rR} {fs:Sf} {l:List I} {Q:Sf→Prop} {H':List HA} (hs:H'.Sublist fs.H) (hw:FL call B l (fs.heap H') Q):FL call B l fs Q:=fun st rf =>
 hw st ⟨rf.env,rf.hold.sub hs,rf.le,rf.old,fun b hb=>rf.own b ((Lu hs).subset hb),rf.zle,rf.zin⟩
theorem aX2 {call:iJ} {B:rR} {fs:Sf} {l:List I} {Q:Sf→Prop} {d ty n:Nat} {zero:List Value} {y:Od} (hy:fs.ev y=.c (.v (.int .u32 (n:Nat)))) (hn:n<4294967296) (hz:(Gi 1 (zero.map fun v=>C.v v)).length=1) (hw:∀ b,FL call B l (fs.own d (.c (.sl b 0 1 1)) (D6 eW b ty [UInt32.ofNat n])) Q):FL call B (⟨some d,none,.bslice ty 1 1 zero [(0,y)]⟩::l) fs Q:=by
 refine gU (cs:=cE eW [UInt32.ofNat n]) ?_ hw
 obtain ⟨c,hc⟩:=List.length_eq_one_iff.1 hz
 rw [hc]
 have e:cE eW [UInt32.ofNat n]=[.v (.int .u32 (n:Nat))]:=by simp only [cE,List.map,eW,Go.Num.ofNat_toNat hn]
 rw [e]
 simp only [aAY,hy,AV.cells?]
 rfl
def bIM (fs:Sf) (o:Option Od) (dflt i:Nat):Prop:=match o with
 | none=>i=dflt
 | some x=>∃ k z,fs.ev x=.c (.v (.int k z))∧z=(i:Int)
theorem bIM.e {fs:Sf} {o:Option Od} {dflt i:Nat} (h:bIM fs o dflt i):aWZ fs o dflt i:=by
 cases o with
 | none=>exact h
 | some x =>
  obtain ⟨k,z,h1,rfl⟩:=h
  exact ⟨k,h1⟩
theorem bEy {call:iJ} {B:rR} {fs:Sf} {l:List I} {Q:Sf→Prop} {d:Nat} {size b o n:Nat} {x:Od} {lo hi:Option Od} {i j:Nat} (oo nn:Nat) (hx:fs.ev x=.c (.sl b o n size)) (hlo:bIM fs lo 0 i) (hhi:bIM fs hi n j) (hij:i≤j) (hj:j≤n) (hin:i<n) (h1:o+i * size=oo) (h2:j - i=nn)
  (hw:FL call B l (fs.put d (.c (.sl b oo nn size))) Q):FL call B (⟨some d,none,.slc size x lo hi⟩::l) fs Q:=by
 subst h1 h2
 exact bI5 hx hlo.e hhi.e hij hj hin hw
theorem FCt.told {call:iJ} {f:Nat} {args:List AV} {z:fR} {α:Type} {e:α→Value} [RMono (RE e)] {ty:Nat} {l:List α} {P:AV→AV→Prop} (h:FCt call f args z [] fun v _ H'=>∃ u,P v u∧H'=[Ds e u ty l]) (hm:l.length≤9223372036854775807):FC call f args z fun v z'=>∃ u,P v u∧SZ 1 (RE e) (zd z z') u l:=fun mem nx hh=>by
  obtain ⟨w,mem',nx',z',H',h1,h2,h3,h4,h5,h6,h7,u,hP,e1⟩:=h mem nx hh
  subst e1
  obtain ⟨g1,g2⟩:=h4.h _ (List.mem_singleton.2 rfl)
  rcases g2 with ⟨h0,rfl⟩ | ⟨b,rfl,h8⟩
  · have e : l = [] := List.eq_nil_of_length_eq_zero (by omega)
    subst e
    exact ⟨_,mem',nx',z',[],h1,h2,h3,h4.sub (List.nil_sublist _),h5,h6,fun b hb=>by simp [qT] at hb,rfl,_,hP,.nil⟩
  · have hfb : b ∈ qT [HA.row (.c (.sl b 0 l.length 1)) ty 1 l.length (cE e l)] := by simp [qT, HA.fp]
    refine ⟨_,mem',nx',fun x y=>z' x y∨(x=b∧y=.cells ty (cE e l)),[],h1,h2,h3,⟨fun x k hx=>?_,fun a ha=>by simp at ha,fun x hx=>by simp [qT] at hx,by simp [qT]⟩,⟨fun _ _ hx=>.inl (h5 _ _ hx)⟩,fun x k hx=>?_,fun x hx=>by simp [qT] at hx,rfl,_,hP,?_⟩
    · rcases hx with hx | ⟨rfl,rfl⟩
      · obtain ⟨k1, k2, _⟩ := h4.z x k hx
        exact ⟨k1,k2,by simp [qT]⟩
      · exact ⟨h8,h4.lt _ hfb,by simp [qT]⟩
    · rcases hx with hx | ⟨rfl,rfl⟩
      · exact h6 x k hx
      · rcases h7 _ hfb with k | k
        · exact .inr (.inl k)
        · simp [qT] at k
    · refine CL.sz (ty:=ty) (cs:=cE e l) Ti rfl hm ⟨.inr ⟨rfl,rfl⟩,fun k' hb=>(h4.z b k' (h5 _ _ hb)).2.2 hfb,rfl⟩
def LZ (z0 zz:fR) (H:List HA) (ls:List (Nat×AV)) (fs:Sf):Prop:=∃ e Hx,fs=⟨e,zz,Hx++H⟩∧zle z0 zz∧Sr e ls
theorem LZ.mk {z0 zz:fR} {H:List HA} {ls:List (Nat×AV)} {e:O6} (Hx:List HA) (hz:zle z0 zz) (ha:Sr e ls):LZ z0 zz H ls ⟨e,zz,Hx++H⟩:=⟨e,Hx,rfl,hz,ha⟩
theorem LZ.open {call:iJ} {k:Nat} {B:rR} {c:XC} {Q:Exit→Sf→Prop} {z0 zz:fR} {H:List HA} {ls:List (Nat×AV)} {fs:Sf} (h:LZ z0 zz H ls fs) (hw:∀ e,zle z0 zz→FX call k B c ⟨aPv e ls,zz,H⟩ Q):FX call k B c fs Q:=by
 obtain ⟨e,Hx,rfl,hz,ha⟩:=h
 exact zH ha fun e=>uQ (List.sublist_append_right _ _) (hw e hz)
theorem bAa {call:iJ} {B:rR} {fs:Sf} {l:List I} {Q:Sf→Prop} {d ty n m:Nat} {zero:List Value} {y y':Od} (hy:fs.ev y=.c (.v (.int .u32 (n:Nat)))) (hy':fs.ev y'=.c (.v (.int .u32 (m:Nat)))) (hn:n<4294967296) (hm:m<4294967296) (hz:(Gi 2 (zero.map fun v=>C.v v)).length=2) (hw:∀ b,FL call B l (fs.own d (.c (.sl b 0 2 1)) (D6 eW b ty [UInt32.ofNat n,UInt32.ofNat m])) Q):FL call B (⟨some d,none,.bslice ty 1 2 zero [(0,y),(1,y')]⟩::l) fs Q:=by
 refine gU (cs:=cE eW [UInt32.ofNat n,UInt32.ofNat m]) ?_ hw
 obtain ⟨c,c',hc⟩:∃ c c',Gi 2 (zero.map fun v=>C.v v)=[c,c']:=by
  match h:Gi 2 (zero.map fun v=>C.v v),hz with
  | [c,c'],_=>exact ⟨c,c',rfl⟩
 rw [hc]
 have e:cE eW [UInt32.ofNat n,UInt32.ofNat m]=[.v (.int .u32 (n:Nat)),.v (.int .u32 (m:Nat))]:=by simp only [cE,List.map,eW,Go.Num.ofNat_toNat hn,Go.Num.ofNat_toNat hm]
 rw [e]
 simp only [aAY,hy,hy',AV.cells?]
 rfl
theorem bVL {z:fR} {b ty:Nat} {c d:C} {l m:List UInt32} (h0:CZ 1 RW z c l) (h1:CZ 1 RW z d m) (h2:z b (.cells ty [c,d])):SZ 1 RLs z (.c (.sl b 0 2 1)) [l,m]:=by
 refine CL.sz (cs:=[c,d]) ?_ rfl (by simp) h2
 exact CL.append (cs:=[c]) (l:=[l]) (cs':=[d]) (l':=[m]) (CL.one rfl ⟨_,rfl,h0⟩) (CL.one rfl ⟨_,rfl,h1⟩)
def IV (z:fR) (v:AV) (a:Int):Prop:=∃ c,v=.agg [.v (.bool (decide (a<0))),c]∧CZ 1 RW z c (Go.Num.toL a.natAbs)
def QV (z:fR) (v:AV) (q:Rat):Prop:=∃ c d,v=.agg [.v (.bool (decide (q.num<0))),c,.v (.bool (decide ((q.den:Int)<0))),d]∧CZ 1 RW z c (Go.Num.toL q.num.natAbs)∧CZ 1 RW z d (Go.Num.toL q.den)
open Go.RowKit
structure dA where
 f:Nat
 args:List AV
 mem:List jX
 res:AV
 out:List (Nat×jX)
def aT2:Nat→List jX→Tr jX
 | _,[]=>.nil
 | k,b::l=>Tr.put (k+1) (aT2 (k+1) l) k (some b)
theorem bG2:∀ (l:List jX) (k b:Nat),(aT2 k l).get b=if k≤b then l[b - k]? else none:=by
  intro l
  induction l with
  | nil=>intro k b;simp [aT2,Tr.get_nil]
  | cons x l ih =>
    intro k b
    rw [aT2,Tr.get_put _ _ _ _ _ (by omega),ih]
    by_cases h:k=b
    · subst h;simp
    · rw [if_neg h]
      by_cases h2:k≤b
      · obtain ⟨j, rfl⟩ : ∃ j, b = k + 1 + j := ⟨b - (k + 1), by omega⟩
        rw [if_pos (by omega),if_pos h2,show k+1+j - (k+1)=j by omega,show k+1+j - k=j+1 by omega]
        rfl
      · rw [if_neg (by omega),if_neg h2]
def aT7:Tr jX→Nat→List jX→Tr jX
 | t,_,[]=>t
 | t,n,b::l=>aT7 (Tr.put (n+1) t n (some b)) (n+1) l
theorem aES:∀ (l:List jX) (t:Tr jX) (n b:Nat),(aT7 t n l).get b=if n≤b∧b<n+l.length then l[b - n]? else t.get b:=by
  intro l
  induction l with
  | nil=>intro t n b;rw [if_neg (by simp only [List.length_nil];omega)];rfl
  | cons x l ih =>
    intro t n b
    rw [aT7,ih]
    by_cases h:n+1≤b∧b<n+1+l.length
    · obtain ⟨j, rfl⟩ : ∃ j, b = n + 1 + j := ⟨b - (n + 1), by omega⟩
      rw [if_pos h,if_pos (by simp;omega),show n+1+j - (n+1)=j by omega,show n+1+j - n=j+1 by omega]
      rfl
    · rw [if_neg h, Tr.get_put _ _ _ _ _ (by omega)]
      by_cases h2:n=b
      · subst h2
        simp
      · rw [if_neg h2,if_neg (by simp only [List.length_cons];omega)]
def aXI (σ:Nat→Option Nat):C→Option C
 | .any=>some .any
 | .v x=>some (.v x)
 | .ptr b o=>match σ b with
  | some b'=>some (.ptr b' o)
  | none=>none
 | .sl b o n s=>match σ b with
  | some b'=>some (.sl b' o n s)
  | none=>none
 | .fn f [] []=>some (.fn f [] [])
 | .fn _ _ _=>none
 | .mp b=>match σ b with
  | some b'=>some (.mp b')
  | none=>none
 | .em=>some .em
def bDI (σ:Nat→Option Nat):List C→Option (List C)
 | []=>some []
 | c::l=>match aXI σ c with
  | some c'=>match bDI σ l with
   | some l'=>some (c'::l')
   | none=>none
  | none=>none
def bAV (σ:Nat→Option Nat):AV→Option AV
 | .any=>some .any
 | .c c=>match aXI σ c with
  | some c'=>some (.c c')
  | none=>none
 | .agg l=>match bDI σ l with
  | some l'=>some (.agg l')
  | none=>none
 | .tup _=>none
def bCK (σ:Nat→Option Nat):List AV→Option (List AV)
 | []=>some []
 | c::l=>match bAV σ c with
  | some c'=>match bCK σ l with
   | some l'=>some (c'::l')
   | none=>none
  | none=>none
def bP1 (σ:Nat→Option Nat):AV→Option AV
 | .tup l=>match bCK σ l with
  | some l'=>some (.tup l')
  | none=>none
 | v=>bAV σ v
def aLQ (σ:Nat→Option Nat):jX→Option jX
 | .cells ty cs=>match bDI σ cs with
  | some cs'=>some (.cells ty cs')
  | none=>none
 | _=>none
section
variable {σ:Nat→Option Nat} {ρA ρB:pO}
theorem Ny (hσ:∀ b b',σ b=some b'→ρA b'=ρB b) {c c':C} (h:aXI σ c=some c') {x:Value}:nC ρB c x↔nC ρA c' x:=by
  unfold aXI at h
  split at h
  · injection h with h; subst h
    exact ⟨fun g=>by cases g with | any _ h1=>exact .any _ h1,fun g=>by cases g with | any _ h1=>exact .any _ h1⟩
  · injection h with h; subst h
    exact ⟨fun g=>by cases g with | v _ h1=>exact .v _ h1,fun g=>by cases g with | v _ h1=>exact .v _ h1⟩
  · split at h
    · rename_i b o b' hb
      injection h with h;subst h
      exact ⟨fun g=>by cases g with | ptr _ _ la h1=>exact .ptr _ _ la ((hσ _ _ hb).trans h1),fun g=>by cases g with | ptr _ _ la h1=>exact .ptr _ _ la ((hσ _ _ hb).symm.trans h1)⟩
    · cases h
  · split at h
    · rename_i b o n s b' hb
      injection h with h;subst h
      exact ⟨fun g=>by cases g with | sl _ _ _ _ cap la h1 h2 h3 h4=>exact .sl _ _ _ _ cap la ((hσ _ _ hb).trans h1) h2 h3 h4,fun g=>by cases g with | sl _ _ _ _ cap la h1 h2 h3 h4=>exact .sl _ _ _ _ cap la ((hσ _ _ hb).symm.trans h1) h2 h3 h4⟩
    · cases h
  · injection h with h; subst h
    exact ⟨fun g => by cases g with | fn _ _ _ us vs h1 h2 s1 s2 hf hv => exact .fn _ _ _ us vs h1 h2 s1 s2 (fun i p j c hp => by simp at hp) (fun i p j c hp => by simp at hp),
      fun g=>by cases g with | fn _ _ _ us vs h1 h2 s1 s2 hf hv=>exact .fn _ _ _ us vs h1 h2 s1 s2 (fun i p j c hp=>by simp at hp) (fun i p j c hp=>by simp at hp)⟩
  · cases h
  · split at h
    · rename_i b b' hb
      injection h with h;subst h
      exact ⟨fun g=>by cases g with | mp _ la h1=>exact .mp _ la ((hσ _ _ hb).trans h1),fun g=>by cases g with | mp _ la h1=>exact .mp _ la ((hσ _ _ hb).symm.trans h1)⟩
    · cases h
  · injection h with h; subst h
    exact ⟨fun g=>by cases g with | em A cap=>exact .em A cap,fun g=>by cases g with | em A cap=>exact .em A cap⟩
theorem aNN:∀ {l l':List C},bDI σ l=some l'→l.length=l'.length∧(∀ (i:Nat) (c:C),l[i]? = some c→∃ c',l'[i]? = some c'∧aXI σ c=some c')∧(∀ (i:Nat) (c':C),l'[i]? = some c'→∃ c,l[i]? = some c∧aXI σ c=some c'):=by
 intro l
 induction l with
 | nil =>
  intro l' h
  simp only [bDI] at h
  injection h with h;subst h
  exact ⟨rfl,fun i c hc=>by simp at hc,fun i c hc=>by simp at hc⟩
 | cons c l ih =>
  intro l' h
  simp only [bDI] at h
  split at h
  case h_2=>cases h
  rename_i c1 hc1
  split at h
  case h_2=>cases h
  rename_i l1 hl1
  injection h with h;subst h
  obtain ⟨g1,g2,g3⟩:=ih hl1
  refine ⟨by simp [g1],fun i d hd=>?_,fun i d hd=>?_⟩
  ·cases i with
   | zero=>simp at hd;subst hd;exact ⟨c1,rfl,hc1⟩
   | succ i=>exact g2 i d (by simpa using hd)
  cases i with
  | zero=>simp at hd;subst hd;exact ⟨c,rfl,hc1⟩
  | succ i=>exact g3 i d (by simpa using hd)
theorem aSF (hσ:∀ b b',σ b=some b'→ρA b'=ρB b) {c c':AV} (h:bAV σ c=some c') {x:Value}:nK (nC ρB) c x↔nK (nC ρA) c' x:=by
 unfold bAV at h
 split at h
 ·injection h with h;subst h
  exact ⟨fun g=>.any _,fun g=>.any _⟩
 ·split at h
  case h_2=>cases h
  rename_i c c1 hc
  injection h with h;subst h
  exact ⟨fun g=>by cases g with | c _ _ h1=>exact .c _ _ ((Ny hσ hc).1 h1),fun g=>by cases g with | c _ _ h1=>exact .c _ _ ((Ny hσ hc).2 h1)⟩
 ·split at h
  case h_2=>cases h
  rename_i l l1 hl
  injection h with h;subst h
  obtain ⟨g1,g2,g3⟩:=aNN hl
  refine ⟨fun g=>?_,fun g=>?_⟩
  ·cases g with
   | agg _ xs hs hc =>
    refine .agg _ xs (by omega) fun i d hd=>?_
    obtain ⟨c,hc1,hc2⟩:=g3 i d hd
    exact (Ny hσ hc2).1 (hc i c hc1)
  cases g with
  | agg _ xs hs hc =>
   refine .agg _ xs (by omega) fun i d hd=>?_
   obtain ⟨c,hc1,hc2⟩:=g2 i d hd
   exact (Ny hσ hc2).2 (hc i c hc1)
 cases h
theorem aVh:∀ {l l':List AV},bCK σ l=some l'→l.length=l'.length∧(∀ (i:Nat) (c:AV),l[i]? = some c→∃ c',l'[i]? = some c'∧bAV σ c=some c')∧(∀ (i:Nat) (c':AV),l'[i]? = some c'→∃ c,l[i]? = some c∧bAV σ c=some c'):=by
 intro l
 induction l with
 | nil =>
  intro l' h
  simp only [bCK] at h
  injection h with h;subst h
  exact ⟨rfl,fun i c hc=>by simp at hc,fun i c hc=>by simp at hc⟩
 | cons c l ih =>
  intro l' h
  simp only [bCK] at h
  split at h
  case h_2=>cases h
  rename_i c1 hc1
  split at h
  case h_2=>cases h
  rename_i l1 hl1
  injection h with h;subst h
  obtain ⟨g1,g2,g3⟩:=ih hl1
  refine ⟨by simp [g1],fun i d hd=>?_,fun i d hd=>?_⟩
  ·cases i with
   | zero=>simp at hd;subst hd;exact ⟨c1,rfl,hc1⟩
   | succ i=>exact g2 i d (by simpa using hd)
  cases i with
  | zero=>simp at hd;subst hd;exact ⟨c,rfl,hc1⟩
  | succ i=>exact g3 i d (by simpa using hd)
theorem bIB (hσ:∀ b b',σ b=some b'→ρA b'=ρB b) {c c':AV} (h:bP1 σ c=some c') {x:Value} (g:nK (nC ρB) c x):nK (nC ρA) c' x:=by
 unfold bP1 at h
 split at h
 ·split at h
  case h_2=>cases h
  rename_i l l1 hl
  injection h with h;subst h
  obtain ⟨g1,g2,g3⟩:=aVh hl
  cases g with
  | tup _ xs hs hc =>
   refine .tup _ xs (by omega) fun i d hd=>?_
   obtain ⟨c,hc1,hc2⟩:=g3 i d hd
   exact (aSF hσ hc2).1 (hc i c hc1)
 exact (aSF hσ h).1 g
theorem Jr {k k':jX} (h:aLQ σ k=some k'):k.isRo=false∧k'.isRo=false:=by
 unfold aLQ at h
 split at h
 case h_2=>cases h
 split at h
 case h_2=>cases h
 injection h with h;subst h
 exact ⟨rfl,rfl⟩
theorem bGC (hσ:∀ b b',σ b=some b'→ρA b'=ρB b) {k k':jX} (h:aLQ σ k=some k') {w:World} {la:Pl}:Ef ρB w la k↔Ef ρA w la k':=by
 unfold aLQ at h
 split at h
 case h_2=>cases h
 split at h
 case h_2=>cases h
 rename_i ty cs cs' hl
 injection h with h;subst h
 obtain ⟨g1,g2,g3⟩:=aNN hl
 refine ⟨fun g=>?_,fun g=>?_⟩
 ·cases g with
  | cells _ _ cur hh ht hle hf =>
   refine .cells _ _ cur hh ht (by omega) fun i d hd=>?_
   obtain ⟨c,hc1,hc2⟩:=g3 i d hd
   obtain ⟨x,hx,hr⟩:=hf i c hc1
   exact ⟨x,hx,(Ny hσ hc2).1 hr⟩
 cases g with
 | cells _ _ cur hh ht hle hf =>
  refine .cells _ _ cur hh ht (by omega) fun i d hd=>?_
  obtain ⟨c,hc1,hc2⟩:=g2 i d hd
  obtain ⟨x,hx,hr⟩:=hf i c hc1
  exact ⟨x,hx,(Ny hσ hc2).2 hr⟩
end
def uC:C→C→List (Nat×Nat)→List (Nat×Nat)
 | .ptr b _,.ptr b' _,acc=>(b',b)::acc
 | .sl b _ _ _,.sl b' _ _ _,acc=>(b',b)::acc
 | .mp b,.mp b',acc=>(b',b)::acc
 | _,_,acc=>acc
def uL:List C→List C→List (Nat×Nat)→List (Nat×Nat)
 | a::l,b::r,acc=>uL l r (uC a b acc)
 | _,_,acc=>acc
def uA:AV→AV→List (Nat×Nat)→List (Nat×Nat)
 | .c a,.c b,acc=>uC a b acc
 | .agg l,.agg r,acc=>uL l r acc
 | _,_,acc=>acc
def uAs:List AV→List AV→List (Nat×Nat)→List (Nat×Nat)
 | a::l,b::r,acc=>uAs l r (uA a b acc)
 | _,_,acc=>acc
def lkp:List (Nat×Nat)→Nat→Option Nat
 | [],_=>none
 | p::l,i=>match Nat.beq p.1 i with
  | true=>some p.2
  | false=>lkp l i
def uM (mem:Tr jX):Nat→List jX→List (Nat×Nat)→List (Nat×Nat)
 | _,[],acc=>acc
 | i,k::l,acc=>match lkp acc i with
  | none=>acc
  | some b=>match mem.get b,k with
   | some (.cells _ cs),.cells _ cs'=>uM mem (i+1) l (uL cs cs' acc)
   | _,_=>acc
def bTy (acc:List (Nat×Nat)):Nat→List jX→Option (List Nat)
 | _,[]=>some []
 | i,_::l=>match lkp acc i with
  | none=>none
  | some b=>match bTy acc (i+1) l with
   | some r=>some (b::r)
   | none=>none
def bFX:List (Nat×jX)→Nat→Nat→Option Nat
 | [],_,_=>none
 | p::l,n,b=>match Nat.beq p.1 b with
  | true=>some n
  | false=>bFX l (n+1) b
def sig (N:Nat) (act:List Nat) (out:List (Nat×jX)) (nx:Nat) (b:Nat):Option Nat:=match Nat.blt b N with
 | true=>act[b]?
 | false=>bFX out nx b
def aRS:List AV→List AV→Bool
 | [],[]=>true
 | a::l,b::r=>qA a b && aRS l r
 | _,_=>false
theorem aJH:∀ {l r:List AV},aRS l r=true→l=r
 | [],[],_=>rfl
 | [],_::_,h=>by cases h
 | _::_,[],h=>by cases h
 | a::l,b::r,h=>by
  simp only [aRS,Bool.and_eq_true] at h
  rw [bEd h.1,aJH h.2]
def aSA:jX→jX→Bool
 | .cells a l,.cells b r=>Nat.beq a b && qL l r
 | _,_=>false
theorem aGX {a b:jX} (h:aSA a b=true):a=b:=by
 unfold aSA at h
 split at h
 ·simp only [Bool.and_eq_true] at h
  rw [Nat.eq_of_beq_eq_true h.1,bEp h.2]
 cases h
def okM (σ:Nat→Option Nat) (mem:Tr jX):List Nat→List jX→Bool
  | [],[]=>true
  | b :: l, k :: r => (match aLQ σ k with
    | some k' => (match mem.get b with
      | some k2=>aSA k' k2
      | none=>false)
    | none=>false) && okM σ mem l r
  | _,_=>false
def bIb:Nat→List Nat→Bool
 | _,[]=>false
 | a,b::l=>Nat.beq a b || bIb a l
theorem bF3 {a:Nat}:∀ {l:List Nat},bIb a l=true↔a∈l:=by
 intro l
 induction l with
 | nil=>simp [bIb]
 | cons b l ih=>simp [bIb,ih]
def bGt:List Nat→Bool
 | []=>true
 | a::l=>!bIb a l && bGt l
theorem aXW:∀ {l:List Nat},bGt l=true→l.Nodup:=by
 intro l
 induction l with
 | nil=>intro _;exact List.nodup_nil
 | cons a l ih =>
  intro h
  simp only [bGt,Bool.and_eq_true,Bool.not_eq_true'] at h
  exact List.nodup_cons.2 ⟨fun hm=>(by rw [bF3.2 hm] at h;cases h.1),ih h.2⟩
theorem bJ6 {σ:Nat→Option Nat} {mem:Tr jX}:∀ {l:List Nat} {r:List jX},okM σ mem l r=true→l.length=r.length∧∀ (i b:Nat) (k:jX),l[i]? = some b→r[i]? = some k→∃ k2,aLQ σ k=some k2∧mem.get b=some k2:=by
 intro l
 induction l with
 | nil =>
  intro r h
  cases r with
  | nil=>exact ⟨rfl,fun i b k hb=>by simp at hb⟩
  | cons=>cases h
 | cons a l ih =>
  intro r h
  cases r with
  | nil=>cases h
  | cons k r =>
   simp only [okM,Bool.and_eq_true] at h
   obtain ⟨h1,h2⟩:=h
   obtain ⟨g1,g2⟩:=ih h2
   refine ⟨by simp [g1],fun i b k' hb hk=>?_⟩
   cases i with
   | zero =>
    simp at hb hk
    subst hb hk
    split at h1
    case h_2=>cases h1
    rename_i k1 hk1
    split at h1
    case h_2=>cases h1
    rename_i k2 hk2
    have:=aGX h1
    subst this
    exact ⟨k1,hk1,hk2⟩
   | succ i=>exact g2 i b k' (by simpa using hb) (by simpa using hk)
def outs (σ:Nat→Option Nat):List (Nat×jX)→Option (List jX)
 | []=>some []
 | p::l=>match aLQ σ p.2 with
  | some k=>match outs σ l with
   | some r=>some (k::r)
   | none=>none
  | none=>none
theorem bFu {σ:Nat→Option Nat}:∀ {l:List (Nat×jX)} {r:List jX},outs σ l=some r→l.length=r.length∧∀ (i:Nat) (k:jX),r[i]? = some k→∃ p,l[i]? = some p∧aLQ σ p.2=some k:=by
 intro l
 induction l with
 | nil =>
  intro r h
  simp only [outs] at h
  injection h with h;subst h
  exact ⟨rfl,fun i k hk=>by simp at hk⟩
 | cons p l ih =>
  intro r h
  simp only [outs] at h
  split at h
  case h_2=>cases h
  rename_i k hk
  split at h
  case h_2=>cases h
  rename_i r1 hr1
  injection h with h;subst h
  obtain ⟨g1,g2⟩:=ih hr1
  refine ⟨by simp [g1],fun i k' hk'=>?_⟩
  cases i with
  | zero=>simp at hk';subst hk';exact ⟨p,rfl,hk⟩
  | succ i=>exact g2 i k' (by simpa using hk')
def bEq (e:dA) (args:List AV) (mem:Tr jX) (nx:Nat):Option (AV×Tr jX×Nat):=
 match bTy (uM mem 0 e.mem (uAs args e.args [])) 0 e.mem with
 | none=>none
 | some act=>match bCK (sig e.mem.length act e.out nx) e.args with
  | none=>none
  | some args'=>match aRS args' args && (bGt act && okM (sig e.mem.length act e.out nx) mem act e.mem) with
   | false=>none
   | true=>match outs (sig e.mem.length act e.out nx) e.out with
    | none=>none
    | some ks=>match bP1 (sig e.mem.length act e.out nx) e.res with
     | none=>none
     | some r=>some (r,aT7 mem nx ks,nx+ks.length)
structure aT (P:Program) (e:dA):Prop where
 ok:∃ mem' nx',bKr P e.f e.args (aT2 0 e.mem) e.mem.length e.res mem' nx'∧(∀ (i:Nat) (k:jX),e.mem[i]? = some k→mem'.get i=some k)∧∀ (i:Nat) (p:Nat×jX),e.out[i]? = some p→e.mem.length≤p.1∧mem'.get p.1=some p.2
 nd:(e.out.map Prod.fst).Nodup
theorem aOs:∀ {l:List (Nat×jX)} {n b j:Nat},bFX l n b=some j→n≤j∧∃ p,l[j - n]? = some p∧p.1=b:=by
 intro l
 induction l with
 | nil=>intro n b j h;cases h
 | cons p l ih =>
  intro n b j h
  simp only [bFX] at h
  split at h
  ·rename_i hb
   injection h with h;subst h
   exact ⟨Nat.le_refl _,p,by simp,Nat.eq_of_beq_eq_true hb⟩
  obtain ⟨h1,q,h2,h3⟩:=ih h
  refine ⟨by omega,q,?_,h3⟩
  rw [show j - n=(j - (n+1))+1 by omega]
  simpa using h2
theorem bDo {P:Program} {e:dA} (he:aT P e) {args:List AV} {mem:Tr jX} {nx:Nat} {res:AV} {mem':Tr jX} {nx':Nat} (h:bEq e args mem nx=some (res,mem',nx')):bKr P e.f args mem nx res mem' nx':=by
  unfold bEq at h
  split at h
  case h_1=>cases h
  rename_i act hact
  clear hact
  split at h
  case h_1=>cases h
  rename_i args' hargs
  split at h
  case h_1=>cases h
  rename_i hchk
  simp only [Bool.and_eq_true] at hchk
  obtain ⟨hc1,hc2,hc3⟩:=hchk
  have:=aJH hc1
  subst this
  have hnd:=aXW hc2
  obtain ⟨I0,hmem⟩:=bJ6 hc3
  split at h
  case h_1=>cases h
  rename_i ks hks
  split at h
  case h_1=>cases h
  rename_i r hr
  injection h with h
  obtain ⟨h1,h2⟩:=Prod.mk.inj h
  subst h1
  obtain ⟨h3,h4⟩:=Prod.mk.inj h2
  subst h3
  subst h4
  obtain ⟨hklen,hkget⟩:=bFu hks
  obtain ⟨memc,nxc,hF,hsame,hout⟩:=he.ok
  generalize hσ:sig e.mem.length act e.out nx=σ at *
  have hσ1:∀ b,b<e.mem.length→σ b=act[b]?:=fun b hb=>by
    rw [← hσ]
    have:Nat.blt b e.mem.length=true:=by rw [Nat.blt_eq];exact hb
    simp only [sig,this]
  have hσ2:∀ b,¬ b<e.mem.length→σ b=bFX e.out nx b:=fun b hb=>by
    rw [← hσ]
    have:Nat.blt b e.mem.length=false:=by
      cases hh:Nat.blt b e.mem.length with
      | false=>rfl
      | true=>rw [Nat.blt_eq] at hh;exact absurd hh hb
    simp only [sig,this]
  refine ⟨⟨by omega,fun b k hb=>?_,fun b k hb hr=>?_⟩,fun K w0 ρ w vs hms hfree hl hrep=>?_⟩
  · rw [aES] at hb
    split at hb
    · rename_i hh;exact .inr hh
    · exact .inl ⟨k,hb⟩
  · rw [aES] at hb
    split at hb
    · obtain ⟨p, hp, hk⟩ := hkget _ _ hb
      rw [(Jr hk).2] at hr;cases hr
    · exact hb
  · -- canonical plan
    let ρc:pO:=fun b=>if b<e.mem.length then (act[b]?).bind ρ else none
    let m1:fR:=fun b k=>mem.m b k∧b∈act
    let K':Nat→Prop:=fun x=>x<w.heap.size∧¬ ∃ b k la,m1 b k∧k.isRo=false∧ρ b=some la∧la.b=x
    have hat:∀ i,i<e.mem.length→∃ b k k2 la,act[i]? = some b∧e.mem[i]? = some k∧aLQ σ k=some k2∧mem.m b k2∧ρ b=some la∧ρc i=some la∧Ef ρ w la k2:=fun i hi=>by
      have h1:act[i]? = some (act[i]'(by omega)):=List.getElem?_eq_getElem (by omega)
      have h2:e.mem[i]? = some (e.mem[i]'hi):=List.getElem?_eq_getElem hi
      obtain ⟨k2,h3,h4⟩:=hmem i _ _ h1 h2
      obtain ⟨la,h5,h6⟩:=hms.blk _ _ h4
      exact ⟨_,_,k2,la,h1,h2,h3,h4,h5,by simp only [ρc];rw [if_pos hi,h1];exact h5,h6⟩
    have hσρ:∀ b b',σ b=some b'→b<e.mem.length→ρ b'=ρc b:=fun b b' hb hlt=>by
      rw [hσ1 b hlt] at hb
      simp only [ρc]
      rw [if_pos hlt,hb]
      rfl
    let σ0:Nat→Option Nat:=fun b=>if b<e.mem.length then act[b]? else none
    have hM:zO K' w ρc (aT2 0 e.mem).m w:=by
      have hget:∀ b k,(aT2 0 e.mem).m b k→b<e.mem.length∧e.mem[b]? = some k:=fun b k hb=>by
        unfold Tr.m at hb
        rw [bG2,if_pos (Nat.zero_le _),Nat.sub_zero] at hb
        exact ⟨(List.getElem?_eq_some_iff.1 hb).1,hb⟩
      refine ⟨fun b k hb=>?_,fun b k la hb hla=>?_,fun b b' k k' la la' hb hb' hla hla' _ _ hq=>?_,fun b hb=>hb.1,⟨rfl,rfl,rfl,Nat.le_refl _,fun _ _=>rfl⟩⟩
      · obtain ⟨h1, h2⟩ := hget b k hb
        obtain ⟨b0,k0,k2,la,g1,g2,g3,g4,g5,g6,g7⟩:=hat b h1
        rw [h2] at g2;injection g2 with g2;subst g2
        refine ⟨la,g6,?_⟩
        have key:∀ (c c':C) (x:Value),aXI σ c=some c'→nC ρ c' x→nC ρc c x:=by
          intro c c' x hc hx
          have hnew:∀ b b',σ b=some b'→¬ b<e.mem.length→ρ b'=none:=fun b b' hb hn=>by
            rw [hσ2 b hn] at hb
            obtain ⟨h1,p,h2,h3⟩:=aOs hb
            have:=(List.getElem?_eq_some_iff.1 h2).1
            exact hfree b' h1 (by omega)
          have hboth:∀ b b',σ b=some b'→ρ b'=ρc b:=fun b b' hb=>by
            by_cases hn:b<e.mem.length
            · exact hσρ b b' hb hn
            · rw [hnew b b' hb hn];simp only [ρc];rw [if_neg hn]
          exact (Ny hboth hc).2 hx
        unfold aLQ at g3
        split at g3
        case h_2=>cases g3
        split at g3
        case h_2=>cases g3
        rename_i ty cs cs' hl'
        injection g3 with g3;subst g3
        obtain ⟨q1,q2,q3⟩:=aNN hl'
        cases g7 with
        | cells _ _ cur hh ht hle hf =>
          refine .cells _ _ cur hh ht (by omega) fun i d hd=>?_
          obtain ⟨c,hc1,hc2⟩:=q2 i d hd
          obtain ⟨x,hx,hrx⟩:=hf i c hc1
          exact ⟨x,hx,key d c x hc2 hrx⟩
      · obtain ⟨h1, h2⟩ := hget b k hb
        obtain ⟨b0,k0,k2,la0,g1,g2,g3,g4,g5,g6,g7⟩:=hat b h1
        rw [g6] at hla;injection hla with hla;subst hla
        rw [h2] at g2;injection g2 with g2;subst g2
        exact ⟨fun _ hk=>hk.2 ⟨b0,k2,la0,⟨g4,List.mem_of_getElem? g1⟩,(Jr g3).2,g5,rfl⟩,fun hr=>(by rw [(Jr g3).1] at hr;cases hr),(hms.own b0 k2 la0 g4 g5).2.2⟩
      · obtain ⟨h1, h2⟩ := hget b k hb
        obtain ⟨h1',h2'⟩:=hget b' k' hb'
        obtain ⟨b0,k0,k2,la0,g1,g2,g3,g4,g5,g6,g7⟩:=hat b h1
        obtain ⟨b0',k0',k2',la0',g1',g2',g3',g4',g5',g6',g7'⟩:=hat b' h1'
        rw [g6] at hla;injection hla with hla;subst hla
        rw [g6'] at hla';injection hla' with hla';subst hla'
        have:=hms.inj b0 b0' k2 k2' la0 la0' g4 g4' g5 g5' (Jr g3).2 (Jr g3').2 hq
        subst this
        exact (List.getElem?_inj (List.getElem?_eq_some_iff.1 g1).1 hnd).1 (g1.trans g1'.symm)
    have hboth:∀ b b',σ b=some b'→ρ b'=ρc b:=fun b b' hb=>by
      by_cases hn:b<e.mem.length
      · exact hσρ b b' hb hn
      · rw [hσ2 b hn] at hb
        obtain ⟨h1,p,h2,h3⟩:=aOs hb
        have:=(List.getElem?_eq_some_iff.1 h2).1
        rw [hfree b' h1 (by omega)]
        simp only [ρc];rw [if_neg hn]
    have hfc:aXJ ρc e.mem.length nxc:=fun b h1 h2=>by simp only [ρc];rw [if_neg (by omega)]
    obtain ⟨ha1,ha2,ha3⟩:=aVh hargs
    have hra:∀ k v,e.args[k]? = some v→nK (nC ρc) v (vs.getD k undef):=fun k v hv=>by
      obtain ⟨v',hv1,hv2⟩:=ha2 k v hv
      exact (aSF hboth hv2).2 (hrep k v' hv1)
    refine (hF.run K' w ρc w vs hM hfc (by omega) hra).mono fun e' w' ⟨x,ρc',he',hg,hm',hx⟩=>?_
    let ρ':pO:=fun b=>if nx≤b∧b<nx+ks.length then (e.out[b - nx]?).bind (fun p=>ρc' p.1) else ρ b
    have hold:∀ b,b<e.mem.length→ρc' b=ρc b:=fun b hb=>hg.out b (.inl hb)
    have hρold:∀ b la,ρ b=some la→ρ' b=ρ b:=fun b la hb=>by
      simp only [ρ']
      rw [if_neg fun hh=>by have:=hfree b hh.1 hh.2;rw [hb] at this;cases this]
    have hnewb:∀ j p,e.out[j]? = some p→ρ' (nx+j)=ρc' p.1:=fun j p hp=>by
      have:=(List.getElem?_eq_some_iff.1 hp).1
      simp only [ρ']
      rw [if_pos (by omega),show nx+j - nx=j by omega,hp]
      rfl
    have hboth':∀ b b',σ b=some b'→ρ' b'=ρc' b:=fun b b' hb=>by
      by_cases hn:b<e.mem.length
      · obtain ⟨b0, k0, k2, la0, g1, g2, g3, g4, g5, g6, g7⟩ := hat b hn
        rw [hσ1 b hn,g1] at hb;injection hb with hb;subst hb
        rw [hρold _ _ g5,hold b hn,g5,g6]
      · rw [hσ2 b hn] at hb
        obtain ⟨h1,p,h2,h3⟩:=aOs hb
        have:=hnewb (b' - nx) p h2
        rw [show nx+(b' - nx)=b' by omega] at this
        rw [this,h3]
    have hgr:wR ρ nx (nx+ks.length) ρ':=⟨fun b la hb=>by rw [hρold b la hb];exact hb,fun b hb=>by simp only [ρ'];rw [if_neg (by omega)]⟩
    refine ⟨x,ρ',he',hgr,?_,bIB hboth' hr hx⟩
    let m2:fR:=fun b k=>(b∈act∧mem.m b k)∨∃ j p,e.out[j]? = some p∧b=nx+j∧aLQ σ p.2=some k
    have hw2:∀ b k,m2 b k→∃ i kc,memc.m i kc∧ρ' b=ρc' i∧aLQ σ kc=some k∧((i<e.mem.length∧act[i]? = some b)∨∃ j p,e.out[j]? = some p∧b=nx+j∧p.1=i):=fun b k hb=>by
      rcases hb with ⟨hb,hk⟩ | ⟨j,p,hp,rfl,hk⟩
      · obtain ⟨i, hi⟩ := List.getElem?_of_mem hb
        have hlt:=(List.getElem?_eq_some_iff.1 hi).1
        obtain ⟨b0,k0,k2,la0,g1,g2,g3,g4,g5,g6,g7⟩:=hat i (by omega)
        rw [hi] at g1;injection g1 with g1;subst g1
        have:k=k2:=by
          have h1:mem.get b=some k:=hk
          have h2:mem.get b=some k2:=g4
          rw [h1] at h2;injection h2
        subst this
        exact ⟨i,k0,hsame i k0 g2,by rw [hρold _ _ g5,hold i (by omega),g5,g6],g3,.inl ⟨by omega,hi⟩⟩
      · exact ⟨p.1,p.2,(hout j p hp).2,hnewb j p hp,hk,.inr ⟨j,p,hp,rfl,rfl⟩⟩
    have hM2:zO K' w ρ' m2 w':=by
      refine ⟨fun b k hb=>?_,fun b k la hb hla=>?_,fun b b' k k' la la' hb hb' hla hla' _ _ hq=>?_,hm'.kept,hm'.fr⟩
      · obtain ⟨i, kc, h1, h2, h3, h4⟩ := hw2 b k hb
        obtain ⟨la,h5,h6⟩:=hm'.blk i kc h1
        exact ⟨la,h2.trans h5,(bGC hboth' h3).1 h6⟩
      · obtain ⟨i, kc, h1, h2, h3, h4⟩ := hw2 b k hb
        have:=hm'.own i kc la h1 (h2.symm.trans hla)
        exact ⟨fun _=>this.1 (Jr h3).1,fun hr=>(by rw [(Jr h3).2] at hr;cases hr),this.2.2⟩
      · obtain ⟨i, kc, h1, h2, h3, h4⟩ := hw2 b k hb
        obtain ⟨i',kc',h1',h2',h3',h4'⟩:=hw2 b' k' hb'
        have hii:=hm'.inj i i' kc kc' la la' h1 h1' (h2.symm.trans hla) (h2'.symm.trans hla') (Jr h3).1 (Jr h3').1 hq
        subst hii
        rcases h4 with ⟨h5,h6⟩ | ⟨j,p,h5,h6,h7⟩<;>rcases h4' with ⟨h5',h6'⟩ | ⟨j',p',h5',h6',h7'⟩
        · rw [h6] at h6';injection h6'
        · have:=(hout j' p' h5').1;omega
        · have:=(hout j p h5).1;omega
        · have e1 : (e.out.map Prod.fst)[j]? = some i := by rw [List.getElem?_map, h5]; simp [h7]
          have e2:(e.out.map Prod.fst)[j']? = some i:=by rw [List.getElem?_map,h5'];simp [h7']
          have:=(List.getElem?_inj (List.getElem?_eq_some_iff.1 e1).1 he.nd).1 (e1.trans e2.symm)
          omega
    refine hms.frame (m1:=m1) (m2:=m2) (fun b k hb=>hb.1) hgr.le hM2 fun b k hb=>?_
    unfold Tr.m at hb
    rw [aES] at hb
    split at hb
    · rename_i hh
      obtain ⟨p,hp,hk⟩:=hkget _ _ hb
      exact .inl ⟨.inr ⟨b - nx,p,hp,by omega,hk⟩,fun hr=>by rw [(Jr hk).2] at hr;cases hr⟩
    · by_cases hb2:b∈act
      · exact .inl ⟨.inl ⟨hb2,hb⟩,fun _=>hb⟩
      · exact .inr ⟨hb,fun k1 hk1=>hb2 hk1.2⟩
def aWz (l:List dA) (h0:iJ):iJ:=fun f args mem nx=>match l with
 | []=>h0 f args mem nx
 | e::l=>match Nat.beq e.f f with
  | true=>match bEq e args mem nx with
   | some r=>some r
   | none=>aWz l h0 f args mem nx
  | false=>aWz l h0 f args mem nx
theorem aS {P:Program} {h0:iJ} (hh:sJ P h0):∀ {l:List dA},(∀ e∈l,aT P e)→sJ P (aWz l h0):=by
 intro l
 induction l with
 | nil=>intro _ f args mem nx res mem' nx' h;exact hh f args mem nx res mem' nx' h
 | cons e l ih =>
  intro hl f args mem nx res mem' nx' h
  have ih:=ih fun x hx=>hl x (List.mem_cons_of_mem _ hx)
  simp only [aWz] at h
  split at h
  ·rename_i hf
   have:=Nat.eq_of_beq_eq_true hf
   subst this
   split at h
   ·rename_i r hr
    injection h with h;subst h
    exact bDo (hl e (List.mem_cons_self ..)) hr
   exact ih _ _ _ _ _ _ _ h
  exact ih _ _ _ _ _ _ _ h
def aWB:AV→AV→Bool
 | .tup l,.tup r=>aRS l r
 | a,b=>qA a b
theorem bHK {a b:AV} (h:aWB a b=true):a=b:=by
 unfold aWB at h
 split at h
 ·rw [aJH h]
 exact bEd h
def aZg (m:Tr jX):Nat→List jX→Bool
  | _,[]=>true
  | i, k :: l => (match m.get i with
    | some k'=>aSA k' k
    | none=>false) && aZg m (i+1) l
theorem bBH {m:Tr jX}:∀ {l:List jX} {n:Nat},aZg m n l=true→∀ (i:Nat) (k:jX),l[i]? = some k→m.get (n+i)=some k:=by
 intro l
 induction l with
 | nil=>intro n _ i k hk;simp at hk
 | cons b l ih =>
  intro n h i k hk
  simp only [aZg,Bool.and_eq_true] at h
  cases i with
  | zero =>
   simp at hk
   subst hk
   obtain ⟨h,_⟩:=h
   split at h
   ·rename_i k' hk'
    rw [Nat.add_zero,hk',aGX h]
   cases h
  | succ i =>
   have:=ih h.2 i k (by simpa using hk)
   rw [← this]
   congr 1
   omega
def bLJ (m:Tr jX) (N:Nat):List (Nat×jX)→Bool
  | []=>true
  | p :: l => Nat.ble N p.1 && (match m.get p.1 with
    | some k'=>aSA k' p.2
    | none=>false) && bLJ m N l
theorem bIx {m:Tr jX} {N:Nat}:∀ {l:List (Nat×jX)},bLJ m N l=true→∀ (i:Nat) (p:Nat×jX),l[i]? = some p→N≤p.1∧m.get p.1=some p.2:=by
 intro l
 induction l with
 | nil=>intro _ i p hp;simp at hp
 | cons b l ih =>
  intro h i p hp
  simp only [bLJ,Bool.and_eq_true] at h
  cases i with
  | zero =>
   simp at hp
   subst hp
   obtain ⟨⟨h0,h⟩,_⟩:=h
   split at h
   ·rename_i k' hk'
    exact ⟨Nat.le_of_ble_eq_true h0,by rw [hk',aGX h]⟩
   cases h
  | succ i=>exact ih h.2 i p (by simpa using hp)
def chk (e:dA):Option (AV×Tr jX×Nat)→Bool
 | some (r,m,n)=>aWB r e.res && (aZg m 0 e.mem && (bLJ m e.mem.length e.out && bGt (e.out.map Prod.fst)))
 | none=>false
theorem aQ {P:Program} (hm:P.follows .mixedOrders=true) {l:List (Nat×F2)} (hT:aDP P (pM (aEf l))) {hand:iJ} (hh:sJ P hand) (k0 n:Nat) {e:dA}
  (h:true=chk e (f2 (aUW l) hand k0 n e.f e.args (aT2 0 e.mem) e.mem.length (fun v m n=>some (v,m,n)))):aT P e:=by
 cases hr:f2 (aUW l) hand k0 n e.f e.args (aT2 0 e.mem) e.mem.length (fun v m n=>some (v,m,n)) with
 | none=>rw [hr] at h;cases h
 | some q =>
  obtain ⟨r,m,nx⟩:=q
  rw [hr] at h
  have h:=h.symm
  simp only [chk,Bool.and_eq_true] at h
  obtain ⟨h1,h2,h3,h4⟩:=h
  have:=bHK h1
  subst this
  have hs:=aTM hm hT hh k0 n _ _ _ _ _ _ _ (bJz hr)
  exact ⟨⟨m,nx,hs,fun i k hk=>by have:=bBH h2 i k hk;simpa using this,bIx h3⟩,aXW h4⟩
theorem lQ.mk2 {P : Program} {f : Nat} {fn : Func} {e : F2} (hf : P.funcs[f]? = some fn) (hn : fn.ntmps = e.n) (hb : fn.body.isSome = true) (hname : (fn.name != "runtime.NumGoroutine") = true)
  (hic : IC.ofS P e.n (fn.body.getD .skip) = e.x.xc.ic) (hr : fn.results.toList.map (RR.of P) = e.ts.map some) (hok : e.x.xc.ok = true) : lQ P f e.fe := by
 obtain ⟨c, hc⟩ := Option.isSome_iff_exists.1 hb
 exact ⟨fn, c, hf, hn, hc, hname, by rw [hc] at hic; exact hic, hr, hok⟩
theorem eM {P:Program} {f:Nat} {e:F2} {l:List (Nat×F2)} (h:lQ P f e.fe) (g:∀ p,p∈aEf l→lQ P p.1 p.2):∀ p,p∈aEf ((f,e)::l)→lQ P p.1 p.2:=by
 intro p hp
 simp only [aEf,List.map_cons,List.mem_cons] at hp
 rcases hp with rfl | hp
 ·exact h
 exact g p hp
theorem aU {P:Program} {e:dA} {l:List dA} (h:aT P e) (g:∀ p,p∈l→aT P p):∀ p,p∈e::l→aT P p:=by
 intro p hp
 rcases List.mem_cons.1 hp with rfl | hp
 ·exact h
 exact g p hp
def aWT:iJ:=fun _ _ _ _=>none
theorem aOY {P:Program}:sJ P aWT:=fun _ _ _ _ _ _ _ h=>by cases h
end Go.CE
