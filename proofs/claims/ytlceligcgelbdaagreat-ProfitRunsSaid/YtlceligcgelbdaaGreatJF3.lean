/- Deferred profit: goods and sales; whether they may be, walked. -/
import Derived.WalkKit
import Derived.Orders
import Derived.Test.YtlceligcgelbdaaGreatJF2
set_option linter.unusedVariables false
set_option linter.unusedSimpArgs false
set_option maxRecDepth 100000
set_option maxHeartbeats 1000000
namespace Go.Proofs.YtlceligcgelbdaaGreat
open Go.CE Go.RowKit Go.Num
structure PGood where
 id:ByteArray
 yr:Int
 py:Int
 pr:Int
 mg:PRat
 us:PRat
structure PSale where
 id:ByteArray
 yr:Int
 sh:PRat
def RGood:RT PGood:=fun z cs a=>∃ c0 c1 c2 c3,cs=[Cs a.id,Ci a.yr,Ci a.py,Ci a.pr,Cb a.mg.n,c0,Cb a.mg.d,c1,Cb a.us.n,c2,Cb a.us.d,c3]∧CZ 1 RW z c0 a.mg.nm∧CZ 1 RW z c1 a.mg.dm∧CZ 1 RW z c2 a.us.nm∧CZ 1 RW z c3 a.us.dm
def RSale:RT PSale:=fun z cs a=>∃ c0 c1,cs=[Cs a.id,Ci a.yr,Cb a.sh.n,c0,Cb a.sh.d,c1]∧CZ 1 RW z c0 a.sh.nm∧CZ 1 RW z c1 a.sh.dm
instance:RMono RGood:=⟨fun hz ⟨c0,c1,c2,c3,h,g0,g1,g2,g3⟩=>⟨c0,c1,c2,c3,h,g0.mono hz,g1.mono hz,g2.mono hz,g3.mono hz⟩⟩
instance:RMono RSale:=⟨fun hz ⟨c0,c1,h,g0,g1⟩=>⟨c0,c1,h,g0.mono hz,g1.mono hz⟩⟩
def mb (ms:List (List Bool)) (y e:Nat):Bool:=((ms[y]?.getD [])[e]?).getD false
def bothM (ms:List (List Bool)) (g:PGood) (y:Nat):Bool:=mb ms y g.py.toNat && mb ms y g.pr.toNat
def dfr (ms:List (List Bool)) (g:PGood):Rat:=if bothM ms g g.yr.toNat=true then rv g.mg * rv g.us else 0
abbrev Ent:=(Nat×Nat)×Rat
def atE:List Ent→Nat→Nat→Rat
 | [],_,_=>0
 | a::l,y,e=>(if a.1=(y,e) then a.2 else 0)+atE l y e
def rowE (l:List Ent) (y m:Nat):List Rat:=(List.range m).map (atE l y)
def sumQ:List Rat→Rat
 | []=>0
 | a::l=>a+sumQ l
structure GSt where
 left:Rat
 sold:Rat
 lft:Rat
 rel:List Ent
def stepS (g:PGood) (D:Rat) (y:Nat) (s:GSt) (x:PSale):GSt:=if x.yr=(y:Int) then ⟨s.left - D * rv x.sh,s.sold+D * rv x.sh,s.lft,s.rel++[((y,g.py.toNat),D * rv x.sh)]⟩ else s
def stepY (ms:List (List Bool)) (pa:Nat) (g:PGood) (ss:List PSale) (D:Rat) (s:GSt) (y:Nat):GSt:=
 if bothM ms g y=true then ss.foldl (stepS g D y) s else ⟨0,s.sold,s.left,s.rel++[((y,if mb ms y g.py.toNat=true then g.py.toNat else pa),s.left)]⟩
def yrs (ms:List (List Bool)) (g:PGood):Nat→Nat→List Nat
 | 0,_=>[]
 | k+1,y=>y::if bothM ms g y=true then yrs ms g k (y+1) else []
def salesOf (sales:List PSale) (id:ByteArray):List PSale:=sales.filter fun s=>decide (s.id=id)
def goodR (ms:List (List Bool)) (pa:Nat) (sales:List PSale) (g:PGood):GSt:=(yrs ms g (ms.length - (g.yr.toNat+1)) (g.yr.toNat+1)).foldl (stepY ms pa g (salesOf sales g.id) (dfr ms g)) ⟨dfr ms g,0,0,[]⟩
def takenL (ms:List (List Bool)) (goods:List PGood):List Ent:=goods.map fun g=>((g.yr.toNat,g.py.toNat),dfr ms g)
def relL (ms:List (List Bool)) (pa:Nat) (goods:List PGood) (sales:List PSale):List Ent:=goods.flatMap fun g=>(goodR ms pa sales g).rel
def bals (tk rl:List Ent) (m:Nat):Nat→Rat
 | 0=>0
 | y+1=>bals tk rl m y+sumQ (rowE tk y m) - sumQ (rowE rl y m)
def entsN (ms:List (List Bool)):Nat:=(ms.head?.map List.length).getD 0
def isE (n:Nat) (e:Int):Bool:=decide (0≤e) && decide (e<(n:Int))
abbrev rRaw (x:PRat):RawR:=((x.n,x.nm),(x.d,x.dm))
def partB (x:PRat):Bool:=rightR (rRaw x) && decide (0≤rv x) && decide (rv x≤1)
def goodB (ms:List (List Bool)) (g:PGood):Bool:=isE ms.length g.yr && isE (entsN ms) g.py && isE (entsN ms) g.pr && rightR (rRaw g.mg) && decide (0≤rv g.mg) && partB g.us
structure RightG (ms:List (List Bool)) (pa:Int) (goods:List PGood) (sales:List PSale):Prop where
 m:∀ r,r∈ms→r.length=entsN ms
 p:isE (entsN ms) pa=true
 nd:(goods.map fun g=>g.id).Nodup
 g:∀ g,g∈goods→goodB ms g=true
 s:∀ s,s∈sales→partB s.sh=true
def saleB (ms:List (List Bool)) (goods:List PGood) (s:PSale):Prop:=∃ g,g∈goods∧g.id=s.id∧g.yr<s.yr∧s.yr<(ms.length:Int)
structure SoldG (ms:List (List Bool)) (goods:List PGood) (sales:List PSale):Prop where
 a:∀ s,s∈sales→saleB ms goods s
 b:∀ s,s∈sales→sumQ ((salesOf sales s.id).map fun x=>rv x.sh)≤1
theorem atE_app (l r:List Ent) (y e:Nat):atE (l++r) y e=atE l y e+atE r y e:=by
 induction l with
 | nil=>rw [List.nil_append,atE,Rat.zero_add]
 | cons a l ih=>rw [List.cons_append,atE,atE,ih,Rat.add_assoc]
theorem atE_one (y e y' e':Nat) (q:Rat):atE [((y,e),q)] y' e'=if (y,e)=(y',e') then q else 0:=by rw [atE,atE,Rat.add_zero]
theorem rowE_len {l:List Ent} {y m:Nat}:(rowE l y m).length=m:=by simp [rowE]
theorem rowE_get {l:List Ent} {y m e:Nat} (h:e<m):(rowE l y m)[e]? = some (atE l y e):=by
 rw [rowE,List.getElem?_map,List.getElem?_range h];rfl
theorem rowE_set {l:List Ent} {y m e:Nat} {q:Rat} (h:e<m):rowE (l++[((y,e),q)]) y m=(rowE l y m).set e (atE l y e+q):=by
 refine List.ext_getElem? fun i=>?_
 rcases Nat.lt_or_ge i m with hi | hi
 ·rw [rowE_get hi,atE_app,atE_one,List.getElem?_set]
  by_cases he:e=i
  ·subst he
   rw [if_pos rfl,if_pos rfl,if_pos (by rw [rowE_len];exact hi)]
  rw [if_neg fun h=>he (Prod.mk.inj h).2,if_neg he,Rat.add_zero,rowE_get hi]
 rw [List.getElem?_eq_none (by rw [rowE_len];exact hi),List.getElem?_eq_none (by rw [List.length_set,rowE_len];exact hi)]
theorem rowE_oth {l:List Ent} {y y' m e:Nat} {q:Rat} (h:y'≠y):rowE (l++[((y,e),q)]) y' m=rowE l y' m:=by
 refine List.map_congr_left fun i _=>?_
 rw [atE_app,atE_one,if_neg fun hh=>h (Prod.mk.inj hh).1.symm,Rat.add_zero]
theorem rowE_nil {y m:Nat}:rowE [] y m=List.replicate m 0:=by
  rw [rowE,List.eq_replicate_iff]
  exact ⟨by simp, fun b hb => by
    obtain ⟨i,_,rfl⟩:=List.mem_map.1 hb
    rfl⟩
def LQ (m:Nat) (q:Rat):Prop:=(toL q.num.natAbs).length≤m∧(toL (q.den:Int).natAbs).length≤m
theorem LQ.mono {m n:Nat} {q:Rat} (h:LQ m q) (hn:m≤n):LQ n q:=⟨Nat.le_trans h.1 hn,Nat.le_trans h.2 hn⟩
theorem LQ.add {a b:Nat} {p q:Rat} (h:LQ a p) (g:LQ b q):LQ (a+b+1) (p+q):=add_len h.1 h.2 g.1 g.2
theorem LQ.neg {a:Nat} {p:Rat} (h:LQ a p):LQ a (-p):=⟨by rw [Rat.neg_num,Int.natAbs_neg];exact h.1,by rw [Rat.neg_den];exact h.2⟩
theorem LQ.sub {a b:Nat} {p q:Rat} (h:LQ a p) (g:LQ b q):LQ (a+b+1) (p - q):=by rw [Rat.sub_eq_add_neg];exact h.add g.neg
theorem lq_rv {m:Nat} {x:PRat} (h1:x.nm.length≤m) (h2:x.dm.length≤m):LQ (m+1) (rv x):=⟨Nat.le_trans lenN (Nat.le_succ_of_le h1),Nat.le_trans lenD (Nat.succ_le_succ h2)⟩
theorem lq_zero:LQ 1 0:=⟨by rw [show toL (0:Rat).num.natAbs=[] from toL_zero];decide,toL_len.2 (by decide)⟩
open Go.CE Go.RowKit Go.Num
open Go.Eng (setL)
abbrev int_ (n:Int):AV:=Ai n
def fstI {α:Type} (p:α→Bool) (l:List α):Int:=match l.findIdx? p with
 | some i=>(i:Nat)
 | none=>-1
theorem fst_at {α:Type} {p:α→Bool} {l:List α} {i:Nat} {a:α} (ha:l[i]? = some a) (h:p a=true) (hp:∀ q,q<i→∀ b,l[q]? = some b→p b=false):fstI p l=(i:Nat):=by
 have:l.findIdx? p=some i:=by
  rw [List.findIdx?_eq_some_iff_getElem]
  obtain ⟨hl,he⟩:=List.getElem?_eq_some_iff.1 ha
  exact ⟨hl,by rw [he];exact h,fun q hq=>by rw [hp q hq _ (List.getElem?_eq_getElem (by omega))];simp⟩
 simp only [fstI,this]
theorem fst_no {α:Type} {p:α→Bool} {l:List α} {i:Nat} (hi:l.length≤i) (hp:∀ q,q<i→∀ b,l[q]? = some b→p b=false):fstI p l = -1:=by
 have:l.findIdx? p=none:=by
  rw [List.findIdx?_eq_none_iff]
  intro a ha
  obtain ⟨q,hq⟩:=List.mem_iff_getElem?.1 ha
  exact hp q (by have:=(List.getElem?_eq_some_iff.1 hq).1;omega) a hq
 simp only [fstI,this]
theorem p_step {α:Type} {p:α→Bool} {l:List α} {i:Nat} {a:α} (hp:∀ q,q<i→∀ b,l[q]? = some b→p b=false) (ha:l[i]? = some a) (h:p a=false):∀ q,q<i+1→∀ b,l[q]? = some b→p b=false:=fun q hq b hb=>by
 by_cases hqi:q=i
 ·subst hqi;rw [ha] at hb;injection hb with hb;rw [← hb];exact h
 exact hp q (by omega) b hb
theorem fst_get {α:Type} {p:α→Bool} {l:List α} (h:0≤fstI p l):∃ (i:Nat) (a:α),fstI p l=(i:Nat)∧l[i]? = some a∧p a=true:=by
 unfold fstI at h ⊢
 cases hf:l.findIdx? p with
 | none=>rw [hf] at h;simp at h
 | some i =>
  obtain ⟨h1,h2,_⟩:=List.findIdx?_eq_some_iff_getElem.1 hf
  exact ⟨i,l[i],rfl,List.getElem?_eq_getElem h1,h2⟩
theorem sumQ_tk {r:List Rat} {i:Nat} {a:Rat} (h:r[i]? = some a):sumQ (r.take (i+1))=sumQ (r.take i)+a:=by
 rw [tk_some h]
 generalize r.take i=l
 induction l with
 | nil=>simp only [List.nil_append,sumQ,Rat.add_zero,Rat.zero_add]
 | cons b l ih=>rw [List.cons_append,sumQ,sumQ,ih,Rat.add_assoc]
theorem lq_one:LQ 9000000 ((1:Int):Rat):=⟨Nat.le_trans (m:=1) (toL_len.2 (by decide)) (by decide),Nat.le_trans (m:=1) (toL_len.2 (by decide)) (by decide)⟩
theorem sg_le {p q:Rat}:(p.num * (q.den:Int) - q.num * (p.den:Int)).sign≤0↔p≤q:=by
 rw [Int.sign_nonpos_iff,Rat.le_iff]
 omega
theorem sg_ge {q:Rat}:q.num.sign ≥ 0↔0≤q:=by
 rw [ge_iff_le,Int.sign_nonneg_iff]
 exact Rat.num_nonneg
section
variable {x:PRat}
theorem part_1 (h:rightR (rRaw x)=false):false=partB x:=by rw [partB,h];rfl
theorem part_2 (h:¬ (rv x).num.sign ≥ 0):false=partB x:=by rw [partB,decide_eq_false fun g=>h (sg_ge.2 g),Bool.and_false];rfl
theorem part_3 (h:rightR (rRaw x)=true) (g:(rv x).num.sign ≥ 0):decide (((rv x).num * ((((1:Int):Rat)).den:Int) - (((1:Int):Rat)).num * ((rv x).den:Int)).sign≤0)=partB x:=by
 rw [partB,h,decide_eq_true (sg_ge.1 g)]
 simp only [Bool.true_and]
 exact decide_eq_decide.2 sg_le
end
theorem nz_len {m:Nat}:(repl m [C.v (.bool false),C.v (.slice none 0 0),C.v (.bool false),C.v (.slice none 0 0)]).length=(m - 0) * 4:=by
 induction m with
 | zero=>rfl
 | succ m ih=>rw [repl,List.length_append,ih,Nat.sub_zero,Nat.sub_zero,Nat.succ_mul];show 4+m * 4=_;omega
theorem nz_set {csd csr new:List C} {i m:Nat} (h1:csd.length=i * 4) (h2:csr.length=(m - i) * 4) (h3:i<m) (hn:new.length=4:=by rfl):setL (csd++csr) (0+i * 4) new=(csd++new)++csr.drop 4:=by
 rw [setL,Nat.zero_add,← h1,List.take_left,List.drop_append,hn]
 have:csd.drop (csd.length+4)=[]:=List.drop_of_length_le (by omega)
 rw [this,List.nil_append,Nat.add_sub_cancel_left]
theorem fl_mkS {call:Call'} {B:Base} {fs:Sf} {l:List I} {Q:Sf→Prop} {d ty size bytes n:Nat} {zero:List Value} {lo c:Go.Eng.Od} {kd kd':IntKind} {x:Int} (hl:fs.ev lo=.c (.v (.int kd x))) (hc:fs.ev c=.c (.v (.int kd' x))) (hz:x=(n:Int)) (hzs:(zero.map fun v=>C.v v).length=size) (h:n * bytes≤140737488355328) (hn:n≤9223372036854775807)
    (hw:∀ b,FL call B l (fs.own d (.c (.sl b 0 n size)) (.blk b (.cells ty (repl n (zero.map fun v=>.v v))))) Q):FL call B (⟨some d,none,.mksl ty size bytes zero lo c⟩::l) fs Q:=
  fl_new (w := fun b => .c (.sl b 0 n size)) (fun _ => rfl) (fun _ => rfl) (fun st r => by
    simp only [stepE,r.ev,hl,hc,AV.int?,hz]
    rw [Go.Eng.need_pos ⟨by omega,by omega,prodI.2 h,by omega⟩]
    rfl) hw
theorem fl_asrowC {call:Call'} {B:Base} {fs:Sf} {l:List I} {Q:Sf→Prop} {b ty n size:Nat} {cs cs':List C} {p q:List HA} (e:fs.H=p++.blk b (.cells ty cs)::q) (h:cs=cs') (hl:cs'.length=n * size) (hw:FL call B l (fs.heap (p++.row (.c (.sl b 0 n size)) ty size n cs'::q)) Q):FL call B l fs Q:=by
 subst h
 exact fl_asrow e hl hw
theorem is_1 {n:Nat} {e:Int} (h:e ≥ 0):decide (e<(n:Int))=isE n e:=by rw [isE,decide_eq_true (show 0≤e from h)];rfl
theorem is_2 {n:Nat} {e:Int} (h:¬ e ≥ 0):false=isE n e:=by rw [isE,decide_eq_false (show ¬ 0≤e from h)];rfl
theorem c_rat_Sign {k:Nat} (hk:10≤k) {z:Mem} {n1 n2:Bool} {c1 c2:C} {l1 l2:List UInt32} (hx:CZ 1 RW z c1 l1) (hy:CZ 1 RW z c2 l2) (h1:l1.length≤20000000) (h2:l2.length≤20000000):FC (E k) 39 [.agg [Cb n1,c1,Cb n2,c2]] z fun v _=>v=.c (.v (.int .i64 (valR ((n1,l1),(n2,l2))).num.sign)):=by
 refine fc_of (tS_get39) (by omega) (len1 rfl) fun B j hj=>?_
 refine xR ?_
 refine fl_bx rfl fun b1=>?_
 refine R2 4 O ?_
 refine fl_ld4 rfl mem0 rfl ?_
 refine lZ z (c_rat_right (by omega) hx hy h1 h2) rfl rfl fun v4 z4 _ hv4=>?_
 have hw4:=hv4 _ hx.m hy.m zd_le
 obtain ⟨c4,d4,hv,hm4,hn4⟩:=hw4
 subst hv
 refine fl_fld2 rfl rfl ?_
 refine lZ z4 (c_big_Sign (by omega) hm4) rfl rfl fun v6 z6 _ hv6=>?_
 rw [valI_c] at hv6
 refine R0 3 O ?_
 refine xT ?_
 exact rI O hv6
theorem c_rat_SumL {k:Nat} (hk:10≤k) {z:Mem} {v:AV} {r:List Rat} {m:Nat} (hx:SZ 4 RV z v r) (hb:∀ q,q∈r→LQ m q) (hn:r.length * (m+1)+1≤9000000):FC (E k) 37 [v] z fun v z'=>QV (zd z z') v (sumQ r):=by
 have hxl:=hx.le
 refine fc_of (tS_get37) (by omega) (len1 rfl) fun B j hj=>?_
 refine xR ?_
 refine fl_al4 fun b2=>?_
 refine lN ?_
 refine xR ?_
 refine lZ z (c_rat_Whole (by omega) (by decide) (by decide)) rfl rfl fun v6 z6 hz6 hv6=>?_
 obtain ⟨c6,d6,hv,hm6,hn6⟩:=hv6
 subst hv
 refine fl_al4 fun b3=>?_
 refine fl_st4 rfl rfl rep0 ?_
 refine lN ?_
 refine R4 12 O ?_
 refine fl_lenS rfl hx ?_
 refine R0 2 O ?_
 refine fx_seq (fx_block ?_)
 refine fx_loop (fun n fs=>∃ (i:Nat) (q:Rat) (c3:C) (d3:C) (zz:Mem),LZ z6 zz [.blk b3 (.cells 35 [Cb (decide (q.num<0)),c3,Cb (decide ((q.den:Int)<0)),d3]),.blk b2 (.cells 35 [Cb false,Cz,Cb false,Cz])] [(2,Ap b2),(3,Ap b3),(7,v),(8,Az r.length),(9,Az i)] fs∧n=r.length - i∧(i≤r.length)∧(q=sumQ (r.take i))∧(LQ (i * (m+1)+1) q)∧(CZ 1 RW (zd z zz) c3 (toL q.num.natAbs))∧(CZ 1 RW (zd z zz) d3 (toL (q.den:Int).natAbs))) ?_ _ ⟨0,0,_,_,_,LZ.m [] O,rfl,by omega,rfl,lq_zero.mono (by omega),hm6,hn6⟩ (kK (by omega))
 intro n fs ⟨i,q,c3,d3,zz,hL0,hmz0,hi,hq,hql,hqm,hqn⟩
 refine hL0.open fun e hzz=>?_
 refine R5 8 O ?_
 refine xD rfl (fun hc10=>?_) (fun hc10=>?_)
 ·refine fx_kseq ?_
  refine fx_seq (fx_block ?_)
  refine xR ?_
  obtain ⟨a,ha⟩:=at_lt (l:=r) (i:=i) (by omega)
  have hab:=hb a (List.mem_of_getElem? ha)
  have hmul:i * (m+1)+(m+1)≤r.length * (m+1):=by rw [← Nat.succ_mul];exact Nat.mul_le_mul_right _ (by omega)
  refine fl_iadS (zz:=zz) rfl rfl hx.m i rfl a ha fun b11 p11 cs at11 hR=>?_
  obtain ⟨c11,d11,hcs,qm,qn⟩:=hR
  subst hcs
  refine fl_ldA (off:=0) rfl at11 rfl (by simp) rfl ?_
  refine fl_al4 fun b5=>?_
  refine fl_st4 rfl rfl rep0 ?_
  refine lN ?_
  refine fx_drw ?_
  refine gl4 O O (.inr Y1) O ?_
  refine gl4 O O Ht O ?_
  refine gC zz (c_rat_right (by omega) qm qn (Nat.le_trans hab.1 (by omega)) (Nat.le_trans hab.2 (by omega))) O O O O fun v15 z15 hz15 hv15=>?_
  have hw15:=hv15 _ qm.m qn.m zd_le
  rw [valR_c] at hw15
  have hw15:=qv_op hw15
  obtain ⟨c15,d15,hv,hm15,hn15⟩:=hw15
  subst hv
  refine gC z15 (c_rat_add (by omega) hqm.m hqn.m hm15 hn15 (Nat.le_trans hql.1 (by omega)) (Nat.le_trans hql.2 (by omega)) (Nat.le_trans hab.1 (by omega)) (Nat.le_trans hab.2 (by omega))) O O O O fun v16 z16 _ hv16=>?_
  obtain ⟨c16,d16,hv,hm16,hn16⟩:=hv16
  subst hv
  have hm16:=hm16.mono (zAq (hz6.trans (hzz.trans hz15)))
  have hn16:=hn16.mono (zAq (hz6.trans (hzz.trans hz15)))
  refine gS O O O ?_
  refine fl_st4 rfl rfl P1 ?_
  refine lN ?_
  refine fg_nil ?_
  refine sq_n ?_
  refine xG ?_
  refine lB rfl rfl (bI_add (n:=i+1) (by omega) (by omega)) ?_
  refine R0 2 O ?_
  exact lq_n (by omega) ⟨i+1,(q+a),_,_,_,LZ.m [_] O,rfl,by omega,by rw [sumQ_tk ha,hq],(hql.add hab).mono (by rw [Nat.succ_mul];omega),hm16,hn16⟩
 refine fx_eseq ?_
 refine lq_e ?_
 refine sq_n ?_
 refine xR ?_
 refine fl_ld4 rfl mem0 rfl ?_
 refine fl_st4 rfl rfl P1 ?_
 refine lN ?_
 refine xT ?_
 refine rQ (.inl rfl) (rc4 rfl Y1 rn) ?_
 rw [List.take_of_length_le (by omega)] at hq
 subst hq
 exact ⟨_,_,rfl,hqm,hqn⟩
theorem c_profit_part {k:Nat} (hk:11≤k) {z:Mem} {x1:PRat} {c1 d1:C} (hx1:CZ 1 RW z c1 x1.nm) (hy1:CZ 1 RW z d1 x1.dm) (h1:x1.nm.length≤1000) (h2:x1.dm.length≤1000):FC (E k) 154 [.agg (kR x1 c1 d1)] z fun v _=>v=bool_ (partB x1):=by
 refine fc_of (tS_get154) (by omega) (len1 rfl) fun B j hj=>?_
 refine xR ?_
 refine fl_bx rfl fun b1=>?_
 refine R0 2 O ?_
 refine fx_drwS ?_
 refine gl4 O O Ht O ?_
 refine gE z (c_rat_Right (by omega) hx1 hy1 (Nat.le_trans h1 (by decide)) (Nat.le_trans h2 (by decide))) O O O O fun z4 hz4=>?_
 refine G1 3 O ?_
 refine fg_splitB 5 rfl (fun hg5=>?_) (fun hg5=>?_)
 ·refine gl4 O O Ht O ?_
  refine gE z4 (c_rat_Sign (by omega) hx1.m hy1.m (Nat.le_trans h1 (by decide)) (Nat.le_trans h2 (by decide))) O O O O fun z7 hz7=>?_
  refine G1 12 O ?_
  refine fg_splitD 10 rfl (fun hg10=>?_) (fun hg10=>?_)
  ·refine gl4 O O Ht O ?_
   refine gC z7 (c_rat_Whole (by omega) (by decide) (by decide)) O O O O fun v12 z12 _ hv12=>?_
   have hv12:=qv_op hv12
   obtain ⟨c12,d12,hv,hm12,hn12⟩:=hv12
   subst hv
   have hm12:=hm12.mono (zAq (hz4.trans hz7))
   have hn12:=hn12.mono (zAq (hz4.trans hz7))
   refine gC z12 (c_rat_Cmp (by omega) hx1.m hy1.m (Nat.le_trans h1 (by decide)) (Nat.le_trans h2 (by decide)) (hm12.mono zd_le) (hn12.mono zd_le) lq_one.1 lq_one.2) O O O O fun v13 z13 _ hv13=>?_
   rw [valR_c] at hv13
   subst hv13
   refine G0 12 O ?_
   refine xT ?_
   exact rI O (congrArg bool_ (part_3 hg5 hg10))
  refine G0 96 O ?_
  refine xT ?_
  exact rI O (congrArg bool_ (part_2 hg10))
 refine G0 3088 O ?_
 refine xT ?_
 exact rI O (congrArg bool_ (part_1 hg5))
theorem c_profit_runner_is {k:Nat} (hk:1≤k) {z:Mem} {br n:Nat} {e:Int} {cR cI cM cP cS:C} (hb:At z br 0 [cR,cI,cM,Ci (n:Nat),cP,cS]):FC (E k) 152 [Ap br,Ai e] z fun v _=>v=bool_ (isE n e):=by
 refine fc_of (tS_get152) (by omega) (len1 rfl) fun B j hj=>?_
 refine R4 64 O ?_
 refine fl_splitD 7 rfl (fun hg7=>?_) (fun hg7=>?_)
 ·refine R1 4 O ?_
  refine lD rfl ?_
  refine fl_nilck rfl ?_
  refine lD rfl ?_
  refine lF rfl ?_
  refine lD rfl ?_
  refine fl_ldA (off:=3) rfl hb rfl (by simp) rfl ?_
  refine R0 12 O ?_
  refine xT ?_
  exact rI O (congrArg bool_ (is_1 hg7))
 refine R0 384 O ?_
 refine xT ?_
 exact rI O (congrArg bool_ (is_2 hg7))
theorem c_profit_noughts {k:Nat} (hk:6≤k) {z:Mem} {m:Nat} (hm:m≤1000):FCt (E k) 80 [Az m] z [] fun v z' H'=>∃ c cs,v=.c c∧H'=[rowT 35 4 (c,cs,List.replicate m (0:Rat))]∧CL 4 RV (zd z z') cs (List.replicate m 0):=by
 refine fct_of (tS_get80) (by omega) (len1 rfl) fun B j hj=>?_
 refine R4 16 O ?_
 refine fl_mkS (n:=m) rfl rfl rfl rfl (by omega) (by omega) fun b6=>?_
 refine R2 16 O ?_
 refine fl_len rfl rfl ?_
 refine R0 2 O ?_
 refine fx_seq (fx_block ?_)
 refine fx_loop (fun n fs=>∃ (i:Nat) (csd:List C) (csr:List C) (zz:Mem),LZ z zz [.blk b6 (.cells 35 (csd++csr))] [(3,.c (.sl b6 0 m 4)),(7,.c (.sl b6 0 m 4)),(8,Az m),(9,Az i)] fs∧n=m - i∧(i≤m)∧(csr.length=(m - i) * 4)∧(CL 4 RV (zd z zz) csd (List.replicate i 0))) ?_ _ ⟨0,[],_,_,LZ.m [] O,rfl,Nat.zero_le _,nz_len,CL.nil⟩ (kK (by omega))
 intro n fs ⟨i,csd,csr,zz,hL0,hmz0,hi,hr,hc⟩
 refine hL0.open fun e hzz=>?_
 refine R5 8 O ?_
 refine xD rfl (fun hc10=>?_) (fun hc10=>?_)
 ·refine fx_kseq ?_
  refine fx_seq (fx_block ?_)
  refine R5 8 O ?_
  refine xG ?_
  refine R1 4 O ?_
  have hlt:i<m:=by omega
  have hcl:csd.length=i * 4:=by have:=hc.1;rwa [List.length_replicate] at this
  refine lZ zz (c_rat_Whole (by omega) (by decide) (by decide)) rfl rfl fun v14 z14 _ hv14=>?_
  have hv14:=qv_op hv14
  obtain ⟨c14,d14,hv,hm14,hn14⟩:=hv14
  subst hv
  have hm14:=hm14.mono (zAq (hzz))
  have hn14:=hn14.mono (zAq (hzz))
  refine fl_iad rfl rfl (i) (rfl) (by omega) ?_
  refine fl_stE (cs':=(csd++[Cb (decide ((0:Rat).num<0)),c14,Cb (decide (((0:Rat).den:Int)<0)),d14])++csr.drop 4) rfl rfl rfl rep0 (nz_set hcl hr hlt) rfl (by rw [List.length_append];omega) ?_
  refine lN ?_
  refine sq_n ?_
  refine xG ?_
  refine lB rfl rfl (bI_add (n:=i+1) (by omega) (by omega)) ?_
  refine R0 2 O ?_
  exact lq_n (by omega) ⟨i+1,(csd++[Cb (decide ((0:Rat).num<0)),c14,Cb (decide (((0:Rat).den:Int)<0)),d14]),(csr.drop 4),_,LZ.m [] O,rfl,by omega,by rw [List.length_drop];omega,by rw [List.replicate_succ'];exact ((hc.mono (zd_mono zI))).append (CL.one rfl ⟨_,_,rfl,hm14,hn14⟩)⟩
 refine fx_eseq ?_
 refine lq_e ?_
 refine sq_n ?_
 refine xR ?_
 have hcl:csd.length=i * 4:=by have:=hc.1;rwa [List.length_replicate] at this
 rw [show i=m by omega] at hc hcl
 refine fl_asrowC (p:=[]) (n:=m) (size:=4) (cs':=csd) rfl (by rw [List.eq_nil_of_length_eq_zero (l:=csr) (by omega),List.append_nil]) hcl ?_
 refine R0 4 O ?_
 refine xT ?_
 refine ret_h (.inl rfl) (rt rfl rn) (List.Sublist.refl _) ?_
 exact ⟨_,csd,rfl,by rw [rowT,List.length_replicate];rfl,hc⟩
open Go.CE Go.RowKit Go.Num
open Go.Eng (setL)
instance:RMono (RE Value.bool):=⟨fun _ h=>h⟩
theorem isE_i {n:Nat} {e:Int} (h:isE n e=true):0≤e∧e<(n:Int):=by
 rw [isE,Bool.and_eq_true] at h
 exact ⟨of_decide_eq_true h.1,of_decide_eq_true h.2⟩
section
variable {ms:List (List Bool)} {g:PGood} {y:Nat} {r0:List Bool} {x1 x2:Bool}
theorem both_1 (hr:ms[y]? = some r0) (h1:r0[g.py.toNat]? = some x1) (h2:r0[g.pr.toNat]? = some x2) (h:x1=true):x2=bothM ms g y:=by
 simp only [bothM,mb,hr,h1,h2,h,Option.getD_some,Bool.true_and]
theorem both_2 (hr:ms[y]? = some r0) (h1:r0[g.py.toNat]? = some x1) (h:x1=false):false=bothM ms g y:=by
 simp only [bothM,mb,hr,h1,h,Option.getD_some,Bool.false_and]
end
theorem c_profit_runner_right_1 {k:Nat} (hk:1≤k) {z:Mem} {v:AV} {l:List Bool} {bx br n0:Nat} {cR cI cM cP cS:C} (hx:SZ 1 (RE Value.bool) z v l) (hb0:At z bx 0 [.ptr br 0]) (hb:At z br 0 [cR,cI,cM,Ci (n0:Nat),cP,cS]):FC (E k) 151 [v,Ap bx] z fun u _=>u=bool_ (!decide ((l.length:Int)=(n0:Int))):=by
 refine fc_of (tS_get151) (by omega) (len1 rfl) fun B j hj=>?_
 refine R4 24 O ?_
 refine fl_lenS rfl hx ?_
 refine fl_ldA1 rfl hb0 ?_
 refine fl_nilck rfl ?_
 refine lF rfl ?_
 refine fl_ldA (off:=3) rfl hb rfl (by simp) rfl ?_
 refine R0 4 O ?_
 refine xT ?_
 refine rI O ?_
 rfl
theorem c_slices_IndexFunc_____bool___bool_ {k:Nat} (hk:2≤k) {z:Mem} {v:AV} {l:List (List Bool)} {bx br n0:Nat} {cR cI cM cP cS:C} (hx:SZ 1 (RC 1 (RE Value.bool)) z v l) (hb0:At z bx 0 [.ptr br 0]) (hb:At z br 0 [cR,cI,cM,Ci (n0:Nat),cP,cS]):FC (E k) 235 [v,.c (.fn 151 [] [(false,[.ptr bx 0])])] z fun u _=>u=int_ (fstI (fun b=>!decide ((b.length:Int)=(n0:Int))) l):=by
 have hxl:=hx.le
 refine fc_of (tS_get235) (by omega) (len1 rfl) fun B j hj=>?_
 refine R4 48 O ?_
 refine fl_lenS rfl hx ?_
 refine R0 2 O ?_
 refine fx_seq (fx_block ?_)
 refine fx_loop (fun n fs=>∃ (i:Nat),LI z [] [(0,v),(1,.c (.fn 151 [] [(false,[.ptr bx 0])])),(6,v),(7,Az l.length),(8,Az i)] fs∧n=l.length - i∧(i≤l.length)∧(∀ q,q<i→∀ b,l[q]? = some b→(fun b=>!decide ((b.length:Int)=(n0:Int))) b=false)) ?_ _ ⟨0,LI.m [] O,rfl,Nat.zero_le _,fun q hq=>absurd hq (Nat.not_lt_zero _)⟩ (kK (by omega))
 intro n fs ⟨i,hL0,hmz0,hi,hp⟩
 refine hL0.open fun e zl0 _=>?_
 refine R5 8 O ?_
 refine xD rfl (fun hc9=>?_) (fun hc9=>?_)
 ·refine fx_kseq ?_
  refine fx_seq (fx_block ?_)
  refine R4 160 O ?_
  refine fl_iadS (zz:=zl0) rfl rfl hx.m i rfl _ (List.getElem?_eq_getElem (by omega)) fun b14 p14 cs at14 hR=>?_
  obtain ⟨c14,hcs,q14⟩:=hR
  subst hcs
  refine fl_ldA (off:=0) rfl at14 rfl (by simp) rfl ?_
  refine fl_callvZ zl0 rfl (c_profit_runner_right_1 (by omega) q14 hb0.m hb.m) rfl rfl fun v16 z16 _ hv16=>?_
  subst hv16
  refine lN ?_
  refine fx_condB rfl (fun hc16=>?_) (fun hc16=>?_)
  ·refine R5 8 O ?_
   refine xT ?_
   refine sq_r ?_
   refine lq_r ?_
   refine sq_r ?_
   exact rI O (congrArg int_ (fst_at (l:=l) (i:=i) (List.getElem?_eq_getElem (by omega)) hc16 hp).symm)
  refine fx_skip ?_
  refine sq_n ?_
  refine xG ?_
  refine lB rfl rfl (bI_add (n:=i+1) (by omega) (by omega)) ?_
  refine R0 2 O ?_
  exact lq_n (by omega) ⟨i+1,LI.m [] O,rfl,by omega,p_step hp (List.getElem?_eq_getElem (by omega)) (hc16)⟩
 refine fx_eseq ?_
 refine lq_e ?_
 refine sq_n ?_
 refine R5 4 O ?_
 refine xT ?_
 exact rI O (congrArg int_ (fst_no (l:=l) (i:=i) (by omega) hp).symm)
theorem c_slices_ContainsFunc_____bool___bool_ {k:Nat} (hk:3≤k) {z:Mem} {v:AV} {l:List (List Bool)} {bx br n0:Nat} {cR cI cM cP cS:C} (hx:SZ 1 (RC 1 (RE Value.bool)) z v l) (hb0:At z bx 0 [.ptr br 0]) (hb:At z br 0 [cR,cI,cM,Ci (n0:Nat),cP,cS]):FC (E k) 150 [v,.c (.fn 151 [] [(false,[.ptr bx 0])])] z fun u _=>u=bool_ (decide (fstI (fun b=>!decide ((b.length:Int)=(n0:Int))) l ≥ 0)):=by
 refine fc_of (tS_get150) (by omega) (len1 rfl) fun B j hj=>?_
 refine R4 40 O ?_
 refine lE z (c_slices_IndexFunc_____bool___bool_ (by omega) hx hb0 hb) O O fun z7 _=>?_
 refine R0 4 O ?_
 refine xT ?_
 refine rI O ?_
 rfl
theorem c_profit_runner_sold_1 {k:Nat} (hk:1≤k) {z:Mem} {g:PGood} {c0 c1 c2 c3:C} (hg0:CZ 1 RW z c0 g.mg.nm) (hg1:CZ 1 RW z c1 g.mg.dm) (hg2:CZ 1 RW z c2 g.us.nm) (hg3:CZ 1 RW z c3 g.us.dm) {b:Nat} {s:ByteArray} {cs0:List C} (hb:At z b 0 (Cs s::cs0)):FC (E k) 158 [.agg [Cs g.id,Ci g.yr,Ci g.py,Ci g.pr,Cb g.mg.n,c0,Cb g.mg.d,c1,Cb g.us.n,c2,Cb g.us.d,c3],Ap b] z fun u _=>u=bool_ (decide (g.id=s)):=by
 refine fc_of (tS_get158) (by omega) (len1 rfl) fun B j hj=>?_
 refine xR ?_
 refine fl_bx rfl fun b2=>?_
 refine R2 8 O ?_
 refine fl_ld1 rfl mem0 rfl ?_
 refine lF rfl ?_
 refine fl_ldA (off:=0) rfl hb rfl (by simp) rfl ?_
 refine lB rfl rfl (b_eqlS _ _) ?_
 refine R0 2 O ?_
 refine xT ?_
 refine rI O ?_
 rfl
theorem c_slices_IndexFunc___profit_Good_profit_Good_ {k:Nat} (hk:2≤k) {z:Mem} {v:AV} {l:List PGood} {b0:Nat} {s:ByteArray} {cs0:List C} (hx:SZ 12 RGood z v l) (hb:At z b0 0 (Cs s::cs0)):FC (E k) 157 [v,.c (.fn 158 [] [(false,[.ptr b0 0])])] z fun u _=>u=int_ (fstI (fun b=>decide (b.id=s)) l):=by
 have hxl:=hx.le
 refine fc_of (tS_get157) (by omega) (len1 rfl) fun B j hj=>?_
 refine R4 48 O ?_
 refine fl_lenS rfl hx ?_
 refine R0 2 O ?_
 refine fx_seq (fx_block ?_)
 refine fx_loop (fun n fs=>∃ (i:Nat),LI z [] [(0,v),(1,.c (.fn 158 [] [(false,[.ptr b0 0])])),(6,v),(7,Az l.length),(8,Az i)] fs∧n=l.length - i∧(i≤l.length)∧(∀ q,q<i→∀ b,l[q]? = some b→(fun b=>decide (b.id=s)) b=false)) ?_ _ ⟨0,LI.m [] O,rfl,Nat.zero_le _,fun q hq=>absurd hq (Nat.not_lt_zero _)⟩ (kK (by omega))
 intro n fs ⟨i,hL0,hmz0,hi,hp⟩
 refine hL0.open fun e zl0 _=>?_
 refine R5 8 O ?_
 refine xD rfl (fun hc9=>?_) (fun hc9=>?_)
 ·refine fx_kseq ?_
  refine fx_seq (fx_block ?_)
  refine R4 160 O ?_
  refine fl_iadS (zz:=zl0) rfl rfl hx.m i rfl _ (List.getElem?_eq_getElem (by omega)) fun b14 p14 cs at14 hR=>?_
  obtain ⟨e0,e1,e2,e3,hcs,q0,q1,q2,q3⟩:=hR
  subst hcs
  refine fl_ldA (off:=0) rfl at14 rfl (by simp) rfl ?_
  refine fl_callvZ zl0 rfl (c_profit_runner_sold_1 (by omega) q0 q1 q2 q3 hb.m) rfl rfl fun v16 z16 _ hv16=>?_
  subst hv16
  refine lN ?_
  refine xD rfl (fun hc16=>?_) (fun hc16=>?_)
  ·refine R5 8 O ?_
   refine xT ?_
   refine sq_r ?_
   refine lq_r ?_
   refine sq_r ?_
   exact rI O (congrArg int_ (fst_at (l:=l) (i:=i) (List.getElem?_eq_getElem (by omega)) (decide_eq_true hc16) hp).symm)
  refine fx_skip ?_
  refine sq_n ?_
  refine xG ?_
  refine lB rfl rfl (bI_add (n:=i+1) (by omega) (by omega)) ?_
  refine R0 2 O ?_
  exact lq_n (by omega) ⟨i+1,LI.m [] O,rfl,by omega,p_step hp (List.getElem?_eq_getElem (by omega)) (decide_eq_false hc16)⟩
 refine fx_eseq ?_
 refine lq_e ?_
 refine sq_n ?_
 refine R5 4 O ?_
 refine xT ?_
 exact rI O (congrArg int_ (fst_no (l:=l) (i:=i) (by omega) hp).symm)
theorem c_profit_runner_right_2 {k:Nat} (hk:12≤k) {z:Mem} {a:PSale} {c0 c1:C} (hs0:CZ 1 RW z c0 a.sh.nm) (hs1:CZ 1 RW z c1 a.sh.dm) (h1:a.sh.nm.length≤1000) (h2:a.sh.dm.length≤1000):FC (E k) 156 [.agg [Cs a.id,Ci a.yr,Cb a.sh.n,c0,Cb a.sh.d,c1]] z fun u _=>u=bool_ (!partB a.sh):=by
 refine fc_of (tS_get156) (by omega) (len1 rfl) fun B j hj=>?_
 refine xR ?_
 refine fl_bx rfl fun b1=>?_
 refine R2 8 O ?_
 refine fl_ld4 rfl mem0 rfl ?_
 refine lE z (c_profit_part (by omega) hs0 hs1 h1 h2) O O fun z5 _=>?_
 refine R0 4 O ?_
 refine xT ?_
 refine rI O ?_
 rfl
theorem c_slices_IndexFunc___profit_Sale_profit_Sale_ {k:Nat} (hk:13≤k) {z:Mem} {v:AV} {l:List PSale} (hx:SZ 6 RSale z v l) (hs:∀ a,a∈l→a.sh.nm.length≤1000∧a.sh.dm.length≤1000):FC (E k) 238 [v,.c (.fn 156 [] [])] z fun u _=>u=int_ (fstI (fun b=>!partB b.sh) l):=by
 have hxl:=hx.le
 refine fc_of (tS_get238) (by omega) (len1 rfl) fun B j hj=>?_
 refine R4 48 O ?_
 refine fl_lenS rfl hx ?_
 refine R0 2 O ?_
 refine fx_seq (fx_block ?_)
 refine fx_loop (fun n fs=>∃ (i:Nat),LI z [] [(0,v),(1,.c (.fn 156 [] [])),(6,v),(7,Az l.length),(8,Az i)] fs∧n=l.length - i∧(i≤l.length)∧(∀ q,q<i→∀ b,l[q]? = some b→(fun b=>!partB b.sh) b=false)) ?_ _ ⟨0,LI.m [] O,rfl,Nat.zero_le _,fun q hq=>absurd hq (Nat.not_lt_zero _)⟩ (kK (by omega))
 intro n fs ⟨i,hL0,hmz0,hi,hp⟩
 refine hL0.open fun e zl0 _=>?_
 refine R5 8 O ?_
 refine xD rfl (fun hc9=>?_) (fun hc9=>?_)
 ·refine fx_kseq ?_
  refine fx_seq (fx_block ?_)
  refine R4 160 O ?_
  refine fl_iadS (zz:=zl0) rfl rfl hx.m i rfl _ (List.getElem?_eq_getElem (by omega)) fun b14 p14 cs at14 hR=>?_
  obtain ⟨e0,e1,hcs,q0,q1⟩:=hR
  subst hcs
  refine fl_ldA (off:=0) rfl at14 rfl (by simp) rfl ?_
  refine fl_callvZ zl0 rfl (c_profit_runner_right_2 (by omega) q0 q1 (hs _ (List.getElem_mem (by omega))).1 (hs _ (List.getElem_mem (by omega))).2) rfl rfl fun v16 z16 _ hv16=>?_
  subst hv16
  refine lN ?_
  refine fx_condB rfl (fun hc16=>?_) (fun hc16=>?_)
  ·refine R5 8 O ?_
   refine xT ?_
   refine sq_r ?_
   refine lq_r ?_
   refine sq_r ?_
   exact rI O (congrArg int_ (fst_at (l:=l) (i:=i) (List.getElem?_eq_getElem (by omega)) hc16 hp).symm)
  refine fx_skip ?_
  refine sq_n ?_
  refine xG ?_
  refine lB rfl rfl (bI_add (n:=i+1) (by omega) (by omega)) ?_
  refine R0 2 O ?_
  exact lq_n (by omega) ⟨i+1,LI.m [] O,rfl,by omega,p_step hp (List.getElem?_eq_getElem (by omega)) (hc16)⟩
 refine fx_eseq ?_
 refine lq_e ?_
 refine sq_n ?_
 refine R5 4 O ?_
 refine xT ?_
 exact rI O (congrArg int_ (fst_no (l:=l) (i:=i) (by omega) hp).symm)
theorem c_slices_ContainsFunc___profit_Sale_profit_Sale_ {k:Nat} (hk:14≤k) {z:Mem} {v:AV} {l:List PSale} (hx:SZ 6 RSale z v l) (hs:∀ a,a∈l→a.sh.nm.length≤1000∧a.sh.dm.length≤1000):FC (E k) 155 [v,.c (.fn 156 [] [])] z fun u _=>u=bool_ (decide (fstI (fun b=>!partB b.sh) l ≥ 0)):=by
 refine fc_of (tS_get155) (by omega) (len1 rfl) fun B j hj=>?_
 refine R4 40 O ?_
 refine lE z (c_slices_IndexFunc___profit_Sale_profit_Sale_ (by omega) hx hs) O O fun z7 _=>?_
 refine R0 4 O ?_
 refine xT ?_
 refine rI O ?_
 rfl
theorem c_profit_runner_both {k:Nat} (hk:1≤k) {z:Mem} {br y:Nat} {cR cI cM cN cP cS:C} {ms:List (List Bool)} {r0:List Bool} {g:PGood} {c0 c1 c2 c3:C} (hg0:CZ 1 RW z c0 g.mg.nm) (hg1:CZ 1 RW z c1 g.mg.dm) (hg2:CZ 1 RW z c2 g.us.nm) (hg3:CZ 1 RW z c3 g.us.dm) (hb:At z br 0 [cR,cI,cM,cN,cP,cS]) (hm:CZ 1 (RC 1 (RE Value.bool)) z cM ms) (hr:ms[y]? = some r0) (hp:isE r0.length g.py=true) (hq:isE r0.length g.pr=true):FC (E k) 159 [Ap br,.agg [Cs g.id,Ci g.yr,Ci g.py,Ci g.pr,Cb g.mg.n,c0,Cb g.mg.d,c1,Cb g.us.n,c2,Cb g.us.d,c3],Az y] z fun u _=>u=bool_ (bothM ms g y):=by
 obtain ⟨hp1,hp2⟩:=isE_i hp
 obtain ⟨hq1,hq2⟩:=isE_i hq
 obtain ⟨x1,hx1⟩:=at_lt (l:=r0) (i:=g.py.toNat) (by omega)
 obtain ⟨x2,hx2⟩:=at_lt (l:=r0) (i:=g.pr.toNat) (by omega)
 refine fc_of (tS_get159) (by omega) (len1 rfl) fun B j hj=>?_
 refine xR ?_
 refine fl_bx rfl fun b4=>?_
 refine R0 2 O ?_
 refine fx_drwS ?_
 refine G1 2 O ?_
 refine gP rfl rfl trivial ?_
 refine fl_nilck rfl (lN ?_)
 refine G1 2 O ?_
 refine fg_ldA (i:=⟨_,_,.load _ _ _⟩) (off:=2) rfl rfl trivial rfl hb ti rfl (by simp) rfl sR ?_
 refine G1 2 O ?_
 refine gP rfl rfl trivial ?_
 refine fl_iadS rfl rfl hm y rfl r0 hr fun b12 p12 cs at12 hR=>lN ?_
 obtain ⟨c12,hcs,q12⟩:=hR
 subst hcs
 refine fg_ldA (i:=⟨_,_,.load _ _ _⟩) (off:=0) rfl rfl trivial rfl at12 ti rfl (by simp) rfl sR ?_
 refine G1 2 O ?_
 refine gl1 O O Ht O ?_
 refine gP rfl rfl trivial ?_
 refine fl_iadS rfl rfl q12 g.py.toNat (by omega) x1 hx1 fun b16 p16 cs at16 hR=>lN ?_
 have hcs:cs=_:=hR
 subst hcs
 refine fg_ldA (i:=⟨_,_,.load _ _ _⟩) (off:=0) rfl rfl trivial rfl at16 ti rfl (by simp) rfl sR ?_
 refine G1 2 O ?_
 refine fg_splitB 18 rfl (fun hg18=>?_) (fun hg18=>?_)
 ·refine G1 2 O ?_
  refine gP rfl rfl rfl ?_
  refine fl_nilck rfl (lN ?_)
  refine G1 2 O ?_
  refine fg_ldA (i:=⟨_,_,.load _ _ _⟩) (off:=2) rfl rfl rfl rfl hb ti rfl (by simp) rfl sR ?_
  refine G1 2 O ?_
  refine gP rfl rfl rfl ?_
  refine fl_iadS rfl rfl hm y rfl r0 hr fun b24 p24 cs at24 hR=>lN ?_
  obtain ⟨c24,hcs,q24⟩:=hR
  subst hcs
  refine fg_ldA (i:=⟨_,_,.load _ _ _⟩) (off:=0) rfl rfl rfl rfl at24 ti rfl (by simp) rfl sR ?_
  refine G1 2 O ?_
  refine gl1 O O Ht O ?_
  refine gP rfl rfl rfl ?_
  refine fl_iadS rfl rfl q24 g.pr.toNat (by omega) x2 hx2 fun b28 p28 cs at28 hR=>lN ?_
  have hcs:cs=_:=hR
  subst hcs
  refine fg_ldA (i:=⟨_,_,.load _ _ _⟩) (off:=0) rfl rfl rfl rfl at28 ti rfl (by simp) rfl sR ?_
  refine G0 6 O ?_
  refine xT ?_
  exact rI O (congrArg bool_ (both_1 hr hx1 hx2 hg18))
 refine G0 12288 O ?_
 refine xT ?_
 exact rI O (congrArg bool_ (both_2 hr hx1 hg18))
open Go.CE Go.RowKit Go.Num
open Go.Eng (setL)
theorem at1p {z:Mem} {b ty:Nat} {c:C} (h:z b (.cells ty [c])):At z b 0 [c]:=⟨_,[c],h,rfl,by simp,rfl⟩
def seenG (o:Nat):List ByteArray→Ents
 | []=>[]
 | s::l=>(.string s,.agg [],o)::seenG (o+1) l
abbrev seenM (l:List ByteArray):Ents:=seenG 0 l
theorem sameK_BA (a b:ByteArray):sameK true (.string a) (.string b)=some (decide (a=b)):=by
 have:=sameK_bs (tx a) (tx b)
 rw [bs_tx,bs_tx] at this
 rw [this]
 congr 1
 exact decide_eq_decide.2 ⟨fun h=>(tx_inj.1 h).symm,fun h=>by rw [h]⟩
def seenB (s:ByteArray) (l:List ByteArray):Bool:=l.any fun a=>decide (a=s)
theorem seenB_t {s:ByteArray} {l:List ByteArray} (h:seenB s l=true):s∈l:=by
 obtain ⟨a,ha,hs⟩:=List.any_eq_true.1 h
 rw [← of_decide_eq_true hs];exact ha
theorem seenB_f {s:ByteArray} {l:List ByteArray} (h:seenB s l=false):¬ s∈l:=fun g=>by
 have:seenB s l=true:=List.any_eq_true.2 ⟨s,g,decide_eq_true rfl⟩
 rw [h] at this;cases this
theorem seen_find (s:ByteArray):∀ (l:List ByteArray) (o:Nat),∃ r,findV true (.string s) (seenG o l)=some r∧r.getD (.agg [])=.agg []∧r.isSome=seenB s l
  | [],o=>⟨none,rfl,rfl,rfl⟩
  | a::l,o=>by
    obtain ⟨r,h1,h2,h3⟩:=seen_find s l (o+1)
    simp only [seenG,findV,sameK_BA]
    by_cases h:s=a
    · subst h;exact ⟨some (.agg []),by simp,rfl,by simp [seenB]⟩
    · refine ⟨r, by rw [decide_eq_false h]; exact h1, h2, ?_⟩
      rw [h3,seenB,seenB,List.any_cons,decide_eq_false fun e=>h e.symm,Bool.false_or]
theorem seen_set (s:ByteArray):∀ (l:List ByteArray) (o ck:Nat),ck=o+l.length→∃ es' n',setM true (.string s) (.agg []) ck (seenG o l)=some (es',n')∧(s ∉ l→es'=seenG o (l++[s])∧n'=ck+1)
 | [],o,ck,h=>⟨_,_,rfl,fun _=>⟨by rw [h];rfl,rfl⟩⟩
 | a::l,o,ck,h=>by
  obtain ⟨es,n',h1,h2⟩:=seen_set s l (o+1) ck (by rw [h,List.length_cons];omega)
  simp only [seenG,setM,sameK_BA]
  by_cases hs:s=a
  ·rw [decide_eq_true hs];exact ⟨_,_,rfl,fun g=>absurd (by rw [hs];exact List.mem_cons_self ..) g⟩
  rw [decide_eq_false hs]
  refine ⟨_,_,by simp only [h1];rfl,fun g=>?_⟩
  obtain ⟨g1,g2⟩:=h2 fun hh=>g (List.mem_cons_of_mem _ hh)
  exact ⟨by rw [g1];rfl,g2⟩
theorem seen_step {goods:List PGood} {i:Nat} {g:PGood} (ha:goods[i]? = some g):∃ es' n',setM true (.string g.id) (.agg []) i (seenM ((goods.take i).map PGood.id))=some (es',n')∧(¬ g.id∈(goods.take i).map PGood.id→es'=seenM ((goods.take (i+1)).map PGood.id)∧n'=i+1):=by
 have hl:=(List.getElem?_eq_some_iff.1 ha).1
 obtain ⟨es',n',h1,h2⟩:=seen_set g.id ((goods.take i).map PGood.id) 0 i (by rw [List.length_map,List.length_take];omega)
 exact ⟨es',n',h1,fun h=>by rw [tk_some ha,List.map_append];exact h2 h⟩
theorem fl_seen {call:Call'} {B:Base} {fs:Sf} {l:List I} {Q:Sf→Prop} {d b n:Nat} {x k:Go.Eng.Od} {s:ByteArray} {ids:List ByteArray} (hx:fs.ev x=.c (.mp b)) (hk:fs.ev k=.c (Cs s)) (hm:HA.blk b (.mp (seenM ids) n)∈fs.H)
  (hw:FL call B l (fs.put d (.tup [.agg [],Ab (seenB s ids)])) Q):FL call B (⟨some d,none,.look true [] true x k true⟩::l) fs Q:=by
 obtain ⟨r,h1,h2,h3⟩:=seen_find s ids 0
 refine fl_lookOkH hx hk hm h1 (v:=.agg []) h2 ?_
 rw [h3]
 exact hw
theorem nd_one {l:List ByteArray} {s:ByteArray} (h:l.Nodup) (g:¬ s∈l):(l++[s]).Nodup:=by
 rw [List.nodup_append]
 exact ⟨h,by simp,fun a ha b hb e=>g (by simp at hb;rw [← hb,← e];exact ha)⟩
theorem fst_none {α:Type} {p:α→Bool} {l:List α} (h:¬ fstI p l ≥ 0):∀ a,a∈l→p a=false:=fun a ha=>by
 unfold fstI at h
 cases hf:l.findIdx? p with
 | none=>exact List.findIdx?_eq_none_iff.1 hf a ha
 | some i=>rw [hf] at h;simp at h
section
variable {ms:List (List Bool)} {n0:Nat} {pa:Int} {goods:List PGood} {sales:List PSale} {g:PGood} {i:Nat}
theorem right_m (h:fstI (fun b:List Bool=>!decide ((b.length:Int)=(n0:Int))) ms ≥ 0) (hn:n0=entsN ms):¬ RightG ms pa goods sales:=fun r=>by
 obtain ⟨j,b,_,hb,hp⟩:=fst_get h
 have:=r.m b (List.mem_of_getElem? hb)
 rw [this,hn] at hp
 simp at hp
theorem right_p (hn:n0=entsN ms) (h:(!isE n0 pa)=true):¬ RightG ms pa goods sales:=fun r=>by
 rw [hn,r.p] at h;cases h
theorem right_g (hg:g∈goods) (h:goodB ms g=false):¬ RightG ms pa goods sales:=fun r=>by
 rw [r.g g hg] at h;cases h
theorem right_tw (ha:goods[i]? = some g) (h:g.id∈(goods.take i).map PGood.id):¬ RightG ms pa goods sales:=fun r=>by
 have hnd:=r.nd
 rw [← List.take_append_drop i goods,List.map_append,List.nodup_append] at hnd
 refine hnd.2.2 g.id h g.id (List.mem_map.2 ⟨g,?_,rfl⟩) rfl
 exact List.mem_of_getElem? (i:=0) (by rw [List.getElem?_drop,Nat.add_zero];exact ha)
theorem gB1 (h:g.yr<0):goodB ms g=false:=by
 have:¬ 0≤g.yr:=Int.not_le.2 h
 simp [goodB,isE,this]
theorem gB2 (h:g.yr ≥ (ms.length:Int)):goodB ms g=false:=by
 have:¬ g.yr<(ms.length:Int):=Int.not_lt.2 h
 simp [goodB,isE,this]
theorem not_b {b:Bool} (h:(!b)=true):b=false:=by cases b<;>simp_all
theorem not_c {b:Bool} (h:(!b)=false):b=true:=by cases b<;>simp_all
theorem gB3 (hn:n0=entsN ms) (h:(!isE n0 g.py)=true):goodB ms g=false:=by simp [goodB,← hn,not_b h]
theorem gB4 (hn:n0=entsN ms) (h:(!isE n0 g.pr)=true):goodB ms g=false:=by simp [goodB,← hn,not_b h]
theorem gB5 (h:(!rightR (rRaw g.mg))=true):goodB ms g=false:=by simp [goodB,not_b h]
theorem gB6 (h:(rv g.mg).num.sign<0):goodB ms g=false:=by
 have:¬ 0≤rv g.mg:=fun hh=>by have:=sg_ge.2 hh;omega
 simp [goodB,this]
theorem gB7 (h:(!partB g.us)=true):goodB ms g=false:=by simp [goodB,not_b h]
theorem gB8 (hn:n0=entsN ms) (h1:¬ g.yr<0) (h2:¬ g.yr ≥ (ms.length:Int)) (h3:(!isE n0 g.py)=false) (h4:(!isE n0 g.pr)=false) (h5:(!rightR (rRaw g.mg))=false) (h6:¬ (rv g.mg).num.sign<0) (h7:(!partB g.us)=false):goodB ms g=true:=by
 have g1:0≤g.yr:=Int.not_lt.1 h1
 have g2:g.yr<(ms.length:Int):=Int.not_le.1 h2
 have g3:0≤rv g.mg:=sg_ge.1 (Int.not_lt.1 h6)
 simp only [goodB,isE,← hn,decide_eq_true g1,decide_eq_true g2,decide_eq_true g3,not_c h5,not_c h7,Bool.and_true,Bool.true_and]
 have e3:=not_c h3
 have e4:=not_c h4
 simp only [isE] at e3 e4
 rw [e3,e4];rfl
theorem right_yes (hn:n0=entsN ms) (h1:¬ fstI (fun b:List Bool=>!decide ((b.length:Int)=(n0:Int))) ms ≥ 0) (h2:(!isE n0 pa)=false) (h3:(goods.map PGood.id).Nodup) (h4:∀ g,g∈goods→goodB ms g=true) :
  ∃ b:Bool,bool_ (!decide (fstI (fun b:PSale=>!partB b.sh) sales ≥ 0))=bool_ b∧(b=true↔RightG ms pa goods sales):=by
 refine ⟨_,rfl,⟨fun h=>⟨fun r hr=>?_,by rw [← hn];exact not_c h2,h3,h4,fun s hs=>?_⟩,fun r=>?_⟩⟩
 ·have:=fst_none h1 r hr
  simp at this
  omega
 ·have h:=fst_none (of_decide_eq_false (not_b h)) s hs
  exact not_c h
 have:¬ fstI (fun b:PSale=>!partB b.sh) sales ≥ 0:=fun h=>by
  obtain ⟨j,b,_,hb,hp⟩:=fst_get h
  rw [r.s b (List.mem_of_getElem? hb)] at hp
  cases hp
 rw [decide_eq_false this];rfl
end
theorem c_profit_runner_right {k:Nat} (hk:15≤k) {z:Mem} {br n0:Nat} {pa:Int} {cR cI cM cS:C} {gv sv:AV} {ms:List (List Bool)} {goods:List PGood} {sales:List PSale} (hb:At z br 0 [cR,cI,cM,Ci (n0:Nat),Ci pa,cS]) (hm:CZ 1 (RC 1 (RE Value.bool)) z cM ms) (hn0:n0=entsN ms) (hG:SZ 12 RGood z gv goods) (hGs:∀ g,g∈goods→(g.mg.nm.length≤1000∧g.mg.dm.length≤1000)∧g.us.nm.length≤1000∧g.us.dm.length≤1000) (hS:SZ 6 RSale z sv sales) (hSs:∀ a,a∈sales→a.sh.nm.length≤1000∧a.sh.dm.length≤1000):FC (E k) 78 [Ap br,gv,sv] z fun u _=>∃ b:Bool,u=bool_ b∧(b=true↔RightG ms pa goods sales):=by
 have hgl:=hG.le
 have hsl:=hS.le
 refine fc_of (tS_get78) (by omega) (len1 rfl) fun B j hj=>?_
 refine xR ?_
 refine fl_box rfl rfl fun b3=>?_
 refine fl_frzZ z (p:=[]) rfl rfl rfl (fun _ h=>h) fun zffb _ fb=>?_
 refine R3 4 O ?_
 refine fx_drwS ?_
 refine fg_ldA (i:=⟨_,_,.load _ _ _⟩) (off:=0) rfl rfl trivial rfl (at1p fb) ti rfl (by simp) rfl sR ?_
 refine gP rfl rfl trivial ?_
 refine fl_nilck rfl (lN ?_)
 refine G1 2 O ?_
 refine fg_ldA (i:=⟨_,_,.load _ _ _⟩) (off:=2) rfl rfl trivial rfl hb ti rfl (by simp) rfl sR ?_
 refine gP rfl rfl trivial ?_
 refine fl_mkf rfl rfl (lN ?_)
 refine gE zffb (c_slices_ContainsFunc_____bool___bool_ (by omega) hm.m (at1p fb) hb.m) O O O O fun z17 _=>?_
 refine G1 3 O ?_
 refine fg_splitD 18 rfl (fun hg18=>?_) (fun hg18=>?_)
 ·refine G0 256 O ?_
  refine R5 32 O ?_
  refine fx_rseq ?_
  exact rI O ⟨false,rfl,⟨fun h=>(by cases h),fun h=>absurd h (right_m hg18 hn0)⟩⟩
 refine fg_ldA (i:=⟨_,_,.load _ _ _⟩) (off:=0) rfl rfl rfl rfl (at1p fb) ti rfl (by simp) rfl sR ?_
 refine fg_ldA (i:=⟨_,_,.load _ _ _⟩) (off:=0) rfl rfl rfl rfl (at1p fb) ti rfl (by simp) rfl sR ?_
 refine gP rfl rfl rfl ?_
 refine fl_nilck rfl (lN ?_)
 refine G1 2 O ?_
 refine fg_ldA (i:=⟨_,_,.load _ _ _⟩) (off:=4) rfl rfl rfl rfl hb ti rfl (by simp) rfl sR ?_
 refine gE z17 (c_profit_runner_is (by omega) hb.m) O O O O fun z24 _=>?_
 refine G0 4 O ?_
 refine fx_cseq ?_
 refine fx_condB rfl (fun hc26=>?_) (fun hc26=>?_)
 ·refine R5 8 O ?_
  refine fx_rseq ?_
  exact rI O ⟨false,rfl,⟨fun h=>(by cases h),fun h=>absurd h (right_p hn0 hc26)⟩⟩
 refine R4 4 O ?_
 refine fl_mkm fun b27=>?_
 refine R2 25 O ?_
 refine fl_lenS rfl hG ?_
 refine R0 2 O ?_
 refine fx_seq (fx_block ?_)
 refine fx_loop (fun n fs=>∃ (i:Nat) (zz:Mem),LZ z24 zz [.blk b27 (.mp (seenM ((goods.take i).map PGood.id)) i)] [(1,gv),(2,sv),(3,Ap b3),(7,.c (.mp b27)),(28,gv),(29,Az goods.length),(30,Az i)] fs∧n=goods.length - i∧(i≤goods.length)∧(((goods.take i).map PGood.id).Nodup)∧(∀ g,g∈goods.take i→goodB ms g=true)∧(zz b3 (.cells 189 [.ptr br 0]))) ?_ _ ⟨0,_,LZ.m [] O,rfl,Nat.zero_le _,List.nodup_nil,fun g hg=>absurd hg List.not_mem_nil,(zI _ _ fb)⟩ (kK (by omega))
 intro n fs ⟨i,zz,hL0,hmz0,hi,hnd,hgb,fb1⟩
 refine hL0.open fun e _=>?_
 refine R5 8 O ?_
 refine xD rfl (fun hc31=>?_) (fun hc31=>?_)
 ·refine fx_kseq ?_
  refine fx_seq (fx_block ?_)
  refine xR ?_
  obtain ⟨g,ha⟩:=at_lt (l:=goods) (i:=i) (by omega)
  obtain ⟨⟨hm1,hm2⟩,hu1,hu2⟩:=hGs g (List.mem_of_getElem? ha)
  obtain ⟨es1,ck1,hset,hnew⟩:=seen_step ha
  refine fl_iadS (zz:=zz) rfl rfl hG.m i rfl g ha fun b32 p32 cs at32 hR=>?_
  obtain ⟨e0,e1,e2,e3,hcs,q0,q1,q2,q3⟩:=hR
  subst hcs
  refine fl_ldA (off:=0) rfl at32 rfl (by simp) rfl ?_
  refine fl_alloc fun b9=>?_
  refine fl_stAll rfl rfl rfl rfl rep0 ?_
  refine lN ?_
  refine R4 8 O ?_
  refine fl_ld1 rfl mem0 rfl ?_
  refine fl_seen rfl rfl Y1 ?_
  refine R1 9 O ?_
  refine fl_alloc fun b10=>?_
  refine fl_st (ds:=[]) rfl rfl rfl rep0 rfl (by decide) ?_
  refine R2 17 O ?_
  refine fl_ld1 rfl Y1 rfl ?_
  refine fl_build rfl ?_
  refine fl_mupd rfl rfl rfl hset P2 ?_
  refine lN ?_
  refine fx_drwS ?_
  refine G1 7 O ?_
  refine fg_splitB 46 rfl (fun hg46=>?_) (fun hg46=>?_)
  ·refine G0 71485706223632 O ?_
   refine R5 8 O ?_
   refine xT ?_
   refine sq_r ?_
   refine lq_r ?_
   refine sq_r ?_
   exact rI O ⟨false,rfl,⟨fun h=>(by cases h),fun h=>absurd h (right_tw ha (seenB_t hg46))⟩⟩
  refine G1 2 O ?_
  refine gl1 O O (.inr Y1) O ?_
  refine G1 12 O ?_
  refine fg_splitD 51 rfl (fun hg51=>?_) (fun hg51=>?_)
  ·refine G0 2233928319488 O ?_
   refine R5 8 O ?_
   refine xT ?_
   refine sq_r ?_
   refine lq_r ?_
   refine sq_r ?_
   exact rI O ⟨false,rfl,⟨fun h=>(by cases h),fun h=>absurd h (right_g (List.mem_of_getElem? ha) (gB1 hg51))⟩⟩
  refine G1 2 O ?_
  refine gl1 O O (.inr Y1) O ?_
  refine fg_ldA (i:=⟨_,_,.load _ _ _⟩) (off:=0) rfl rfl rfl rfl (at1p fb1) ti rfl (by simp) rfl sR ?_
  refine gP rfl rfl rfl ?_
  refine fl_nilck rfl (lN ?_)
  refine G1 2 O ?_
  refine fg_ldA (i:=⟨_,_,.load _ _ _⟩) (off:=2) rfl rfl rfl rfl hb ti rfl (by simp) rfl sR ?_
  refine gP rfl rfl rfl ?_
  refine fl_lenS rfl hm (lN ?_)
  refine G1 12 O ?_
  refine fg_splitD 61 rfl (fun hg61=>?_) (fun hg61=>?_)
  ·refine G0 2181570624 O ?_
   refine R5 8 O ?_
   refine xT ?_
   refine sq_r ?_
   refine lq_r ?_
   refine sq_r ?_
   exact rI O ⟨false,rfl,⟨fun h=>(by cases h),fun h=>absurd h (right_g (List.mem_of_getElem? ha) (gB2 hg61))⟩⟩
  refine fg_ldA (i:=⟨_,_,.load _ _ _⟩) (off:=0) rfl rfl rfl rfl (at1p fb1) ti rfl (by simp) rfl sR ?_
  refine G1 2 O ?_
  refine gl1 O O (.inr Y1) O ?_
  refine gE zz (c_profit_runner_is (by omega) hb.m) O O O O fun z65 _=>?_
  refine G1 12 O ?_
  refine fg_splitB 68 rfl (fun hg68=>?_) (fun hg68=>?_)
  ·refine G0 17043520 O ?_
   refine R5 8 O ?_
   refine xT ?_
   refine sq_r ?_
   refine lq_r ?_
   refine sq_r ?_
   exact rI O ⟨false,rfl,⟨fun h=>(by cases h),fun h=>absurd h (right_g (List.mem_of_getElem? ha) (gB3 hn0 hg68))⟩⟩
  refine fg_ldA (i:=⟨_,_,.load _ _ _⟩) (off:=0) rfl rfl rfl rfl (at1p fb1) ti rfl (by simp) rfl sR ?_
  refine G1 2 O ?_
  refine gl1 O O (.inr Y1) O ?_
  refine gE z65 (c_profit_runner_is (by omega) hb.m) O O O O fun z72 _=>?_
  refine G1 12 O ?_
  refine fg_splitB 75 rfl (fun hg75=>?_) (fun hg75=>?_)
  ·refine G0 133152 O ?_
   refine R5 8 O ?_
   refine xT ?_
   refine sq_r ?_
   refine lq_r ?_
   refine sq_r ?_
   exact rI O ⟨false,rfl,⟨fun h=>(by cases h),fun h=>absurd h (right_g (List.mem_of_getElem? ha) (gB4 hn0 hg75))⟩⟩
  refine G1 2 O ?_
  refine gl4 O O (.inr Y1) O ?_
  refine gE z72 (c_rat_Right (by omega) q0.m q1.m (Nat.le_trans hm1 (by decide)) (Nat.le_trans hm2 (by decide))) O O O O fun z78 _=>?_
  refine G1 12 O ?_
  refine fg_splitB 81 rfl (fun hg81=>?_) (fun hg81=>?_)
  ·refine G0 2080 O ?_
   refine R5 8 O ?_
   refine xT ?_
   refine sq_r ?_
   refine lq_r ?_
   refine sq_r ?_
   exact rI O ⟨false,rfl,⟨fun h=>(by cases h),fun h=>absurd h (right_g (List.mem_of_getElem? ha) (gB5 hg81))⟩⟩
  refine G1 2 O ?_
  refine gl4 O O (.inr Y1) O ?_
  refine gE z78 (c_rat_Sign (by omega) q0.m q1.m (Nat.le_trans hm1 (by decide)) (Nat.le_trans hm2 (by decide))) O O O O fun z84 _=>?_
  refine G1 12 O ?_
  refine fg_splitD 87 rfl (fun hg87=>?_) (fun hg87=>?_)
  ·refine G0 32 O ?_
   refine R5 8 O ?_
   refine xT ?_
   refine sq_r ?_
   refine lq_r ?_
   refine sq_r ?_
   exact rI O ⟨false,rfl,⟨fun h=>(by cases h),fun h=>absurd h (right_g (List.mem_of_getElem? ha) (gB6 hg87))⟩⟩
  refine G1 2 O ?_
  refine gl4 O O (.inr Y1) O ?_
  refine gE z84 (c_profit_part (by omega) q2.m q3.m hu1 hu2) O O O O fun z90 _=>?_
  refine G0 4 O ?_
  refine fx_condB rfl (fun hc92=>?_) (fun hc92=>?_)
  ·refine R5 4 O ?_
   refine xT ?_
   refine sq_r ?_
   refine lq_r ?_
   refine sq_r ?_
   exact rI O ⟨false,rfl,⟨fun h=>(by cases h),fun h=>absurd h (right_g (List.mem_of_getElem? ha) (gB7 hc92))⟩⟩
  refine fx_skip ?_
  refine sq_n ?_
  refine xG ?_
  refine lB rfl rfl (bI_add (n:=i+1) (by omega) (by omega)) ?_
  refine R0 2 O ?_
  obtain ⟨he1,he2⟩:=hnew (seenB_f hg46)
  subst he1 he2
  exact lq_n (by omega) ⟨i+1,_,LZ.m [_,_] O,rfl,by omega,by rw [tk_some ha,List.map_append];exact nd_one hnd (seenB_f hg46),tk_all ha hgb (gB8 hn0 hg51 hg61 hg68 hg75 hg81 hg87 hc92),zI _ _ fb1⟩
 refine fx_eseq ?_
 refine lq_e ?_
 refine sq_n ?_
 refine R4 6 O ?_
 refine lE zz (c_slices_ContainsFunc___profit_Sale_profit_Sale_ (by omega) hS.m hSs) O O fun z95 _=>?_
 refine R0 4 O ?_
 refine xT ?_
 refine rI O ?_
 rw [List.take_of_length_le (by omega)] at hnd hgb
 exact right_yes hn0 hg18 hc26 hnd hgb
end Go.Proofs.YtlceligcgelbdaaGreat
