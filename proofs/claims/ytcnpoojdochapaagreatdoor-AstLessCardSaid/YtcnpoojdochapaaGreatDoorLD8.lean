/- The group's filing, walked. -/
import Derived.KernelRfl
import Derived.WalkKit
import Derived.Orders
import Derived.Test.YtcnpoojdochapaaGreatDoorLD7
set_option linter.unusedVariables false
set_option linter.unusedSimpArgs false
set_option maxRecDepth 100000
set_option maxHeartbeats 1000000
namespace Go.Proofs.YtcnpoojdochapaaGreatDoor
open Go.CE Go.RowKit Go.Num
open Go.Eng (setL)
theorem rcAll {fs:Sf} {i b ty size:Nat} {cs:List C} {rs:List RR} {vs:List AV} (hp:fs.e i=.c (.ptr b 0)) (hm:HA.blk b (.cells ty cs)∈fs.H) (hs:cs.length=size) (t:ResL fs rs vs):ResL fs (.c i true size::rs) (.agg cs::vs):=rc hp hm (by omega) (by rw [List.drop_zero,List.take_of_length_le (by omega)];rfl) t
def PQ (q:Rat):PRat:=⟨decide (q.num<0),toL q.num.natAbs,decide ((q.den:Int)<0),toL (q.den:Int).natAbs⟩
def QA (z:Mem) (v:AV) (q:Rat):Prop:=∃ c d,v=.agg [.v (.bool (PQ q).n),c,.v (.bool (PQ q).d),d]∧CZ 1 RW z c (PQ q).nm∧CZ 1 RW z d (PQ q).dm
theorem qa_of {z0 z:Mem} {v:AV} {q:Rat} (h:QV (zd z0 z) v q):QA z v q:=by
 obtain ⟨c,d,h1,h2,h3⟩:=h
 exact ⟨c,d,h1,h2.mono zd_le,h3.mono zd_le⟩
theorem cl_c {α:Type} {size:Nat} {R:RT α} {z:Mem} {c cs:List C} {a:α} {l:List α} (hc:c.length=size) (h:R z c a) (t:CL size R z cs l):CL size R z (c++cs) (a::l):=(CL.one hc h).append t
theorem fl_frzN {call:Call'} {B:Base} {fs:Sf} {l:List I} {Q:Sf→Prop} {α:Type} {size:Nat} {R:RT α} [RMono R] {u:AV} {ty n:Nat} {cs:List C} {r:List α} {p q:List HA} (z1:Mem) (e:fs.H=p++.row u ty size n cs::q) (h1:fs.z=z1) (hc:CL size R z1 cs r) (hn:r.length=n) (hm:n≤9223372036854775807)
    (hw:∀ z',zle z1 z'→SZ size R z' u r→FL call B l (fs.frz z' (p++q)) Q):FL call B l fs Q:=fun st rf=>by
  subst h1
  obtain ⟨g1,g2⟩:=rf.hold.h (.row u ty size n cs) (by rw [e];simp)
  rcases g2 with ⟨h0,rfl⟩ | ⟨b,rfl,h3⟩
  · have hr0 : r = [] := List.eq_nil_of_length_eq_zero (by omega)
    subst hr0
    refine hw fs.z (zle.refl _) .nil st ?_
    have hsub:(p++q).Sublist fs.H:=by rw [e];exact (List.Sublist.refl p).append (List.sublist_cons_self _ _)
    exact ⟨rf.env,rf.hold.sub hsub,rf.le,rf.old,fun b hb=>rf.own b ((fps_sub hsub).subset hb),rf.zle,rf.zin⟩
  · have h1 := rf.frz (p := p) (q := q) (b := b) (k := .cells ty cs) (a := .row (.c (.sl b 0 n size)) ty size n cs) e rfl (fun m hm => by
      obtain ⟨_,hm⟩:=hm
      rcases hm with ⟨_,hm⟩ | ⟨b',hb',hm⟩
      · cases hm
      · injection hb' with hb';injection hb' with hb';subst hb';exact hm)
    exact hw _ (fun _ _ h=>.inl h) ((hc.mono (fun _ _ h=>.inl h)).sz hn hm (.inr ⟨rfl,rfl⟩)) st h1
def shareQ (q:Rat):Bool:=decide (1000000 % q.den=0) && (decide (0≤q) && decide (q≤1))
def moneyQ (q:Rat):Bool:=decide (100 % q.den=0) && (decide (q<topQ) && decide (-q<topQ))
def deferQ (q:Rat):Bool:=decide (1 % q.den=0) && (decide (0≤q) && decide (q≤40))
theorem right_q (q:Rat):rightR (rawR (PQ q))=true:=right_cR q
theorem zero_q (q:Rat):Num.valR (rawR (PQ q))=q:=val_cR q
theorem units_q (q:Rat) (m:Nat):unitsS (rawR (PQ q)) m=decide (m % q.den=0):=by rw [unitsS,right_q,zero_q,Bool.true_and]
theorem share_q (q:Rat):shareS (rawR (PQ q))=shareQ q:=by rw [shareS,units_q,zero_q];rfl
theorem money_q (q:Rat):moneyS (rawR (PQ q))=moneyQ q:=by rw [moneyS,units_q,zero_q];rfl
theorem defer_q (q:Rat):deferS (rawR (PQ q))=deferQ q:=by rw [deferS,units_q,zero_q];rfl
def smallQ (q:Rat):Bool:=decide (q.num.natAbs<18446744073709551616) && decide (q.den<18446744073709551616)
theorem Sk_of {q:Rat} (h:smallQ q=true):Sk (PQ q):=by
 simp only [smallQ,Bool.and_eq_true,decide_eq_true_eq] at h
 exact ⟨Nat.le_trans (m:=2) (toL_len.2 h.1) (by decide),Nat.le_trans (m:=2) (toL_len.2 (by rw [Int.natAbs_natCast];exact h.2)) (by decide)⟩
theorem all_cq {α β:Type} {f:α→β} {p:β→Bool} {g:α→Bool} (h:∀ t,p (f t)=g t) {l:List α}:(l.map f).all p=l.all g:=by
 rw [List.all_map]
 congr 1
 funext t
 exact h t
theorem all_sz {α β:Type} {f:α→β} {P:β→Prop} {g:α→Bool} (h:∀ t,g t=true→P (f t)) {l:List α} (hl:l.all g=true):∀ a,a∈l.map f→P a:=fun a ha=>by
 obtain ⟨t,ht,rfl⟩:=List.mem_map.1 ha
 exact h t (List.all_eq_true.1 hl t ht)
theorem q_money {dv:Int→Int→Rat} (hdv:∀ n d,dv n d=Rat.divInt n d) {k:Nat} (hk:11≤k) {z:Mem} {n:Int} (h1 : -9223372036854775808≤n) (h2:n<9223372036854775808):FC (E k) 84 [.c (.v (.int .i64 n))] z fun v z'=>QA z' v (dv n 100):=(c_fil_money hk h1 h2).mono fun _ _ _ h=>by rw [hdv];exact qa_of h
theorem q_share {dv:Int→Int→Rat} (hdv:∀ n d,dv n d=Rat.divInt n d) {k:Nat} (hk:11≤k) {z:Mem} {n:Int} (h1 : -9223372036854775808≤n) (h2:n<9223372036854775808):FC (E k) 85 [.c (.v (.int .i64 n))] z fun v z'=>QA z' v (dv n 10000):=(c_fil_share hk h1 h2).mono fun _ _ _ h=>by rw [hdv];exact qa_of h
theorem q_By {dv:Int→Int→Rat} (hdv:∀ n d,dv n d=Rat.divInt n d) {k:Nat} (hk:10≤k) {z:Mem} {n d:Int} (h1 : -9223372036854775808≤n) (h2:n<9223372036854775808) (h3 : -9223372036854775808≤d) (h4:d<9223372036854775808) (hd:d≠0):FC (E k) 26 [.c (.v (.int .i64 n)),.c (.v (.int .i64 d))] z fun v z'=>QA z' v (dv n d):=(c_fil_By hk h1 h2 h3 h4 hd).mono fun _ _ _ h=>by rw [hdv];exact qa_of h
def cq_bracket (t:Rat×Rat):PBracket:=⟨PQ t.1,PQ t.2⟩
def ok_bracket (t:Rat×Rat):Bool:=moneyQ t.1 && shareQ t.2
theorem ok_bracket_eq (t:Rat×Rat):bracketS (cq_bracket t)=ok_bracket t:=by simp only [bracketS,cq_bracket,ok_bracket,share_q,money_q,defer_q,right_q,zero_q,Bool.true_and]<;>rfl
def sz_bracket (t:Rat×Rat):Bool:=smallQ t.1 && (smallQ t.2)
theorem sz_bracket_of {t:Rat×Rat} (h:sz_bracket t=true):Sk_bracket (cq_bracket t):=by
 simp only [sz_bracket,Bool.and_eq_true,decide_eq_true_eq] at h
 simp only [Sk_bracket,cq_bracket,Sn]
 obtain ⟨h0,h1⟩:=h
 exact ⟨Sk_of h0,Sk_of h1⟩
def cq_hold (t:ByteArray×ByteArray×Rat):PHold:=⟨t.1,t.2.1,PQ t.2.2⟩
def ok_hold (t:ByteArray×ByteArray×Rat):Bool:=nameB t.1 && (nameB t.2.1 && shareQ t.2.2)
theorem ok_hold_eq (t:ByteArray×ByteArray×Rat):holdS (cq_hold t)=ok_hold t:=by simp only [holdS,cq_hold,ok_hold,share_q,money_q,defer_q,right_q,zero_q,Bool.true_and]<;>rfl
def sz_hold (t:ByteArray×ByteArray×Rat):Bool:=decide (t.1.data.toList.length≤1000) && (decide (t.2.1.data.toList.length≤1000) && (smallQ t.2.2))
theorem sz_hold_of {t:ByteArray×ByteArray×Rat} (h:sz_hold t=true):Sk_hold (cq_hold t):=by
 simp only [sz_hold,Bool.and_eq_true,decide_eq_true_eq] at h
 simp only [Sk_hold,cq_hold,Sn]
 obtain ⟨h0,h1,h2⟩:=h
 exact ⟨h0,h1,Sk_of h2⟩
def cq_book (t:ByteArray×ByteArray×Rat):PBook:=⟨t.1,t.2.1,PQ t.2.2⟩
def ok_book (t:ByteArray×ByteArray×Rat):Bool:=nameB t.1 && (nameB t.2.1 && moneyQ t.2.2)
theorem ok_book_eq (t:ByteArray×ByteArray×Rat):bookS (cq_book t)=ok_book t:=by simp only [bookS,cq_book,ok_book,share_q,money_q,defer_q,right_q,zero_q,Bool.true_and]<;>rfl
def sz_book (t:ByteArray×ByteArray×Rat):Bool:=decide (t.1.data.toList.length≤1000) && (decide (t.2.1.data.toList.length≤1000) && (smallQ t.2.2))
theorem sz_book_of {t:ByteArray×ByteArray×Rat} (h:sz_book t=true):Sk_book (cq_book t):=by
 simp only [sz_book,Bool.and_eq_true,decide_eq_true_eq] at h
 simp only [Sk_book,cq_book,Sn]
 obtain ⟨h0,h1,h2⟩:=h
 exact ⟨h0,h1,Sk_of h2⟩
def cq_deal (t:Bool×ByteArray×Int×ByteArray×ByteArray×ByteArray×Rat):PDeal:=⟨t.1,t.2.1,t.2.2.1,t.2.2.2.1,t.2.2.2.2.1,t.2.2.2.2.2.1,PQ t.2.2.2.2.2.2⟩
def ok_deal (t:Bool×ByteArray×Int×ByteArray×ByteArray×ByteArray×Rat):Bool:=nameB t.2.1 && (decide (t.2.2.1 ≥ 1) && (decide (t.2.2.1≤4) && (nameB t.2.2.2.1 && (nameB t.2.2.2.2.1 && (nameB t.2.2.2.2.2.1 && moneyQ t.2.2.2.2.2.2)))))
theorem ok_deal_eq (t:Bool×ByteArray×Int×ByteArray×ByteArray×ByteArray×Rat):dealS (cq_deal t)=ok_deal t:=by simp only [dealS,cq_deal,ok_deal,share_q,money_q,defer_q,right_q,zero_q,Bool.true_and]<;>rfl
def sz_deal (t:Bool×ByteArray×Int×ByteArray×ByteArray×ByteArray×Rat):Bool:=decide (t.2.1.data.toList.length≤1000) && (decide (t.2.2.2.1.data.toList.length≤1000) && (decide (t.2.2.2.2.1.data.toList.length≤1000) && (decide (t.2.2.2.2.2.1.data.toList.length≤1000) && (smallQ t.2.2.2.2.2.2))))
theorem sz_deal_of {t:Bool×ByteArray×Int×ByteArray×ByteArray×ByteArray×Rat} (h:sz_deal t=true):Sk_deal (cq_deal t):=by
 simp only [sz_deal,Bool.and_eq_true,decide_eq_true_eq] at h
 simp only [Sk_deal,cq_deal,Sn]
 obtain ⟨h0,h1,h2,h3,h4⟩:=h
 exact ⟨h0,h1,h2,h3,Sk_of h4⟩
def cq_stock (t:ByteArray×Rat×Rat):PStock:=⟨t.1,PQ t.2.1,PQ t.2.2⟩
def ok_stock (t:ByteArray×Rat×Rat):Bool:=nameB t.1 && (moneyQ t.2.1 && shareQ t.2.2)
theorem ok_stock_eq (t:ByteArray×Rat×Rat):stockS (cq_stock t)=ok_stock t:=by simp only [stockS,cq_stock,ok_stock,share_q,money_q,defer_q,right_q,zero_q,Bool.true_and]<;>rfl
def sz_stock (t:ByteArray×Rat×Rat):Bool:=decide (t.1.data.toList.length≤1000) && (smallQ t.2.1 && (smallQ t.2.2))
theorem sz_stock_of {t:ByteArray×Rat×Rat} (h:sz_stock t=true):Sk_stock (cq_stock t):=by
 simp only [sz_stock,Bool.and_eq_true,decide_eq_true_eq] at h
 simp only [Sk_stock,cq_stock,Sn]
 obtain ⟨h0,h1,h2⟩:=h
 exact ⟨h0,Sk_of h1,Sk_of h2⟩
def cq_sold (t:ByteArray×Rat):PSold:=⟨t.1,PQ t.2⟩
def ok_sold (t:ByteArray×Rat):Bool:=nameB t.1 && shareQ t.2
theorem ok_sold_eq (t:ByteArray×Rat):soldS (cq_sold t)=ok_sold t:=by simp only [soldS,cq_sold,ok_sold,share_q,money_q,defer_q,right_q,zero_q,Bool.true_and]<;>rfl
def sz_sold (t:ByteArray×Rat):Bool:=decide (t.1.data.toList.length≤1000) && (smallQ t.2)
theorem sz_sold_of {t:ByteArray×Rat} (h:sz_sold t=true):Sk_sold (cq_sold t):=by
 simp only [sz_sold,Bool.and_eq_true,decide_eq_true_eq] at h
 simp only [Sk_sold,cq_sold,Sn]
 obtain ⟨h0,h1⟩:=h
 exact ⟨h0,Sk_of h1⟩
def cq_class (t:ByteArray×Int×Rat):PClass:=⟨t.1,t.2.1,PQ t.2.2⟩
def ok_class (t:ByteArray×Int×Rat):Bool:=nameB t.1 && (if t.2.1=4 then shareQ t.2.2 else if t.2.1=5 then moneyQ t.2.2 else if t.2.1=6 then deferQ t.2.2 else decide (t.2.1 ≥ 1) && (decide (t.2.1≤11) && decide (t.2.2=0)))
theorem ok_class_eq (t:ByteArray×Int×Rat):classS (cq_class t)=ok_class t:=by simp only [classS,cq_class,ok_class,share_q,money_q,defer_q,right_q,zero_q,Bool.true_and]<;>rfl
def sz_class (t:ByteArray×Int×Rat):Bool:=decide (t.1.data.toList.length≤1000) && (smallQ t.2.2)
theorem sz_class_of {t:ByteArray×Int×Rat} (h:sz_class t=true):Sk_class (cq_class t):=by
 simp only [sz_class,Bool.and_eq_true,decide_eq_true_eq] at h
 simp only [Sk_class,cq_class,Sn]
 obtain ⟨h0,h1⟩:=h
 exact ⟨h0,Sk_of h1⟩
def gCR25Q (dv:Int→Int→Rat):List (ByteArray×Int×Rat):=[(⟨#[115,97,108,101,115]⟩,1,(dv 0 1)),(⟨#[99,111,115,116]⟩,2,(dv 0 1)),(⟨#[102,114,101,101]⟩,3,(dv 0 1)),(⟨#[109,101,97,108,115]⟩,4,(dv 5000 10000)),(⟨#[103,105,102,116,115]⟩,5,(dv 10000 100)),(⟨#[97,100,115]⟩,6,(dv 2 1)),(⟨#[100,101,112]⟩,7,(dv 0 1)),(⟨#[105,110,116,45,105,110]⟩,8,(dv 0 1)),(⟨#[105,110,116,45,111,117,116]⟩,9,(dv 0 1)),(⟨#[100,105,118]⟩,10,(dv 0 1)),(⟨#[100,105,115,116]⟩,11,(dv 0 1))]
def gCR25 (dv:Int→Int→Rat):List PClass:=(gCR25Q dv).map cq_class
theorem gCR25_ok:(gCR25 Rat.divInt).all classS=true:=by rw [gCR25,all_cq ok_class_eq];kernel_rfl
theorem gCR25_sz:∀ a,a∈gCR25 Rat.divInt→Sk_class a:=all_sz (fun t h=>sz_class_of h) (show (gCR25Q Rat.divInt).all sz_class=true by kernel_rfl)
abbrev gClasses (dv:Int→Int→Rat):=gCR25 dv
def gSR4Q (dv:Int→Int→Rat):List (Rat×Rat):=[((dv 0 100),(dv 2500 10000))]
def gSR4 (dv:Int→Int→Rat):List PBracket:=(gSR4Q dv).map cq_bracket
def gSR9:List ByteArray:=[⟨#[80]⟩]
def gSR11 (dv:Int→Int→Rat):List PYear:=[⟨2020,[],[],[],[],[]⟩]
def gSmall (dv:Int→Int→Rat):PFiling:={ name:=⟨#[83]⟩,parent:=⟨#[80]⟩,brackets:=(gSR4 dv),threshold:=PQ (dv 7500 10000),cap:=PQ (dv 5000 10000),back:=1,forward:=2,interest:=PQ (dv 3000 10000),floor:=PQ (dv 0 100),keep:=1,classes:=[],entities:=gSR9,years:=(gSR11 dv) }
def g1R13Q (dv:Int→Int→Rat):List (ByteArray×ByteArray×Rat):=[(⟨#[80]⟩,⟨#[65]⟩,(dv 10000 10000)),(⟨#[65]⟩,⟨#[66]⟩,(dv 5000 10000)),(⟨#[80]⟩,⟨#[66]⟩,(dv 3000 10000)),(⟨#[80]⟩,⟨#[67]⟩,(dv 4000 10000)),(⟨#[67]⟩,⟨#[68]⟩,(dv 10000 10000))]
def g1R13 (dv:Int→Int→Rat):List PHold:=(g1R13Q dv).map cq_hold
theorem g1R13_ok:(g1R13 Rat.divInt).all holdS=true:=by rw [g1R13,all_cq ok_hold_eq];kernel_rfl
theorem g1R13_sz:∀ a,a∈g1R13 Rat.divInt→Sk_hold a:=all_sz (fun t h=>sz_hold_of h) (show (g1R13Q Rat.divInt).all sz_hold=true by kernel_rfl)
def g1R41Q (dv:Int→Int→Rat):List (ByteArray×ByteArray×Rat):=[(⟨#[80]⟩,⟨#[115,97,108,101,115]⟩,(dv 100000 100)),(⟨#[80]⟩,⟨#[99,111,115,116]⟩,(dv 40000 100)),(⟨#[80]⟩,⟨#[105,110,116,45,111,117,116]⟩,(dv 20000 100)),(⟨#[65]⟩,⟨#[115,97,108,101,115]⟩,(dv 50000 100)),(⟨#[65]⟩,⟨#[99,111,115,116]⟩,(dv 90000 100)),(⟨#[65]⟩,⟨#[109,101,97,108,115]⟩,(dv 4001 100)),(⟨#[65]⟩,⟨#[97,100,115]⟩,(dv 9000 100)),(⟨#[66]⟩,⟨#[115,97,108,101,115]⟩,(dv 30000 100)),(⟨#[66]⟩,⟨#[100,101,112]⟩,(dv 3000 100)),(⟨#[66]⟩,⟨#[105,110,116,45,105,110]⟩,(dv 2000 100)),(⟨#[67]⟩,⟨#[99,111,115,116]⟩,(dv 25000 100)),(⟨#[67]⟩,⟨#[115,97,108,101,115]⟩,(dv 5000 100)),(⟨#[68]⟩,⟨#[102,114,101,101]⟩,(dv 777 100))]
def g1R41 (dv:Int→Int→Rat):List PBook:=(g1R41Q dv).map cq_book
theorem g1R41_ok:(g1R41 Rat.divInt).all bookS=true:=by rw [g1R41,all_cq ok_book_eq];kernel_rfl
theorem g1R41_sz:∀ a,a∈g1R41 Rat.divInt→Sk_book a:=all_sz (fun t h=>sz_book_of h) (show (g1R41Q Rat.divInt).all sz_book=true by kernel_rfl)
def g1R45Q (dv:Int→Int→Rat):List (Bool×ByteArray×Int×ByteArray×ByteArray×ByteArray×Rat):=[(true,⟨#[71,49]⟩,1,⟨#[65]⟩,⟨#[80]⟩,⟨#[115,97,108,101,115]⟩,dv 12000 100),(false,⟨#[71,49]⟩,1,⟨#[65]⟩,⟨#[80]⟩,⟨#[99,111,115,116]⟩,dv 12000 100),(true,⟨#[76,49]⟩,3,⟨#[66]⟩,⟨#[80]⟩,⟨#[105,110,116,45,105,110]⟩,dv 2000 100),(false,⟨#[76,49]⟩,3,⟨#[66]⟩,⟨#[80]⟩,⟨#[105,110,116,45,111,117,116]⟩,dv 2000 100)]
def g1R45 (dv:Int→Int→Rat):List PDeal:=(g1R45Q dv).map cq_deal
theorem g1R45_ok:(g1R45 Rat.divInt).all dealS=true:=by rw [g1R45,all_cq ok_deal_eq];kernel_rfl
theorem g1R45_sz:∀ a,a∈g1R45 Rat.divInt→Sk_deal a:=all_sz (fun t h=>sz_deal_of h) (show (g1R45Q Rat.divInt).all sz_deal=true by kernel_rfl)
def g1R50Q (dv:Int→Int→Rat):List (ByteArray×Rat×Rat):=[(⟨#[71,49]⟩,(dv 3000 100),(dv 5000 10000))]
def g1R50 (dv:Int→Int→Rat):List PStock:=(g1R50Q dv).map cq_stock
theorem g1R50_ok:(g1R50 Rat.divInt).all stockS=true:=by rw [g1R50,all_cq ok_stock_eq];kernel_rfl
theorem g1R50_sz:∀ a,a∈g1R50 Rat.divInt→Sk_stock a:=all_sz (fun t h=>sz_stock_of h) (show (g1R50Q Rat.divInt).all sz_stock=true by kernel_rfl)
def gFirst (dv:Int→Int→Rat):PYear:={ number:=2020,holds:=(g1R13 dv),books:=(g1R41 dv),deals:=(g1R45 dv),stocks:=(g1R50 dv),solds:=[] }
def g2R13Q (dv:Int→Int→Rat):List (ByteArray×ByteArray×Rat):=[(⟨#[80]⟩,⟨#[65]⟩,(dv 10000 10000)),(⟨#[65]⟩,⟨#[66]⟩,(dv 5000 10000)),(⟨#[80]⟩,⟨#[66]⟩,(dv 3000 10000)),(⟨#[80]⟩,⟨#[67]⟩,(dv 8000 10000)),(⟨#[67]⟩,⟨#[68]⟩,(dv 10000 10000))]
def g2R13 (dv:Int→Int→Rat):List PHold:=(g2R13Q dv).map cq_hold
theorem g2R13_ok:(g2R13 Rat.divInt).all holdS=true:=by rw [g2R13,all_cq ok_hold_eq];kernel_rfl
theorem g2R13_sz:∀ a,a∈g2R13 Rat.divInt→Sk_hold a:=all_sz (fun t h=>sz_hold_of h) (show (g2R13Q Rat.divInt).all sz_hold=true by kernel_rfl)
def g2R31Q (dv:Int→Int→Rat):List (ByteArray×ByteArray×Rat):=[(⟨#[80]⟩,⟨#[99,111,115,116]⟩,(dv 150000 100)),(⟨#[80]⟩,⟨#[115,97,108,101,115]⟩,(dv 20000 100)),(⟨#[80]⟩,⟨#[100,105,115,116]⟩,(dv 5000 100)),(⟨#[65]⟩,⟨#[100,105,118]⟩,(dv 1000 100)),(⟨#[66]⟩,⟨#[100,105,115,116]⟩,(dv 1000 100)),(⟨#[67]⟩,⟨#[115,97,108,101,115]⟩,(dv 60000 100)),(⟨#[68]⟩,⟨#[103,105,102,116,115]⟩,(dv 25000 100)),(⟨#[68]⟩,⟨#[115,97,108,101,115]⟩,(dv 12345 100))]
def g2R31 (dv:Int→Int→Rat):List PBook:=(g2R31Q dv).map cq_book
theorem g2R31_ok:(g2R31 Rat.divInt).all bookS=true:=by rw [g2R31,all_cq ok_book_eq];kernel_rfl
theorem g2R31_sz:∀ a,a∈g2R31 Rat.divInt→Sk_book a:=all_sz (fun t h=>sz_book_of h) (show (g2R31Q Rat.divInt).all sz_book=true by kernel_rfl)
def g2R35Q (dv:Int→Int→Rat):List (Bool×ByteArray×Int×ByteArray×ByteArray×ByteArray×Rat):=[(true,⟨#[86,49]⟩,4,⟨#[65]⟩,⟨#[66]⟩,⟨#[100,105,118]⟩,dv 1000 100),(false,⟨#[86,49]⟩,4,⟨#[65]⟩,⟨#[66]⟩,⟨#[100,105,115,116]⟩,dv 1000 100),(true,⟨#[83,49]⟩,2,⟨#[67]⟩,⟨#[68]⟩,⟨#[115,97,108,101,115]⟩,dv 5000 100),(false,⟨#[83,49]⟩,2,⟨#[67]⟩,⟨#[68]⟩,⟨#[103,105,102,116,115]⟩,dv 5000 100)]
def g2R35 (dv:Int→Int→Rat):List PDeal:=(g2R35Q dv).map cq_deal
theorem g2R35_ok:(g2R35 Rat.divInt).all dealS=true:=by rw [g2R35,all_cq ok_deal_eq];kernel_rfl
theorem g2R35_sz:∀ a,a∈g2R35 Rat.divInt→Sk_deal a:=all_sz (fun t h=>sz_deal_of h) (show (g2R35Q Rat.divInt).all sz_deal=true by kernel_rfl)
def g2R39Q (dv:Int→Int→Rat):List (ByteArray×Rat):=[(⟨#[71,49]⟩,(dv 2500 10000))]
def g2R39 (dv:Int→Int→Rat):List PSold:=(g2R39Q dv).map cq_sold
theorem g2R39_ok:(g2R39 Rat.divInt).all soldS=true:=by rw [g2R39,all_cq ok_sold_eq];kernel_rfl
theorem g2R39_sz:∀ a,a∈g2R39 Rat.divInt→Sk_sold a:=all_sz (fun t h=>sz_sold_of h) (show (g2R39Q Rat.divInt).all sz_sold=true by kernel_rfl)
def gSecond (dv:Int→Int→Rat):PYear:={ number:=2021,holds:=(g2R13 dv),books:=(g2R31 dv),deals:=(g2R35 dv),stocks:=[],solds:=(g2R39 dv) }
def g3R9Q (dv:Int→Int→Rat):List (ByteArray×ByteArray×Rat):=[(⟨#[80]⟩,⟨#[65]⟩,(dv 7400 10000)),(⟨#[80]⟩,⟨#[67]⟩,(dv 8000 10000)),(⟨#[67]⟩,⟨#[68]⟩,(dv 9999 10000))]
def g3R9 (dv:Int→Int→Rat):List PHold:=(g3R9Q dv).map cq_hold
theorem g3R9_ok:(g3R9 Rat.divInt).all holdS=true:=by rw [g3R9,all_cq ok_hold_eq];kernel_rfl
theorem g3R9_sz:∀ a,a∈g3R9 Rat.divInt→Sk_hold a:=all_sz (fun t h=>sz_hold_of h) (show (g3R9Q Rat.divInt).all sz_hold=true by kernel_rfl)
def g3R23Q (dv:Int→Int→Rat):List (ByteArray×ByteArray×Rat):=[(⟨#[80]⟩,⟨#[115,97,108,101,115]⟩,(dv 300000 100)),(⟨#[80]⟩,⟨#[105,110,116,45,111,117,116]⟩,(dv 9000 100)),(⟨#[65]⟩,⟨#[115,97,108,101,115]⟩,(dv 10000 100)),(⟨#[67]⟩,⟨#[115,97,108,101,115]⟩,(dv 70001 100)),(⟨#[68]⟩,⟨#[99,111,115,116]⟩,(dv 8000 100)),(⟨#[68]⟩,⟨#[109,101,97,108,115]⟩,(dv (-100) 100))]
def g3R23 (dv:Int→Int→Rat):List PBook:=(g3R23Q dv).map cq_book
theorem g3R23_ok:(g3R23 Rat.divInt).all bookS=true:=by rw [g3R23,all_cq ok_book_eq];kernel_rfl
theorem g3R23_sz:∀ a,a∈g3R23 Rat.divInt→Sk_book a:=all_sz (fun t h=>sz_book_of h) (show (g3R23Q Rat.divInt).all sz_book=true by kernel_rfl)
def g3R27Q (dv:Int→Int→Rat):List (ByteArray×Rat):=[(⟨#[71,49]⟩,(dv 7500 10000))]
def g3R27 (dv:Int→Int→Rat):List PSold:=(g3R27Q dv).map cq_sold
theorem g3R27_ok:(g3R27 Rat.divInt).all soldS=true:=by rw [g3R27,all_cq ok_sold_eq];kernel_rfl
theorem g3R27_sz:∀ a,a∈g3R27 Rat.divInt→Sk_sold a:=all_sz (fun t h=>sz_sold_of h) (show (g3R27Q Rat.divInt).all sz_sold=true by kernel_rfl)
def gThird (dv:Int→Int→Rat):PYear:={ number:=2022,holds:=(g3R9 dv),books:=(g3R23 dv),deals:=[],stocks:=[],solds:=(g3R27 dv) }
def gGR10Q (dv:Int→Int→Rat):List (Rat×Rat):=[((dv 0 100),(dv 1000 10000)),((dv 100000 100),(dv 2550 10000))]
def gGR10 (dv:Int→Int→Rat):List PBracket:=(gGR10Q dv).map cq_bracket
theorem gGR10_ok:(gGR10 Rat.divInt).all bracketS=true:=by rw [gGR10,all_cq ok_bracket_eq];kernel_rfl
theorem gGR10_sz:∀ a,a∈gGR10 Rat.divInt→Sk_bracket a:=all_sz (fun t h=>sz_bracket_of h) (show (gGR10Q Rat.divInt).all sz_bracket=true by kernel_rfl)
def gGR20:List ByteArray:=[⟨#[80]⟩,⟨#[68]⟩,⟨#[65]⟩,⟨#[66]⟩,⟨#[67]⟩]
def gGR25 (dv:Int→Int→Rat):List PYear:=[(gFirst dv),(gSecond dv),(gThird dv)]
def gGroup (dv:Int→Int→Rat):PFiling:={ name:=⟨#[71,114,111,117,112]⟩,parent:=(gSmall dv).parent,brackets:=(gGR10 dv),threshold:=(gSmall dv).threshold,cap:=PQ (dv 6000 10000),back:=(gSmall dv).back,forward:=3,interest:=(gSmall dv).interest,floor:=PQ (dv 5000 100),keep:=2,classes:=(gClasses dv),entities:=gGR20,years:=(gGR25 dv) }
theorem c_fil_deal {dv:Int→Int→Rat} (hdv:∀ n d,dv n d=Rat.divInt n d) {k:Nat} (hk:12≤k) {z:Mem} {id pe pr ci co:ByteArray} {kd n:Int} (h1 : -9223372036854775808≤n) (h2:n<9223372036854775808):FCt (E k) 157 [.c (.v (.string id)),.c (.v (.int .u8 kd)),.c (.v (.string pe)),.c (.v (.string pr)),.c (.v (.string ci)),.c (.v (.string co)),.c (.v (.int .i64 n))] z [] fun v z' H'=>∃ c cs,v=.c c∧H'=[.row (.c c) 176 10 2 cs]∧CL 10 RDeal z' cs [⟨true,id,kd,pe,pr,ci,PQ (dv n 100)⟩,⟨false,id,kd,pe,pr,co,PQ (dv n 100)⟩]:=by
 refine fct_of (tS_get157) (by omega) (len1 rfl) fun B j hj=>?_
 refine xR (lC rfl (lN (xR (lC rfl (lC rfl (lC rfl (lC rfl ?_)))))))
 iterate 2 refine lC rfl ?_
 refine lZ z (q_money hdv (n:=n) (by omega) h1 h2) rfl rfl fun v21 z21 hz21 ⟨c21,d21,hv21,m21,n21⟩=>?_
 subst hv21
 refine fl_bd (cs:=[.v (.bool true),.v (.string id),.v (.int .u8 kd),.v (.string pe),.v (.string pr),.v (.string ci),.v (.bool (PQ (dv n 100)).n),c21,.v (.bool (PQ (dv n 100)).d),d21]) (by kernel_rfl) ?_
 iterate 6 refine lC rfl ?_
 refine lZ z21 (q_money hdv (n:=n) (by omega) h1 h2) rfl rfl fun v29 z29 hz29 ⟨c29,d29,hv29,m29,n29⟩=>?_
 subst hv29
 refine fl_bd (cs:=[.v (.bool false),.v (.string id),.v (.int .u8 kd),.v (.string pe),.v (.string pr),.v (.string co),.v (.bool (PQ (dv n 100)).n),c29,.v (.bool (PQ (dv n 100)).d),d29]) (by kernel_rfl) ?_
 refine fl_bslice (cs:=[.v (.bool true),.v (.string id),.v (.int .u8 kd),.v (.string pe),.v (.string pr),.v (.string ci),.v (.bool (PQ (dv n 100)).n),c21,.v (.bool (PQ (dv n 100)).d),d21,.v (.bool false),.v (.string id),.v (.int .u8 kd),.v (.string pe),.v (.string pr),.v (.string co),.v (.bool (PQ (dv n 100)).n),c29,.v (.bool (PQ (dv n 100)).d),d29]) rfl fun b31=>?_
 refine fl_asrow (n:=2) (size:=10) (p:=[]) rfl rfl ?_
 have k31:CL 10 RDeal z29 _ [⟨true,id,kd,pe,pr,ci,PQ (dv n 100)⟩,⟨false,id,kd,pe,pr,co,PQ (dv n 100)⟩]:=cl_c rfl (mk_deal (a:=⟨true,id,kd,pe,pr,ci,PQ (dv n 100)⟩) (m21.mono (hz29)) (n21.mono (hz29))) (cl_c rfl (mk_deal (a:=⟨false,id,kd,pe,pr,co,PQ (dv n 100)⟩) m29 n29) (CL.nil))
 refine lC rfl (lN (xT (ret_h (.inl rfl) (rt rfl rn) (List.Sublist.refl _) ?_)))
 exact ⟨_,_,rfl,rfl,k31⟩
theorem c_fil_classes {dv:Int→Int→Rat} (hdv:∀ n d,dv n d=Rat.divInt n d) {k:Nat} (hk:12≤k) {z:Mem}  : FC (E k) 86 [] z fun v z'=>∃ c,v=.c c∧CZ 6 RClass z' c (gClasses dv):=by
 refine fc_of (tS_get86) (by omega) (len1 rfl) fun B j hj=>?_
 refine xR (lC rfl (lN (xR ?_)))
 refine lZ z (q_By hdv (n:=0) (d:=1) (by omega) (by decide) (by decide) (by decide) (by decide) (by decide)) rfl rfl fun v2 z2 hz2 ⟨c2,d2,hv2,m2,n2⟩=>?_
 subst hv2
 refine fl_al4 fun b1=>?_
 refine fl_stE (cs':=[.v (.bool (PQ (dv 0 1)).n),c2,.v (.bool (PQ (dv 0 1)).d),d2]) rfl rfl rfl rep0 rfl rfl (Nat.le_of_ble_eq_true rfl) (lN (fx_drwS ?_))
 refine fg_ld4 (i:=⟨_,_,.load _ _ _⟩) rfl rfl trivial rfl (.inr mem0) rfl (by simp [sameA,sameL,sI,sB,sameC_nil,m2.refl,n2.refl]) ?_
 refine gP rfl rfl trivial ?_
 refine fl_bd (cs:=[.v (.string ⟨#[115,97,108,101,115]⟩),.v (.int .u8 1),.v (.bool (PQ (dv 0 1)).n),c2,.v (.bool (PQ (dv 0 1)).d),d2]) rfl (lN ?_)
 refine fg_ld4 (i:=⟨_,_,.load _ _ _⟩) rfl rfl trivial rfl (.inr mem0) rfl (by simp [sameA,sameL,sI,sB,sameC_nil,m2.refl,n2.refl]) ?_
 refine gP rfl rfl trivial ?_
 refine fl_bd (cs:=[.v (.string ⟨#[99,111,115,116]⟩),.v (.int .u8 2),.v (.bool (PQ (dv 0 1)).n),c2,.v (.bool (PQ (dv 0 1)).d),d2]) rfl (lN ?_)
 refine fg_ld4 (i:=⟨_,_,.load _ _ _⟩) rfl rfl trivial rfl (.inr mem0) rfl (by simp [sameA,sameL,sI,sB,sameC_nil,m2.refl,n2.refl]) ?_
 refine gP rfl rfl trivial ?_
 refine fl_bd (cs:=[.v (.string ⟨#[102,114,101,101]⟩),.v (.int .u8 3),.v (.bool (PQ (dv 0 1)).n),c2,.v (.bool (PQ (dv 0 1)).d),d2]) rfl (lN ?_)
 refine gZ z2 (i:=⟨_,_,.call _ _⟩) (q_share hdv (n:=5000) (by omega) (by decide) (by decide)) rfl rfl trivial rfl rfl rfl rfl fun v9 z9 hz9 ⟨c9,d9,hv9,m9,n9⟩=>?_
 subst hv9
 refine gP rfl rfl trivial ?_
 refine fl_bd (cs:=[.v (.string ⟨#[109,101,97,108,115]⟩),.v (.int .u8 4),.v (.bool (PQ (dv 5000 10000)).n),c9,.v (.bool (PQ (dv 5000 10000)).d),d9]) rfl (lN ?_)
 refine gZ z9 (i:=⟨_,_,.call _ _⟩) (q_money hdv (n:=10000) (by omega) (by decide) (by decide)) rfl rfl trivial rfl rfl rfl rfl fun v11 z11 hz11 ⟨c11,d11,hv11,m11,n11⟩=>?_
 subst hv11
 refine gP rfl rfl trivial ?_
 refine fl_bd (cs:=[.v (.string ⟨#[103,105,102,116,115]⟩),.v (.int .u8 5),.v (.bool (PQ (dv 10000 100)).n),c11,.v (.bool (PQ (dv 10000 100)).d),d11]) rfl (lN ?_)
 refine gZ z11 (i:=⟨_,_,.call _ _⟩) (q_By hdv (n:=2) (d:=1) (by omega) (by decide) (by decide) (by decide) (by decide) (by decide)) rfl rfl trivial rfl rfl rfl rfl fun v13 z13 hz13 ⟨c13,d13,hv13,m13,n13⟩=>?_
 subst hv13
 refine gP rfl rfl trivial ?_
 refine fl_bd (cs:=[.v (.string ⟨#[97,100,115]⟩),.v (.int .u8 6),.v (.bool (PQ (dv 2 1)).n),c13,.v (.bool (PQ (dv 2 1)).d),d13]) rfl (lN ?_)
 refine fg_ld4 (i:=⟨_,_,.load _ _ _⟩) rfl rfl trivial rfl (.inr mem0) rfl (by simp [sameA,sameL,sI,sB,sameC_nil,m2.refl,n2.refl,m9.refl,n9.refl,m11.refl,n11.refl,m13.refl,n13.refl]) ?_
 refine gP rfl rfl trivial ?_
 refine fl_bd (cs:=[.v (.string ⟨#[100,101,112]⟩),.v (.int .u8 7),.v (.bool (PQ (dv 0 1)).n),c2,.v (.bool (PQ (dv 0 1)).d),d2]) rfl (lN ?_)
 refine fg_ld4 (i:=⟨_,_,.load _ _ _⟩) rfl rfl trivial rfl (.inr mem0) rfl (by simp [sameA,sameL,sI,sB,sameC_nil,m2.refl,n2.refl,m9.refl,n9.refl,m11.refl,n11.refl,m13.refl,n13.refl]) ?_
 refine gP rfl rfl trivial ?_
 refine fl_bd (cs:=[.v (.string ⟨#[105,110,116,45,105,110]⟩),.v (.int .u8 8),.v (.bool (PQ (dv 0 1)).n),c2,.v (.bool (PQ (dv 0 1)).d),d2]) rfl (lN ?_)
 refine fg_ld4 (i:=⟨_,_,.load _ _ _⟩) rfl rfl trivial rfl (.inr mem0) rfl (by simp [sameA,sameL,sI,sB,sameC_nil,m2.refl,n2.refl,m9.refl,n9.refl,m11.refl,n11.refl,m13.refl,n13.refl]) ?_
 refine gP rfl rfl trivial ?_
 refine fl_bd (cs:=[.v (.string ⟨#[105,110,116,45,111,117,116]⟩),.v (.int .u8 9),.v (.bool (PQ (dv 0 1)).n),c2,.v (.bool (PQ (dv 0 1)).d),d2]) rfl (lN ?_)
 refine fg_ld4 (i:=⟨_,_,.load _ _ _⟩) rfl rfl trivial rfl (.inr mem0) rfl (by simp [sameA,sameL,sI,sB,sameC_nil,m2.refl,n2.refl,m9.refl,n9.refl,m11.refl,n11.refl,m13.refl,n13.refl]) ?_
 refine gP rfl rfl trivial ?_
 refine fl_bd (cs:=[.v (.string ⟨#[100,105,118]⟩),.v (.int .u8 10),.v (.bool (PQ (dv 0 1)).n),c2,.v (.bool (PQ (dv 0 1)).d),d2]) rfl (lN ?_)
 refine fg_ld4 (i:=⟨_,_,.load _ _ _⟩) rfl rfl trivial rfl (.inr mem0) rfl (by simp [sameA,sameL,sI,sB,sameC_nil,m2.refl,n2.refl,m9.refl,n9.refl,m11.refl,n11.refl,m13.refl,n13.refl]) ?_
 refine gP rfl rfl trivial ?_
 refine fl_bd (cs:=[.v (.string ⟨#[100,105,115,116]⟩),.v (.int .u8 11),.v (.bool (PQ (dv 0 1)).n),c2,.v (.bool (PQ (dv 0 1)).d),d2]) rfl (lN ?_)
 refine fg_own (k:=.cells 102 [.v (.string ⟨#[115,97,108,101,115]⟩),.v (.int .u8 1),.v (.bool (PQ (dv 0 1)).n),c2,.v (.bool (PQ (dv 0 1)).d),d2,.v (.string ⟨#[99,111,115,116]⟩),.v (.int .u8 2),.v (.bool (PQ (dv 0 1)).n),c2,.v (.bool (PQ (dv 0 1)).d),d2,.v (.string ⟨#[102,114,101,101]⟩),.v (.int .u8 3),.v (.bool (PQ (dv 0 1)).n),c2,.v (.bool (PQ (dv 0 1)).d),d2,.v (.string ⟨#[109,101,97,108,115]⟩),.v (.int .u8 4),.v (.bool (PQ (dv 5000 10000)).n),c9,.v (.bool (PQ (dv 5000 10000)).d),d9,.v (.string ⟨#[103,105,102,116,115]⟩),.v (.int .u8 5),.v (.bool (PQ (dv 10000 100)).n),c11,.v (.bool (PQ (dv 10000 100)).d),d11,.v (.string ⟨#[97,100,115]⟩),.v (.int .u8 6),.v (.bool (PQ (dv 2 1)).n),c13,.v (.bool (PQ (dv 2 1)).d),d13,.v (.string ⟨#[100,101,112]⟩),.v (.int .u8 7),.v (.bool (PQ (dv 0 1)).n),c2,.v (.bool (PQ (dv 0 1)).d),d2,.v (.string ⟨#[105,110,116,45,105,110]⟩),.v (.int .u8 8),.v (.bool (PQ (dv 0 1)).n),c2,.v (.bool (PQ (dv 0 1)).d),d2,.v (.string ⟨#[105,110,116,45,111,117,116]⟩),.v (.int .u8 9),.v (.bool (PQ (dv 0 1)).n),c2,.v (.bool (PQ (dv 0 1)).d),d2,.v (.string ⟨#[100,105,118]⟩),.v (.int .u8 10),.v (.bool (PQ (dv 0 1)).n),c2,.v (.bool (PQ (dv 0 1)).d),d2,.v (.string ⟨#[100,105,115,116]⟩),.v (.int .u8 11),.v (.bool (PQ (dv 0 1)).n),c2,.v (.bool (PQ (dv 0 1)).d),d2]) (w:=fun b=>.c (.sl b 0 11 6)) rfl trivial rfl (fun _=>rfl) (fun st hst=>?_) (fun b25 hT25=>?_)
 ·simp only [stepE,fillS,AS.ev,hst 4 (by simp [Ins.sl,Od.sls,Od.sl]),hst 6 (by simp [Ins.sl,Od.sls,Od.sl]),hst 8 (by simp [Ins.sl,Od.sls,Od.sl]),hst 10 (by simp [Ins.sl,Od.sls,Od.sl]),hst 12 (by simp [Ins.sl,Od.sls,Od.sl]),hst 14 (by simp [Ins.sl,Od.sls,Od.sl]),hst 16 (by simp [Ins.sl,Od.sls,Od.sl]),hst 18 (by simp [Ins.sl,Od.sls,Od.sl]),hst 20 (by simp [Ins.sl,Od.sls,Od.sl]),hst 22 (by simp [Ins.sl,Od.sls,Od.sl]),hst 24 (by simp [Ins.sl,Od.sls,Od.sl])];kernel_rfl
 refine fg_frzZ z13 (p:=[]) rfl rfl rfl (fun _ h=>h) fun zfg25 hzfg25 g25=>?_
 have r25:SZ 6 RClass zfg25 (.c (.sl b25 0 11 6)) (gCR25 dv):=CL.sz (cl_c rfl (mk_class (a:=⟨⟨#[115,97,108,101,115]⟩,1,PQ (dv 0 1)⟩) (m2.mono (hz9.trans (hz11.trans (hz13.trans hzfg25)))) (n2.mono (hz9.trans (hz11.trans (hz13.trans hzfg25))))) (cl_c rfl (mk_class (a:=⟨⟨#[99,111,115,116]⟩,2,PQ (dv 0 1)⟩) (m2.mono (hz9.trans (hz11.trans (hz13.trans hzfg25)))) (n2.mono (hz9.trans (hz11.trans (hz13.trans hzfg25))))) (cl_c rfl (mk_class (a:=⟨⟨#[102,114,101,101]⟩,3,PQ (dv 0 1)⟩) (m2.mono (hz9.trans (hz11.trans (hz13.trans hzfg25)))) (n2.mono (hz9.trans (hz11.trans (hz13.trans hzfg25))))) (cl_c rfl (mk_class (a:=⟨⟨#[109,101,97,108,115]⟩,4,PQ (dv 5000 10000)⟩) (m9.mono (hz11.trans (hz13.trans hzfg25))) (n9.mono (hz11.trans (hz13.trans hzfg25)))) (cl_c rfl (mk_class (a:=⟨⟨#[103,105,102,116,115]⟩,5,PQ (dv 10000 100)⟩) (m11.mono (hz13.trans hzfg25)) (n11.mono (hz13.trans hzfg25))) (cl_c rfl (mk_class (a:=⟨⟨#[97,100,115]⟩,6,PQ (dv 2 1)⟩) (m13.mono (hzfg25)) (n13.mono (hzfg25))) (cl_c rfl (mk_class (a:=⟨⟨#[100,101,112]⟩,7,PQ (dv 0 1)⟩) (m2.mono (hz9.trans (hz11.trans (hz13.trans hzfg25)))) (n2.mono (hz9.trans (hz11.trans (hz13.trans hzfg25))))) (cl_c rfl (mk_class (a:=⟨⟨#[105,110,116,45,105,110]⟩,8,PQ (dv 0 1)⟩) (m2.mono (hz9.trans (hz11.trans (hz13.trans hzfg25)))) (n2.mono (hz9.trans (hz11.trans (hz13.trans hzfg25))))) (cl_c rfl (mk_class (a:=⟨⟨#[105,110,116,45,111,117,116]⟩,9,PQ (dv 0 1)⟩) (m2.mono (hz9.trans (hz11.trans (hz13.trans hzfg25)))) (n2.mono (hz9.trans (hz11.trans (hz13.trans hzfg25))))) (cl_c rfl (mk_class (a:=⟨⟨#[100,105,118]⟩,10,PQ (dv 0 1)⟩) (m2.mono (hz9.trans (hz11.trans (hz13.trans hzfg25)))) (n2.mono (hz9.trans (hz11.trans (hz13.trans hzfg25))))) (cl_c rfl (mk_class (a:=⟨⟨#[100,105,115,116]⟩,11,PQ (dv 0 1)⟩) (m2.mono (hz9.trans (hz11.trans (hz13.trans hzfg25)))) (n2.mono (hz9.trans (hz11.trans (hz13.trans hzfg25))))) (CL.nil)))))))))))) rfl (by decide) g25
 refine gP rfl rfl trivial ?_
 refine lC rfl (lN ?_)
 refine fg_nil (xT (rQ (.inl rfl) (rt rfl rn) ?_))
 exact ⟨_,rfl,r25⟩
theorem c_fil_Small {dv:Int→Int→Rat} (hdv:∀ n d,dv n d=Rat.divInt n d) {k:Nat} (hk:12≤k) {z:Mem}  : FC (E k) 83 [] z fun v z'=>∃ cs,v=.agg cs∧RFiling z' cs (gSmall dv):=by
 refine fc_of (tS_get83) (by omega) (len1 rfl) fun B j hj=>?_
 refine xR ?_
 refine fl_alloc fun b0=>?_
 refine lN (xR ?_)
 refine lZ z (q_money hdv (n:=0) (by omega) (by decide) (by decide)) rfl rfl fun v1 z1 hz1 ⟨c1,d1,hv1,m1,n1⟩=>?_
 subst hv1
 refine lZ z1 (q_share hdv (n:=2500) (by omega) (by decide) (by decide)) rfl rfl fun v2 z2 hz2 ⟨c2,d2,hv2,m2,n2⟩=>?_
 subst hv2
 refine fl_bd (cs:=[.v (.bool (PQ (dv 0 100)).n),c1,.v (.bool (PQ (dv 0 100)).d),d1,.v (.bool (PQ (dv 2500 10000)).n),c2,.v (.bool (PQ (dv 2500 10000)).d),d2]) rfl ?_
 refine fl_bslice (cs:=[.v (.bool (PQ (dv 0 100)).n),c1,.v (.bool (PQ (dv 0 100)).d),d1,.v (.bool (PQ (dv 2500 10000)).n),c2,.v (.bool (PQ (dv 2500 10000)).d),d2]) rfl fun b4=>?_
 refine fl_frzZ z2 (p:=[]) rfl rfl rfl (fun _ h=>h) fun zfg4 hzfg4 g4=>?_
 have r4:SZ 8 RBracket zfg4 (.c (.sl b4 0 1 8)) (gSR4 dv):=CL.sz (cl_c rfl (mk_bracket (a:=⟨PQ (dv 0 100),PQ (dv 2500 10000)⟩) (m1.mono (hz2.trans hzfg4)) (n1.mono (hz2.trans hzfg4)) (m2.mono (hzfg4)) (n2.mono (hzfg4))) (CL.nil)) rfl (by decide) g4
 refine lZ zfg4 (q_share hdv (n:=7500) (by omega) (by decide) (by decide)) rfl rfl fun v5 z5 hz5 ⟨c5,d5,hv5,m5,n5⟩=>?_
 subst hv5
 refine lZ z5 (q_share hdv (n:=5000) (by omega) (by decide) (by decide)) rfl rfl fun v6 z6 hz6 ⟨c6,d6,hv6,m6,n6⟩=>?_
 subst hv6
 refine lZ z6 (q_share hdv (n:=3000) (by omega) (by decide) (by decide)) rfl rfl fun v7 z7 hz7 ⟨c7,d7,hv7,m7,n7⟩=>?_
 subst hv7
 refine lZ z7 (q_money hdv (n:=0) (by omega) (by decide) (by decide)) rfl rfl fun v8 z8 hz8 ⟨c8,d8,hv8,m8,n8⟩=>?_
 subst hv8
 refine fl_bslice (cs:=(cE Value.string [⟨#[80]⟩])) rfl fun b9=>?_
 refine fl_frzZ z8 (p:=[]) rfl rfl rfl (fun _ h=>h) fun zfg9 hzfg9 g9=>?_
 have r9:SZ 1 RS zfg9 (.c (.sl b9 0 1 1)) gSR9:=cE_cl.sz rfl (by decide) g9
 refine fl_bd (cs:=[.v (.int .i64 2020),.v (.slice none 0 0),.v (.slice none 0 0),.v (.slice none 0 0),.v (.slice none 0 0),.v (.slice none 0 0)]) rfl ?_
 refine fl_bslice (cs:=[.v (.int .i64 2020),.v (.slice none 0 0),.v (.slice none 0 0),.v (.slice none 0 0),.v (.slice none 0 0),.v (.slice none 0 0)]) rfl fun b11=>?_
 refine fl_frzZ zfg9 (p:=[]) rfl rfl rfl (fun _ h=>h) fun zfg11 hzfg11 g11=>?_
 have r11:SZ 6 RYear zfg11 (.c (.sl b11 0 1 6)) (gSR11 dv):=CL.sz (cl_c rfl (mk_year (a:=⟨2020,[],[],[],[],[]⟩) .nil .nil .nil .nil .nil) (CL.nil)) rfl (by decide) g11
 refine fl_bd (cs:=[.v (.string ⟨#[83]⟩),.v (.string ⟨#[80]⟩),.sl b4 0 1 8,.v (.bool (PQ (dv 7500 10000)).n),c5,.v (.bool (PQ (dv 7500 10000)).d),d5,.v (.bool (PQ (dv 5000 10000)).n),c6,.v (.bool (PQ (dv 5000 10000)).d),d6,.v (.int .i64 1),.v (.int .i64 2),.v (.bool (PQ (dv 3000 10000)).n),c7,.v (.bool (PQ (dv 3000 10000)).d),d7,.v (.bool (PQ (dv 0 100)).n),c8,.v (.bool (PQ (dv 0 100)).d),d8,.v (.int .i64 1),.v (.slice none 0 0),.sl b9 0 1 1,.sl b11 0 1 6]) (by kernel_rfl) ?_
 refine fl_stE (cs':=[.v (.string ⟨#[83]⟩),.v (.string ⟨#[80]⟩),.sl b4 0 1 8,.v (.bool (PQ (dv 7500 10000)).n),c5,.v (.bool (PQ (dv 7500 10000)).d),d5,.v (.bool (PQ (dv 5000 10000)).n),c6,.v (.bool (PQ (dv 5000 10000)).d),d6,.v (.int .i64 1),.v (.int .i64 2),.v (.bool (PQ (dv 3000 10000)).n),c7,.v (.bool (PQ (dv 3000 10000)).d),d7,.v (.bool (PQ (dv 0 100)).n),c8,.v (.bool (PQ (dv 0 100)).d),d8,.v (.int .i64 1),.v (.slice none 0 0),.sl b9 0 1 1,.sl b11 0 1 6]) rfl rfl rfl rep0 rfl rfl (Nat.le_of_ble_eq_true rfl) ?_
 refine lN (xT (rQ (.inl rfl) (rcAll rfl mem0 rfl rn) ?_))
 exact ⟨_,rfl,mk_filing (a:=gSmall dv) (r4.mono (hz5.trans (hz6.trans (hz7.trans (hz8.trans (hzfg9.trans hzfg11)))))) (m5.mono (hz6.trans (hz7.trans (hz8.trans (hzfg9.trans hzfg11))))) (n5.mono (hz6.trans (hz7.trans (hz8.trans (hzfg9.trans hzfg11))))) (m6.mono (hz7.trans (hz8.trans (hzfg9.trans hzfg11)))) (n6.mono (hz7.trans (hz8.trans (hzfg9.trans hzfg11)))) (m7.mono (hz8.trans (hzfg9.trans hzfg11))) (n7.mono (hz8.trans (hzfg9.trans hzfg11))) (m8.mono (hzfg9.trans hzfg11)) (n8.mono (hzfg9.trans hzfg11)) .nil (r9.mono (hzfg11)) r11⟩
theorem c_fil_first {dv:Int→Int→Rat} (hdv:∀ n d,dv n d=Rat.divInt n d) {k:Nat} (hk:13≤k) {z:Mem}  : FC (E k) 87 [] z fun v z'=>∃ cs,v=.agg cs∧RYear z' cs (gFirst dv):=by
 refine fc_of (tS_get87) (by omega) (len1 rfl) fun B j hj=>?_
 refine xR ?_
 refine fl_alloc fun b0=>?_
 refine lN (xR (fl_bd (cs:=[.v (.int .i64 2020),.v (.slice none 0 0),.v (.slice none 0 0),.v (.slice none 0 0),.v (.slice none 0 0),.v (.slice none 0 0)]) rfl ?_))
 refine fl_alloc fun b1=>?_
 refine fl_stE (cs':=[.v (.int .i64 2020),.v (.slice none 0 0),.v (.slice none 0 0),.v (.slice none 0 0),.v (.slice none 0 0),.v (.slice none 0 0)]) rfl rfl rfl rep0 rfl rfl (Nat.le_of_ble_eq_true rfl) (lN (xR ?_))
 refine lZ z (q_share hdv (n:=10000) (by omega) (by decide) (by decide)) rfl rfl fun v3 z3 hz3 ⟨c3,d3,hv3,m3,n3⟩=>?_
 subst hv3
 refine fl_bd (cs:=[.v (.string ⟨#[80]⟩),.v (.string ⟨#[65]⟩),.v (.bool (PQ (dv 10000 10000)).n),c3,.v (.bool (PQ (dv 10000 10000)).d),d3]) rfl ?_
 refine lZ z3 (q_share hdv (n:=5000) (by omega) (by decide) (by decide)) rfl rfl fun v5 z5 hz5 ⟨c5,d5,hv5,m5,n5⟩=>?_
 subst hv5
 refine fl_bd (cs:=[.v (.string ⟨#[65]⟩),.v (.string ⟨#[66]⟩),.v (.bool (PQ (dv 5000 10000)).n),c5,.v (.bool (PQ (dv 5000 10000)).d),d5]) rfl ?_
 refine lZ z5 (q_share hdv (n:=3000) (by omega) (by decide) (by decide)) rfl rfl fun v7 z7 hz7 ⟨c7,d7,hv7,m7,n7⟩=>?_
 subst hv7
 refine fl_bd (cs:=[.v (.string ⟨#[80]⟩),.v (.string ⟨#[66]⟩),.v (.bool (PQ (dv 3000 10000)).n),c7,.v (.bool (PQ (dv 3000 10000)).d),d7]) rfl ?_
 refine lZ z7 (q_share hdv (n:=4000) (by omega) (by decide) (by decide)) rfl rfl fun v9 z9 hz9 ⟨c9,d9,hv9,m9,n9⟩=>?_
 subst hv9
 refine fl_bd (cs:=[.v (.string ⟨#[80]⟩),.v (.string ⟨#[67]⟩),.v (.bool (PQ (dv 4000 10000)).n),c9,.v (.bool (PQ (dv 4000 10000)).d),d9]) rfl ?_
 refine lZ z9 (q_share hdv (n:=10000) (by omega) (by decide) (by decide)) rfl rfl fun v11 z11 hz11 ⟨c11,d11,hv11,m11,n11⟩=>?_
 subst hv11
 refine fl_bd (cs:=[.v (.string ⟨#[67]⟩),.v (.string ⟨#[68]⟩),.v (.bool (PQ (dv 10000 10000)).n),c11,.v (.bool (PQ (dv 10000 10000)).d),d11]) rfl ?_
 refine fl_bslice (cs:=[.v (.string ⟨#[80]⟩),.v (.string ⟨#[65]⟩),.v (.bool (PQ (dv 10000 10000)).n),c3,.v (.bool (PQ (dv 10000 10000)).d),d3,.v (.string ⟨#[65]⟩),.v (.string ⟨#[66]⟩),.v (.bool (PQ (dv 5000 10000)).n),c5,.v (.bool (PQ (dv 5000 10000)).d),d5,.v (.string ⟨#[80]⟩),.v (.string ⟨#[66]⟩),.v (.bool (PQ (dv 3000 10000)).n),c7,.v (.bool (PQ (dv 3000 10000)).d),d7,.v (.string ⟨#[80]⟩),.v (.string ⟨#[67]⟩),.v (.bool (PQ (dv 4000 10000)).n),c9,.v (.bool (PQ (dv 4000 10000)).d),d9,.v (.string ⟨#[67]⟩),.v (.string ⟨#[68]⟩),.v (.bool (PQ (dv 10000 10000)).n),c11,.v (.bool (PQ (dv 10000 10000)).d),d11]) rfl fun b13=>?_
 refine fl_frzZ z11 (p:=[]) rfl rfl rfl (fun _ h=>h) fun zfg13 hzfg13 g13=>?_
 have r13:SZ 6 RHold zfg13 (.c (.sl b13 0 5 6)) (g1R13 dv):=CL.sz (cl_c rfl (mk_hold (a:=⟨⟨#[80]⟩,⟨#[65]⟩,PQ (dv 10000 10000)⟩) (m3.mono (hz5.trans (hz7.trans (hz9.trans (hz11.trans hzfg13))))) (n3.mono (hz5.trans (hz7.trans (hz9.trans (hz11.trans hzfg13)))))) (cl_c rfl (mk_hold (a:=⟨⟨#[65]⟩,⟨#[66]⟩,PQ (dv 5000 10000)⟩) (m5.mono (hz7.trans (hz9.trans (hz11.trans hzfg13)))) (n5.mono (hz7.trans (hz9.trans (hz11.trans hzfg13))))) (cl_c rfl (mk_hold (a:=⟨⟨#[80]⟩,⟨#[66]⟩,PQ (dv 3000 10000)⟩) (m7.mono (hz9.trans (hz11.trans hzfg13))) (n7.mono (hz9.trans (hz11.trans hzfg13)))) (cl_c rfl (mk_hold (a:=⟨⟨#[80]⟩,⟨#[67]⟩,PQ (dv 4000 10000)⟩) (m9.mono (hz11.trans hzfg13)) (n9.mono (hz11.trans hzfg13))) (cl_c rfl (mk_hold (a:=⟨⟨#[67]⟩,⟨#[68]⟩,PQ (dv 10000 10000)⟩) (m11.mono (hzfg13)) (n11.mono (hzfg13))) (CL.nil)))))) rfl (by decide) g13
 refine lF rfl (fl_stE (cs':=[.v (.int .i64 2020),.sl b13 0 5 6,.v (.slice none 0 0),.v (.slice none 0 0),.v (.slice none 0 0),.v (.slice none 0 0)]) rfl rfl rfl rep0 rfl rfl (Nat.le_of_ble_eq_true rfl) (lN (xR ?_)))
 refine lZ zfg13 (q_money hdv (n:=100000) (by omega) (by decide) (by decide)) rfl rfl fun v15 z15 hz15 ⟨c15,d15,hv15,m15,n15⟩=>?_
 subst hv15
 refine fl_bd (cs:=[.v (.string ⟨#[80]⟩),.v (.string ⟨#[115,97,108,101,115]⟩),.v (.bool (PQ (dv 100000 100)).n),c15,.v (.bool (PQ (dv 100000 100)).d),d15]) rfl ?_
 refine lZ z15 (q_money hdv (n:=40000) (by omega) (by decide) (by decide)) rfl rfl fun v17 z17 hz17 ⟨c17,d17,hv17,m17,n17⟩=>?_
 subst hv17
 refine fl_bd (cs:=[.v (.string ⟨#[80]⟩),.v (.string ⟨#[99,111,115,116]⟩),.v (.bool (PQ (dv 40000 100)).n),c17,.v (.bool (PQ (dv 40000 100)).d),d17]) rfl ?_
 refine lZ z17 (q_money hdv (n:=20000) (by omega) (by decide) (by decide)) rfl rfl fun v19 z19 hz19 ⟨c19,d19,hv19,m19,n19⟩=>?_
 subst hv19
 refine fl_bd (cs:=[.v (.string ⟨#[80]⟩),.v (.string ⟨#[105,110,116,45,111,117,116]⟩),.v (.bool (PQ (dv 20000 100)).n),c19,.v (.bool (PQ (dv 20000 100)).d),d19]) rfl ?_
 refine lZ z19 (q_money hdv (n:=50000) (by omega) (by decide) (by decide)) rfl rfl fun v21 z21 hz21 ⟨c21,d21,hv21,m21,n21⟩=>?_
 subst hv21
 refine fl_bd (cs:=[.v (.string ⟨#[65]⟩),.v (.string ⟨#[115,97,108,101,115]⟩),.v (.bool (PQ (dv 50000 100)).n),c21,.v (.bool (PQ (dv 50000 100)).d),d21]) rfl ?_
 refine lZ z21 (q_money hdv (n:=90000) (by omega) (by decide) (by decide)) rfl rfl fun v23 z23 hz23 ⟨c23,d23,hv23,m23,n23⟩=>?_
 subst hv23
 refine fl_bd (cs:=[.v (.string ⟨#[65]⟩),.v (.string ⟨#[99,111,115,116]⟩),.v (.bool (PQ (dv 90000 100)).n),c23,.v (.bool (PQ (dv 90000 100)).d),d23]) rfl ?_
 refine lZ z23 (q_money hdv (n:=4001) (by omega) (by decide) (by decide)) rfl rfl fun v25 z25 hz25 ⟨c25,d25,hv25,m25,n25⟩=>?_
 subst hv25
 refine fl_bd (cs:=[.v (.string ⟨#[65]⟩),.v (.string ⟨#[109,101,97,108,115]⟩),.v (.bool (PQ (dv 4001 100)).n),c25,.v (.bool (PQ (dv 4001 100)).d),d25]) rfl ?_
 refine lZ z25 (q_money hdv (n:=9000) (by omega) (by decide) (by decide)) rfl rfl fun v27 z27 hz27 ⟨c27,d27,hv27,m27,n27⟩=>?_
 subst hv27
 refine fl_bd (cs:=[.v (.string ⟨#[65]⟩),.v (.string ⟨#[97,100,115]⟩),.v (.bool (PQ (dv 9000 100)).n),c27,.v (.bool (PQ (dv 9000 100)).d),d27]) rfl ?_
 refine lZ z27 (q_money hdv (n:=30000) (by omega) (by decide) (by decide)) rfl rfl fun v29 z29 hz29 ⟨c29,d29,hv29,m29,n29⟩=>?_
 subst hv29
 refine fl_bd (cs:=[.v (.string ⟨#[66]⟩),.v (.string ⟨#[115,97,108,101,115]⟩),.v (.bool (PQ (dv 30000 100)).n),c29,.v (.bool (PQ (dv 30000 100)).d),d29]) rfl ?_
 refine lZ z29 (q_money hdv (n:=3000) (by omega) (by decide) (by decide)) rfl rfl fun v31 z31 hz31 ⟨c31,d31,hv31,m31,n31⟩=>?_
 subst hv31
 refine fl_bd (cs:=[.v (.string ⟨#[66]⟩),.v (.string ⟨#[100,101,112]⟩),.v (.bool (PQ (dv 3000 100)).n),c31,.v (.bool (PQ (dv 3000 100)).d),d31]) rfl ?_
 refine lZ z31 (q_money hdv (n:=2000) (by omega) (by decide) (by decide)) rfl rfl fun v33 z33 hz33 ⟨c33,d33,hv33,m33,n33⟩=>?_
 subst hv33
 refine fl_bd (cs:=[.v (.string ⟨#[66]⟩),.v (.string ⟨#[105,110,116,45,105,110]⟩),.v (.bool (PQ (dv 2000 100)).n),c33,.v (.bool (PQ (dv 2000 100)).d),d33]) rfl ?_
 refine lZ z33 (q_money hdv (n:=25000) (by omega) (by decide) (by decide)) rfl rfl fun v35 z35 hz35 ⟨c35,d35,hv35,m35,n35⟩=>?_
 subst hv35
 refine fl_bd (cs:=[.v (.string ⟨#[67]⟩),.v (.string ⟨#[99,111,115,116]⟩),.v (.bool (PQ (dv 25000 100)).n),c35,.v (.bool (PQ (dv 25000 100)).d),d35]) rfl ?_
 refine lZ z35 (q_money hdv (n:=5000) (by omega) (by decide) (by decide)) rfl rfl fun v37 z37 hz37 ⟨c37,d37,hv37,m37,n37⟩=>?_
 subst hv37
 refine fl_bd (cs:=[.v (.string ⟨#[67]⟩),.v (.string ⟨#[115,97,108,101,115]⟩),.v (.bool (PQ (dv 5000 100)).n),c37,.v (.bool (PQ (dv 5000 100)).d),d37]) rfl ?_
 refine lZ z37 (q_money hdv (n:=777) (by omega) (by decide) (by decide)) rfl rfl fun v39 z39 hz39 ⟨c39,d39,hv39,m39,n39⟩=>?_
 subst hv39
 refine fl_bd (cs:=[.v (.string ⟨#[68]⟩),.v (.string ⟨#[102,114,101,101]⟩),.v (.bool (PQ (dv 777 100)).n),c39,.v (.bool (PQ (dv 777 100)).d),d39]) rfl ?_
 refine fl_bslice (cs:=[.v (.string ⟨#[80]⟩),.v (.string ⟨#[115,97,108,101,115]⟩),.v (.bool (PQ (dv 100000 100)).n),c15,.v (.bool (PQ (dv 100000 100)).d),d15,.v (.string ⟨#[80]⟩),.v (.string ⟨#[99,111,115,116]⟩),.v (.bool (PQ (dv 40000 100)).n),c17,.v (.bool (PQ (dv 40000 100)).d),d17,.v (.string ⟨#[80]⟩),.v (.string ⟨#[105,110,116,45,111,117,116]⟩),.v (.bool (PQ (dv 20000 100)).n),c19,.v (.bool (PQ (dv 20000 100)).d),d19,.v (.string ⟨#[65]⟩),.v (.string ⟨#[115,97,108,101,115]⟩),.v (.bool (PQ (dv 50000 100)).n),c21,.v (.bool (PQ (dv 50000 100)).d),d21,.v (.string ⟨#[65]⟩),.v (.string ⟨#[99,111,115,116]⟩),.v (.bool (PQ (dv 90000 100)).n),c23,.v (.bool (PQ (dv 90000 100)).d),d23,.v (.string ⟨#[65]⟩),.v (.string ⟨#[109,101,97,108,115]⟩),.v (.bool (PQ (dv 4001 100)).n),c25,.v (.bool (PQ (dv 4001 100)).d),d25,.v (.string ⟨#[65]⟩),.v (.string ⟨#[97,100,115]⟩),.v (.bool (PQ (dv 9000 100)).n),c27,.v (.bool (PQ (dv 9000 100)).d),d27,.v (.string ⟨#[66]⟩),.v (.string ⟨#[115,97,108,101,115]⟩),.v (.bool (PQ (dv 30000 100)).n),c29,.v (.bool (PQ (dv 30000 100)).d),d29,.v (.string ⟨#[66]⟩),.v (.string ⟨#[100,101,112]⟩),.v (.bool (PQ (dv 3000 100)).n),c31,.v (.bool (PQ (dv 3000 100)).d),d31,.v (.string ⟨#[66]⟩),.v (.string ⟨#[105,110,116,45,105,110]⟩),.v (.bool (PQ (dv 2000 100)).n),c33,.v (.bool (PQ (dv 2000 100)).d),d33,.v (.string ⟨#[67]⟩),.v (.string ⟨#[99,111,115,116]⟩),.v (.bool (PQ (dv 25000 100)).n),c35,.v (.bool (PQ (dv 25000 100)).d),d35,.v (.string ⟨#[67]⟩),.v (.string ⟨#[115,97,108,101,115]⟩),.v (.bool (PQ (dv 5000 100)).n),c37,.v (.bool (PQ (dv 5000 100)).d),d37,.v (.string ⟨#[68]⟩),.v (.string ⟨#[102,114,101,101]⟩),.v (.bool (PQ (dv 777 100)).n),c39,.v (.bool (PQ (dv 777 100)).d),d39]) (by kernel_rfl) fun b41=>?_
 refine fl_frzZ z39 (p:=[]) rfl rfl rfl (fun _ h=>h) fun zfg41 hzfg41 g41=>?_
 have r41:SZ 6 RBook zfg41 (.c (.sl b41 0 13 6)) (g1R41 dv):=CL.sz (cl_c rfl (mk_book (a:=⟨⟨#[80]⟩,⟨#[115,97,108,101,115]⟩,PQ (dv 100000 100)⟩) (m15.mono (hz17.trans (hz19.trans (hz21.trans (hz23.trans (hz25.trans (hz27.trans (hz29.trans (hz31.trans (hz33.trans (hz35.trans (hz37.trans (hz39.trans hzfg41))))))))))))) (n15.mono (hz17.trans (hz19.trans (hz21.trans (hz23.trans (hz25.trans (hz27.trans (hz29.trans (hz31.trans (hz33.trans (hz35.trans (hz37.trans (hz39.trans hzfg41)))))))))))))) (cl_c rfl (mk_book (a:=⟨⟨#[80]⟩,⟨#[99,111,115,116]⟩,PQ (dv 40000 100)⟩) (m17.mono (hz19.trans (hz21.trans (hz23.trans (hz25.trans (hz27.trans (hz29.trans (hz31.trans (hz33.trans (hz35.trans (hz37.trans (hz39.trans hzfg41)))))))))))) (n17.mono (hz19.trans (hz21.trans (hz23.trans (hz25.trans (hz27.trans (hz29.trans (hz31.trans (hz33.trans (hz35.trans (hz37.trans (hz39.trans hzfg41))))))))))))) (cl_c rfl (mk_book (a:=⟨⟨#[80]⟩,⟨#[105,110,116,45,111,117,116]⟩,PQ (dv 20000 100)⟩) (m19.mono (hz21.trans (hz23.trans (hz25.trans (hz27.trans (hz29.trans (hz31.trans (hz33.trans (hz35.trans (hz37.trans (hz39.trans hzfg41))))))))))) (n19.mono (hz21.trans (hz23.trans (hz25.trans (hz27.trans (hz29.trans (hz31.trans (hz33.trans (hz35.trans (hz37.trans (hz39.trans hzfg41)))))))))))) (cl_c rfl (mk_book (a:=⟨⟨#[65]⟩,⟨#[115,97,108,101,115]⟩,PQ (dv 50000 100)⟩) (m21.mono (hz23.trans (hz25.trans (hz27.trans (hz29.trans (hz31.trans (hz33.trans (hz35.trans (hz37.trans (hz39.trans hzfg41)))))))))) (n21.mono (hz23.trans (hz25.trans (hz27.trans (hz29.trans (hz31.trans (hz33.trans (hz35.trans (hz37.trans (hz39.trans hzfg41))))))))))) (cl_c rfl (mk_book (a:=⟨⟨#[65]⟩,⟨#[99,111,115,116]⟩,PQ (dv 90000 100)⟩) (m23.mono (hz25.trans (hz27.trans (hz29.trans (hz31.trans (hz33.trans (hz35.trans (hz37.trans (hz39.trans hzfg41))))))))) (n23.mono (hz25.trans (hz27.trans (hz29.trans (hz31.trans (hz33.trans (hz35.trans (hz37.trans (hz39.trans hzfg41)))))))))) (cl_c rfl (mk_book (a:=⟨⟨#[65]⟩,⟨#[109,101,97,108,115]⟩,PQ (dv 4001 100)⟩) (m25.mono (hz27.trans (hz29.trans (hz31.trans (hz33.trans (hz35.trans (hz37.trans (hz39.trans hzfg41)))))))) (n25.mono (hz27.trans (hz29.trans (hz31.trans (hz33.trans (hz35.trans (hz37.trans (hz39.trans hzfg41))))))))) (cl_c rfl (mk_book (a:=⟨⟨#[65]⟩,⟨#[97,100,115]⟩,PQ (dv 9000 100)⟩) (m27.mono (hz29.trans (hz31.trans (hz33.trans (hz35.trans (hz37.trans (hz39.trans hzfg41))))))) (n27.mono (hz29.trans (hz31.trans (hz33.trans (hz35.trans (hz37.trans (hz39.trans hzfg41)))))))) (cl_c rfl (mk_book (a:=⟨⟨#[66]⟩,⟨#[115,97,108,101,115]⟩,PQ (dv 30000 100)⟩) (m29.mono (hz31.trans (hz33.trans (hz35.trans (hz37.trans (hz39.trans hzfg41)))))) (n29.mono (hz31.trans (hz33.trans (hz35.trans (hz37.trans (hz39.trans hzfg41))))))) (cl_c rfl (mk_book (a:=⟨⟨#[66]⟩,⟨#[100,101,112]⟩,PQ (dv 3000 100)⟩) (m31.mono (hz33.trans (hz35.trans (hz37.trans (hz39.trans hzfg41))))) (n31.mono (hz33.trans (hz35.trans (hz37.trans (hz39.trans hzfg41)))))) (cl_c rfl (mk_book (a:=⟨⟨#[66]⟩,⟨#[105,110,116,45,105,110]⟩,PQ (dv 2000 100)⟩) (m33.mono (hz35.trans (hz37.trans (hz39.trans hzfg41)))) (n33.mono (hz35.trans (hz37.trans (hz39.trans hzfg41))))) (cl_c rfl (mk_book (a:=⟨⟨#[67]⟩,⟨#[99,111,115,116]⟩,PQ (dv 25000 100)⟩) (m35.mono (hz37.trans (hz39.trans hzfg41))) (n35.mono (hz37.trans (hz39.trans hzfg41)))) (cl_c rfl (mk_book (a:=⟨⟨#[67]⟩,⟨#[115,97,108,101,115]⟩,PQ (dv 5000 100)⟩) (m37.mono (hz39.trans hzfg41)) (n37.mono (hz39.trans hzfg41))) (cl_c rfl (mk_book (a:=⟨⟨#[68]⟩,⟨#[102,114,101,101]⟩,PQ (dv 777 100)⟩) (m39.mono (hzfg41)) (n39.mono (hzfg41))) (CL.nil)))))))))))))) rfl (by decide) g41
 refine lF rfl (fl_stE (cs':=[.v (.int .i64 2020),.sl b13 0 5 6,.sl b41 0 13 6,.v (.slice none 0 0),.v (.slice none 0 0),.v (.slice none 0 0)]) rfl rfl rfl rep0 rfl rfl (Nat.le_of_ble_eq_true rfl) (lN (xR ?_)))
 refine fl_callLZ zfg41 [] (c_fil_deal hdv (id:=⟨#[71,49]⟩) (kd:=1) (pe:=⟨#[65]⟩) (pr:=⟨#[80]⟩) (ci:=⟨#[115,97,108,101,115]⟩) (co:=⟨#[99,111,115,116]⟩) (n:=12000) (by omega) (by decide) (by decide)) rfl rfl rfl fun v43 z43 H43 hz43 ⟨c43,cs43,hv43,hH43,k43⟩=>?_
 subst hv43
 subst hH43
 refine fl_callLZ z43 [] (c_fil_deal hdv (id:=⟨#[76,49]⟩) (kd:=3) (pe:=⟨#[66]⟩) (pr:=⟨#[80]⟩) (ci:=⟨#[105,110,116,45,105,110]⟩) (co:=⟨#[105,110,116,45,111,117,116]⟩) (n:=2000) (by omega) (by decide) (by decide)) rfl rfl rfl fun v44 z44 H44 hz44 ⟨c44,cs44,hv44,hH44,k44⟩=>?_
 subst hv44
 subst hH44
 refine fl_frzN z44 (p:=[]) rfl rfl k44 rfl (Nat.le_of_ble_eq_true rfl) fun zfr44 hzfr44 r44=>?_
 refine fl_appS rfl rfl r44 (fun _ _=>rep0) (Nat.le_of_ble_eq_true rfl) (Nat.le_of_ble_eq_true rfl) fun c45 hc45 ns45 kn45=>?_
 refine fl_frzN zfr44 (p:=[]) rfl rfl ((k43.mono (hz44.trans hzfr44)).append kn45) rfl (Nat.le_of_ble_eq_true rfl) fun zfr45 hzfr45 r45=>?_
 have r45:SZ 10 RDeal zfr45 (.c c45) (g1R45 dv):=r45
 refine lF rfl (fl_stE (cs':=[.v (.int .i64 2020),.sl b13 0 5 6,.sl b41 0 13 6,c45,.v (.slice none 0 0),.v (.slice none 0 0)]) rfl rfl rfl rep0 rfl rfl (Nat.le_of_ble_eq_true rfl) (lN (xR ?_)))
 refine lZ zfr45 (q_money hdv (n:=3000) (by omega) (by decide) (by decide)) rfl rfl fun v47 z47 hz47 ⟨c47,d47,hv47,m47,n47⟩=>?_
 subst hv47
 refine lZ z47 (q_share hdv (n:=5000) (by omega) (by decide) (by decide)) rfl rfl fun v48 z48 hz48 ⟨c48,d48,hv48,m48,n48⟩=>?_
 subst hv48
 refine fl_bd (cs:=[.v (.string ⟨#[71,49]⟩),.v (.bool (PQ (dv 3000 100)).n),c47,.v (.bool (PQ (dv 3000 100)).d),d47,.v (.bool (PQ (dv 5000 10000)).n),c48,.v (.bool (PQ (dv 5000 10000)).d),d48]) rfl ?_
 refine fl_bslice (cs:=[.v (.string ⟨#[71,49]⟩),.v (.bool (PQ (dv 3000 100)).n),c47,.v (.bool (PQ (dv 3000 100)).d),d47,.v (.bool (PQ (dv 5000 10000)).n),c48,.v (.bool (PQ (dv 5000 10000)).d),d48]) rfl fun b50=>?_
 refine fl_frzZ z48 (p:=[]) rfl rfl rfl (fun _ h=>h) fun zfg50 hzfg50 g50=>?_
 have r50:SZ 9 RStock zfg50 (.c (.sl b50 0 1 9)) (g1R50 dv):=CL.sz (cl_c rfl (mk_stock (a:=⟨⟨#[71,49]⟩,PQ (dv 3000 100),PQ (dv 5000 10000)⟩) (m47.mono (hz48.trans hzfg50)) (n47.mono (hz48.trans hzfg50)) (m48.mono (hzfg50)) (n48.mono (hzfg50))) (CL.nil)) rfl (by decide) g50
 refine lF rfl (fl_stE (cs':=[.v (.int .i64 2020),.sl b13 0 5 6,.sl b41 0 13 6,c45,.sl b50 0 1 9,.v (.slice none 0 0)]) rfl rfl rfl rep0 rfl rfl (Nat.le_of_ble_eq_true rfl) (lN (xR (fl_ldAll rfl mem0 rfl (fl_stE (cs':=[.v (.int .i64 2020),.sl b13 0 5 6,.sl b41 0 13 6,c45,.sl b50 0 1 9,.v (.slice none 0 0)]) rfl rfl rfl (repS rep0) rfl rfl (Nat.le_of_ble_eq_true rfl) (lN (xT ?_)))))))
 refine rQ (.inl rfl) (rcAll rfl (memS mem0) rfl rn) ?_
 exact ⟨_,rfl,mk_year (a:=gFirst dv) (r13.mono (hz15.trans (hz17.trans (hz19.trans (hz21.trans (hz23.trans (hz25.trans (hz27.trans (hz29.trans (hz31.trans (hz33.trans (hz35.trans (hz37.trans (hz39.trans (hzfg41.trans (hz43.trans (hz44.trans (hzfr44.trans (hzfr45.trans (hz47.trans (hz48.trans hzfg50))))))))))))))))))))) (r41.mono (hz43.trans (hz44.trans (hzfr44.trans (hzfr45.trans (hz47.trans (hz48.trans hzfg50))))))) (r45.mono (hz47.trans (hz48.trans hzfg50))) r50 .nil⟩
theorem c_fil_second {dv:Int→Int→Rat} (hdv:∀ n d,dv n d=Rat.divInt n d) {k:Nat} (hk:13≤k) {z:Mem}  : FC (E k) 88 [] z fun v z'=>∃ cs,v=.agg cs∧RYear z' cs (gSecond dv):=by
 refine fc_of (tS_get88) (by omega) (len1 rfl) fun B j hj=>?_
 refine xR ?_
 refine fl_alloc fun b0=>?_
 refine lN (xR (fl_bd (cs:=[.v (.int .i64 2021),.v (.slice none 0 0),.v (.slice none 0 0),.v (.slice none 0 0),.v (.slice none 0 0),.v (.slice none 0 0)]) rfl ?_))
 refine fl_alloc fun b1=>?_
 refine fl_stE (cs':=[.v (.int .i64 2021),.v (.slice none 0 0),.v (.slice none 0 0),.v (.slice none 0 0),.v (.slice none 0 0),.v (.slice none 0 0)]) rfl rfl rfl rep0 rfl rfl (Nat.le_of_ble_eq_true rfl) (lN (xR ?_))
 refine lZ z (q_share hdv (n:=10000) (by omega) (by decide) (by decide)) rfl rfl fun v3 z3 hz3 ⟨c3,d3,hv3,m3,n3⟩=>?_
 subst hv3
 refine fl_bd (cs:=[.v (.string ⟨#[80]⟩),.v (.string ⟨#[65]⟩),.v (.bool (PQ (dv 10000 10000)).n),c3,.v (.bool (PQ (dv 10000 10000)).d),d3]) rfl ?_
 refine lZ z3 (q_share hdv (n:=5000) (by omega) (by decide) (by decide)) rfl rfl fun v5 z5 hz5 ⟨c5,d5,hv5,m5,n5⟩=>?_
 subst hv5
 refine fl_bd (cs:=[.v (.string ⟨#[65]⟩),.v (.string ⟨#[66]⟩),.v (.bool (PQ (dv 5000 10000)).n),c5,.v (.bool (PQ (dv 5000 10000)).d),d5]) rfl ?_
 refine lZ z5 (q_share hdv (n:=3000) (by omega) (by decide) (by decide)) rfl rfl fun v7 z7 hz7 ⟨c7,d7,hv7,m7,n7⟩=>?_
 subst hv7
 refine fl_bd (cs:=[.v (.string ⟨#[80]⟩),.v (.string ⟨#[66]⟩),.v (.bool (PQ (dv 3000 10000)).n),c7,.v (.bool (PQ (dv 3000 10000)).d),d7]) rfl ?_
 refine lZ z7 (q_share hdv (n:=8000) (by omega) (by decide) (by decide)) rfl rfl fun v9 z9 hz9 ⟨c9,d9,hv9,m9,n9⟩=>?_
 subst hv9
 refine fl_bd (cs:=[.v (.string ⟨#[80]⟩),.v (.string ⟨#[67]⟩),.v (.bool (PQ (dv 8000 10000)).n),c9,.v (.bool (PQ (dv 8000 10000)).d),d9]) rfl ?_
 refine lZ z9 (q_share hdv (n:=10000) (by omega) (by decide) (by decide)) rfl rfl fun v11 z11 hz11 ⟨c11,d11,hv11,m11,n11⟩=>?_
 subst hv11
 refine fl_bd (cs:=[.v (.string ⟨#[67]⟩),.v (.string ⟨#[68]⟩),.v (.bool (PQ (dv 10000 10000)).n),c11,.v (.bool (PQ (dv 10000 10000)).d),d11]) rfl ?_
 refine fl_bslice (cs:=[.v (.string ⟨#[80]⟩),.v (.string ⟨#[65]⟩),.v (.bool (PQ (dv 10000 10000)).n),c3,.v (.bool (PQ (dv 10000 10000)).d),d3,.v (.string ⟨#[65]⟩),.v (.string ⟨#[66]⟩),.v (.bool (PQ (dv 5000 10000)).n),c5,.v (.bool (PQ (dv 5000 10000)).d),d5,.v (.string ⟨#[80]⟩),.v (.string ⟨#[66]⟩),.v (.bool (PQ (dv 3000 10000)).n),c7,.v (.bool (PQ (dv 3000 10000)).d),d7,.v (.string ⟨#[80]⟩),.v (.string ⟨#[67]⟩),.v (.bool (PQ (dv 8000 10000)).n),c9,.v (.bool (PQ (dv 8000 10000)).d),d9,.v (.string ⟨#[67]⟩),.v (.string ⟨#[68]⟩),.v (.bool (PQ (dv 10000 10000)).n),c11,.v (.bool (PQ (dv 10000 10000)).d),d11]) rfl fun b13=>?_
 refine fl_frzZ z11 (p:=[]) rfl rfl rfl (fun _ h=>h) fun zfg13 hzfg13 g13=>?_
 have r13:SZ 6 RHold zfg13 (.c (.sl b13 0 5 6)) (g2R13 dv):=CL.sz (cl_c rfl (mk_hold (a:=⟨⟨#[80]⟩,⟨#[65]⟩,PQ (dv 10000 10000)⟩) (m3.mono (hz5.trans (hz7.trans (hz9.trans (hz11.trans hzfg13))))) (n3.mono (hz5.trans (hz7.trans (hz9.trans (hz11.trans hzfg13)))))) (cl_c rfl (mk_hold (a:=⟨⟨#[65]⟩,⟨#[66]⟩,PQ (dv 5000 10000)⟩) (m5.mono (hz7.trans (hz9.trans (hz11.trans hzfg13)))) (n5.mono (hz7.trans (hz9.trans (hz11.trans hzfg13))))) (cl_c rfl (mk_hold (a:=⟨⟨#[80]⟩,⟨#[66]⟩,PQ (dv 3000 10000)⟩) (m7.mono (hz9.trans (hz11.trans hzfg13))) (n7.mono (hz9.trans (hz11.trans hzfg13)))) (cl_c rfl (mk_hold (a:=⟨⟨#[80]⟩,⟨#[67]⟩,PQ (dv 8000 10000)⟩) (m9.mono (hz11.trans hzfg13)) (n9.mono (hz11.trans hzfg13))) (cl_c rfl (mk_hold (a:=⟨⟨#[67]⟩,⟨#[68]⟩,PQ (dv 10000 10000)⟩) (m11.mono (hzfg13)) (n11.mono (hzfg13))) (CL.nil)))))) rfl (by decide) g13
 refine lF rfl (fl_stE (cs':=[.v (.int .i64 2021),.sl b13 0 5 6,.v (.slice none 0 0),.v (.slice none 0 0),.v (.slice none 0 0),.v (.slice none 0 0)]) rfl rfl rfl rep0 rfl rfl (Nat.le_of_ble_eq_true rfl) (lN (xR ?_)))
 refine lZ zfg13 (q_money hdv (n:=150000) (by omega) (by decide) (by decide)) rfl rfl fun v15 z15 hz15 ⟨c15,d15,hv15,m15,n15⟩=>?_
 subst hv15
 refine fl_bd (cs:=[.v (.string ⟨#[80]⟩),.v (.string ⟨#[99,111,115,116]⟩),.v (.bool (PQ (dv 150000 100)).n),c15,.v (.bool (PQ (dv 150000 100)).d),d15]) rfl ?_
 refine lZ z15 (q_money hdv (n:=20000) (by omega) (by decide) (by decide)) rfl rfl fun v17 z17 hz17 ⟨c17,d17,hv17,m17,n17⟩=>?_
 subst hv17
 refine fl_bd (cs:=[.v (.string ⟨#[80]⟩),.v (.string ⟨#[115,97,108,101,115]⟩),.v (.bool (PQ (dv 20000 100)).n),c17,.v (.bool (PQ (dv 20000 100)).d),d17]) rfl ?_
 refine lZ z17 (q_money hdv (n:=5000) (by omega) (by decide) (by decide)) rfl rfl fun v19 z19 hz19 ⟨c19,d19,hv19,m19,n19⟩=>?_
 subst hv19
 refine fl_bd (cs:=[.v (.string ⟨#[80]⟩),.v (.string ⟨#[100,105,115,116]⟩),.v (.bool (PQ (dv 5000 100)).n),c19,.v (.bool (PQ (dv 5000 100)).d),d19]) rfl ?_
 refine lZ z19 (q_money hdv (n:=1000) (by omega) (by decide) (by decide)) rfl rfl fun v21 z21 hz21 ⟨c21,d21,hv21,m21,n21⟩=>?_
 subst hv21
 refine fl_bd (cs:=[.v (.string ⟨#[65]⟩),.v (.string ⟨#[100,105,118]⟩),.v (.bool (PQ (dv 1000 100)).n),c21,.v (.bool (PQ (dv 1000 100)).d),d21]) rfl ?_
 refine lZ z21 (q_money hdv (n:=1000) (by omega) (by decide) (by decide)) rfl rfl fun v23 z23 hz23 ⟨c23,d23,hv23,m23,n23⟩=>?_
 subst hv23
 refine fl_bd (cs:=[.v (.string ⟨#[66]⟩),.v (.string ⟨#[100,105,115,116]⟩),.v (.bool (PQ (dv 1000 100)).n),c23,.v (.bool (PQ (dv 1000 100)).d),d23]) rfl ?_
 refine lZ z23 (q_money hdv (n:=60000) (by omega) (by decide) (by decide)) rfl rfl fun v25 z25 hz25 ⟨c25,d25,hv25,m25,n25⟩=>?_
 subst hv25
 refine fl_bd (cs:=[.v (.string ⟨#[67]⟩),.v (.string ⟨#[115,97,108,101,115]⟩),.v (.bool (PQ (dv 60000 100)).n),c25,.v (.bool (PQ (dv 60000 100)).d),d25]) rfl ?_
 refine lZ z25 (q_money hdv (n:=25000) (by omega) (by decide) (by decide)) rfl rfl fun v27 z27 hz27 ⟨c27,d27,hv27,m27,n27⟩=>?_
 subst hv27
 refine fl_bd (cs:=[.v (.string ⟨#[68]⟩),.v (.string ⟨#[103,105,102,116,115]⟩),.v (.bool (PQ (dv 25000 100)).n),c27,.v (.bool (PQ (dv 25000 100)).d),d27]) rfl ?_
 refine lZ z27 (q_money hdv (n:=12345) (by omega) (by decide) (by decide)) rfl rfl fun v29 z29 hz29 ⟨c29,d29,hv29,m29,n29⟩=>?_
 subst hv29
 refine fl_bd (cs:=[.v (.string ⟨#[68]⟩),.v (.string ⟨#[115,97,108,101,115]⟩),.v (.bool (PQ (dv 12345 100)).n),c29,.v (.bool (PQ (dv 12345 100)).d),d29]) rfl ?_
 refine fl_bslice (cs:=[.v (.string ⟨#[80]⟩),.v (.string ⟨#[99,111,115,116]⟩),.v (.bool (PQ (dv 150000 100)).n),c15,.v (.bool (PQ (dv 150000 100)).d),d15,.v (.string ⟨#[80]⟩),.v (.string ⟨#[115,97,108,101,115]⟩),.v (.bool (PQ (dv 20000 100)).n),c17,.v (.bool (PQ (dv 20000 100)).d),d17,.v (.string ⟨#[80]⟩),.v (.string ⟨#[100,105,115,116]⟩),.v (.bool (PQ (dv 5000 100)).n),c19,.v (.bool (PQ (dv 5000 100)).d),d19,.v (.string ⟨#[65]⟩),.v (.string ⟨#[100,105,118]⟩),.v (.bool (PQ (dv 1000 100)).n),c21,.v (.bool (PQ (dv 1000 100)).d),d21,.v (.string ⟨#[66]⟩),.v (.string ⟨#[100,105,115,116]⟩),.v (.bool (PQ (dv 1000 100)).n),c23,.v (.bool (PQ (dv 1000 100)).d),d23,.v (.string ⟨#[67]⟩),.v (.string ⟨#[115,97,108,101,115]⟩),.v (.bool (PQ (dv 60000 100)).n),c25,.v (.bool (PQ (dv 60000 100)).d),d25,.v (.string ⟨#[68]⟩),.v (.string ⟨#[103,105,102,116,115]⟩),.v (.bool (PQ (dv 25000 100)).n),c27,.v (.bool (PQ (dv 25000 100)).d),d27,.v (.string ⟨#[68]⟩),.v (.string ⟨#[115,97,108,101,115]⟩),.v (.bool (PQ (dv 12345 100)).n),c29,.v (.bool (PQ (dv 12345 100)).d),d29]) (by kernel_rfl) fun b31=>?_
 refine fl_frzZ z29 (p:=[]) rfl rfl rfl (fun _ h=>h) fun zfg31 hzfg31 g31=>?_
 have r31:SZ 6 RBook zfg31 (.c (.sl b31 0 8 6)) (g2R31 dv):=CL.sz (cl_c rfl (mk_book (a:=⟨⟨#[80]⟩,⟨#[99,111,115,116]⟩,PQ (dv 150000 100)⟩) (m15.mono (hz17.trans (hz19.trans (hz21.trans (hz23.trans (hz25.trans (hz27.trans (hz29.trans hzfg31)))))))) (n15.mono (hz17.trans (hz19.trans (hz21.trans (hz23.trans (hz25.trans (hz27.trans (hz29.trans hzfg31))))))))) (cl_c rfl (mk_book (a:=⟨⟨#[80]⟩,⟨#[115,97,108,101,115]⟩,PQ (dv 20000 100)⟩) (m17.mono (hz19.trans (hz21.trans (hz23.trans (hz25.trans (hz27.trans (hz29.trans hzfg31))))))) (n17.mono (hz19.trans (hz21.trans (hz23.trans (hz25.trans (hz27.trans (hz29.trans hzfg31)))))))) (cl_c rfl (mk_book (a:=⟨⟨#[80]⟩,⟨#[100,105,115,116]⟩,PQ (dv 5000 100)⟩) (m19.mono (hz21.trans (hz23.trans (hz25.trans (hz27.trans (hz29.trans hzfg31)))))) (n19.mono (hz21.trans (hz23.trans (hz25.trans (hz27.trans (hz29.trans hzfg31))))))) (cl_c rfl (mk_book (a:=⟨⟨#[65]⟩,⟨#[100,105,118]⟩,PQ (dv 1000 100)⟩) (m21.mono (hz23.trans (hz25.trans (hz27.trans (hz29.trans hzfg31))))) (n21.mono (hz23.trans (hz25.trans (hz27.trans (hz29.trans hzfg31)))))) (cl_c rfl (mk_book (a:=⟨⟨#[66]⟩,⟨#[100,105,115,116]⟩,PQ (dv 1000 100)⟩) (m23.mono (hz25.trans (hz27.trans (hz29.trans hzfg31)))) (n23.mono (hz25.trans (hz27.trans (hz29.trans hzfg31))))) (cl_c rfl (mk_book (a:=⟨⟨#[67]⟩,⟨#[115,97,108,101,115]⟩,PQ (dv 60000 100)⟩) (m25.mono (hz27.trans (hz29.trans hzfg31))) (n25.mono (hz27.trans (hz29.trans hzfg31)))) (cl_c rfl (mk_book (a:=⟨⟨#[68]⟩,⟨#[103,105,102,116,115]⟩,PQ (dv 25000 100)⟩) (m27.mono (hz29.trans hzfg31)) (n27.mono (hz29.trans hzfg31))) (cl_c rfl (mk_book (a:=⟨⟨#[68]⟩,⟨#[115,97,108,101,115]⟩,PQ (dv 12345 100)⟩) (m29.mono (hzfg31)) (n29.mono (hzfg31))) (CL.nil))))))))) rfl (by decide) g31
 refine lF rfl (fl_stE (cs':=[.v (.int .i64 2021),.sl b13 0 5 6,.sl b31 0 8 6,.v (.slice none 0 0),.v (.slice none 0 0),.v (.slice none 0 0)]) rfl rfl rfl rep0 rfl rfl (Nat.le_of_ble_eq_true rfl) (lN (xR ?_)))
 refine fl_callLZ zfg31 [] (c_fil_deal hdv (id:=⟨#[86,49]⟩) (kd:=4) (pe:=⟨#[65]⟩) (pr:=⟨#[66]⟩) (ci:=⟨#[100,105,118]⟩) (co:=⟨#[100,105,115,116]⟩) (n:=1000) (by omega) (by decide) (by decide)) rfl rfl rfl fun v33 z33 H33 hz33 ⟨c33,cs33,hv33,hH33,k33⟩=>?_
 subst hv33
 subst hH33
 refine fl_callLZ z33 [] (c_fil_deal hdv (id:=⟨#[83,49]⟩) (kd:=2) (pe:=⟨#[67]⟩) (pr:=⟨#[68]⟩) (ci:=⟨#[115,97,108,101,115]⟩) (co:=⟨#[103,105,102,116,115]⟩) (n:=5000) (by omega) (by decide) (by decide)) rfl rfl rfl fun v34 z34 H34 hz34 ⟨c34,cs34,hv34,hH34,k34⟩=>?_
 subst hv34
 subst hH34
 refine fl_frzN z34 (p:=[]) rfl rfl k34 rfl (Nat.le_of_ble_eq_true rfl) fun zfr34 hzfr34 r34=>?_
 refine fl_appS rfl rfl r34 (fun _ _=>rep0) (Nat.le_of_ble_eq_true rfl) (Nat.le_of_ble_eq_true rfl) fun c35 hc35 ns35 kn35=>?_
 refine fl_frzN zfr34 (p:=[]) rfl rfl ((k33.mono (hz34.trans hzfr34)).append kn35) rfl (Nat.le_of_ble_eq_true rfl) fun zfr35 hzfr35 r35=>?_
 have r35:SZ 10 RDeal zfr35 (.c c35) (g2R35 dv):=r35
 refine lF rfl (fl_stE (cs':=[.v (.int .i64 2021),.sl b13 0 5 6,.sl b31 0 8 6,c35,.v (.slice none 0 0),.v (.slice none 0 0)]) rfl rfl rfl rep0 rfl rfl (Nat.le_of_ble_eq_true rfl) (lN (xR ?_)))
 refine lZ zfr35 (q_share hdv (n:=2500) (by omega) (by decide) (by decide)) rfl rfl fun v37 z37 hz37 ⟨c37,d37,hv37,m37,n37⟩=>?_
 subst hv37
 refine fl_bd (cs:=[.v (.string ⟨#[71,49]⟩),.v (.bool (PQ (dv 2500 10000)).n),c37,.v (.bool (PQ (dv 2500 10000)).d),d37]) rfl ?_
 refine fl_bslice (cs:=[.v (.string ⟨#[71,49]⟩),.v (.bool (PQ (dv 2500 10000)).n),c37,.v (.bool (PQ (dv 2500 10000)).d),d37]) rfl fun b39=>?_
 refine fl_frzZ z37 (p:=[]) rfl rfl rfl (fun _ h=>h) fun zfg39 hzfg39 g39=>?_
 have r39:SZ 5 RSold zfg39 (.c (.sl b39 0 1 5)) (g2R39 dv):=CL.sz (cl_c rfl (mk_sold (a:=⟨⟨#[71,49]⟩,PQ (dv 2500 10000)⟩) (m37.mono (hzfg39)) (n37.mono (hzfg39))) (CL.nil)) rfl (by decide) g39
 refine lF rfl (fl_stE (cs':=[.v (.int .i64 2021),.sl b13 0 5 6,.sl b31 0 8 6,c35,.v (.slice none 0 0),.sl b39 0 1 5]) rfl rfl rfl rep0 rfl rfl (Nat.le_of_ble_eq_true rfl) (lN (xR (fl_ldAll rfl mem0 rfl (fl_stE (cs':=[.v (.int .i64 2021),.sl b13 0 5 6,.sl b31 0 8 6,c35,.v (.slice none 0 0),.sl b39 0 1 5]) rfl rfl rfl (repS rep0) rfl rfl (Nat.le_of_ble_eq_true rfl) (lN (xT ?_)))))))
 refine rQ (.inl rfl) (rcAll rfl (memS mem0) rfl rn) ?_
 exact ⟨_,rfl,mk_year (a:=gSecond dv) (r13.mono (hz15.trans (hz17.trans (hz19.trans (hz21.trans (hz23.trans (hz25.trans (hz27.trans (hz29.trans (hzfg31.trans (hz33.trans (hz34.trans (hzfr34.trans (hzfr35.trans (hz37.trans hzfg39))))))))))))))) (r31.mono (hz33.trans (hz34.trans (hzfr34.trans (hzfr35.trans (hz37.trans hzfg39)))))) (r35.mono (hz37.trans hzfg39)) .nil r39⟩
theorem c_fil_third {dv:Int→Int→Rat} (hdv:∀ n d,dv n d=Rat.divInt n d) {k:Nat} (hk:12≤k) {z:Mem}  : FC (E k) 89 [] z fun v z'=>∃ cs,v=.agg cs∧RYear z' cs (gThird dv):=by
 refine fc_of (tS_get89) (by omega) (len1 rfl) fun B j hj=>?_
 refine xR ?_
 refine fl_alloc fun b0=>?_
 refine lN (xR (fl_bd (cs:=[.v (.int .i64 2022),.v (.slice none 0 0),.v (.slice none 0 0),.v (.slice none 0 0),.v (.slice none 0 0),.v (.slice none 0 0)]) rfl ?_))
 refine fl_alloc fun b1=>?_
 refine fl_stE (cs':=[.v (.int .i64 2022),.v (.slice none 0 0),.v (.slice none 0 0),.v (.slice none 0 0),.v (.slice none 0 0),.v (.slice none 0 0)]) rfl rfl rfl rep0 rfl rfl (Nat.le_of_ble_eq_true rfl) (lN (xR ?_))
 refine lZ z (q_share hdv (n:=7400) (by omega) (by decide) (by decide)) rfl rfl fun v3 z3 hz3 ⟨c3,d3,hv3,m3,n3⟩=>?_
 subst hv3
 refine fl_bd (cs:=[.v (.string ⟨#[80]⟩),.v (.string ⟨#[65]⟩),.v (.bool (PQ (dv 7400 10000)).n),c3,.v (.bool (PQ (dv 7400 10000)).d),d3]) rfl ?_
 refine lZ z3 (q_share hdv (n:=8000) (by omega) (by decide) (by decide)) rfl rfl fun v5 z5 hz5 ⟨c5,d5,hv5,m5,n5⟩=>?_
 subst hv5
 refine fl_bd (cs:=[.v (.string ⟨#[80]⟩),.v (.string ⟨#[67]⟩),.v (.bool (PQ (dv 8000 10000)).n),c5,.v (.bool (PQ (dv 8000 10000)).d),d5]) rfl ?_
 refine lZ z5 (q_share hdv (n:=9999) (by omega) (by decide) (by decide)) rfl rfl fun v7 z7 hz7 ⟨c7,d7,hv7,m7,n7⟩=>?_
 subst hv7
 refine fl_bd (cs:=[.v (.string ⟨#[67]⟩),.v (.string ⟨#[68]⟩),.v (.bool (PQ (dv 9999 10000)).n),c7,.v (.bool (PQ (dv 9999 10000)).d),d7]) rfl ?_
 refine fl_bslice (cs:=[.v (.string ⟨#[80]⟩),.v (.string ⟨#[65]⟩),.v (.bool (PQ (dv 7400 10000)).n),c3,.v (.bool (PQ (dv 7400 10000)).d),d3,.v (.string ⟨#[80]⟩),.v (.string ⟨#[67]⟩),.v (.bool (PQ (dv 8000 10000)).n),c5,.v (.bool (PQ (dv 8000 10000)).d),d5,.v (.string ⟨#[67]⟩),.v (.string ⟨#[68]⟩),.v (.bool (PQ (dv 9999 10000)).n),c7,.v (.bool (PQ (dv 9999 10000)).d),d7]) rfl fun b9=>?_
 refine fl_frzZ z7 (p:=[]) rfl rfl rfl (fun _ h=>h) fun zfg9 hzfg9 g9=>?_
 have r9:SZ 6 RHold zfg9 (.c (.sl b9 0 3 6)) (g3R9 dv):=CL.sz (cl_c rfl (mk_hold (a:=⟨⟨#[80]⟩,⟨#[65]⟩,PQ (dv 7400 10000)⟩) (m3.mono (hz5.trans (hz7.trans hzfg9))) (n3.mono (hz5.trans (hz7.trans hzfg9)))) (cl_c rfl (mk_hold (a:=⟨⟨#[80]⟩,⟨#[67]⟩,PQ (dv 8000 10000)⟩) (m5.mono (hz7.trans hzfg9)) (n5.mono (hz7.trans hzfg9))) (cl_c rfl (mk_hold (a:=⟨⟨#[67]⟩,⟨#[68]⟩,PQ (dv 9999 10000)⟩) (m7.mono (hzfg9)) (n7.mono (hzfg9))) (CL.nil)))) rfl (by decide) g9
 refine lF rfl (fl_stE (cs':=[.v (.int .i64 2022),.sl b9 0 3 6,.v (.slice none 0 0),.v (.slice none 0 0),.v (.slice none 0 0),.v (.slice none 0 0)]) rfl rfl rfl rep0 rfl rfl (Nat.le_of_ble_eq_true rfl) (lN (xR ?_)))
 refine lZ zfg9 (q_money hdv (n:=300000) (by omega) (by decide) (by decide)) rfl rfl fun v11 z11 hz11 ⟨c11,d11,hv11,m11,n11⟩=>?_
 subst hv11
 refine fl_bd (cs:=[.v (.string ⟨#[80]⟩),.v (.string ⟨#[115,97,108,101,115]⟩),.v (.bool (PQ (dv 300000 100)).n),c11,.v (.bool (PQ (dv 300000 100)).d),d11]) rfl ?_
 refine lZ z11 (q_money hdv (n:=9000) (by omega) (by decide) (by decide)) rfl rfl fun v13 z13 hz13 ⟨c13,d13,hv13,m13,n13⟩=>?_
 subst hv13
 refine fl_bd (cs:=[.v (.string ⟨#[80]⟩),.v (.string ⟨#[105,110,116,45,111,117,116]⟩),.v (.bool (PQ (dv 9000 100)).n),c13,.v (.bool (PQ (dv 9000 100)).d),d13]) rfl ?_
 refine lZ z13 (q_money hdv (n:=10000) (by omega) (by decide) (by decide)) rfl rfl fun v15 z15 hz15 ⟨c15,d15,hv15,m15,n15⟩=>?_
 subst hv15
 refine fl_bd (cs:=[.v (.string ⟨#[65]⟩),.v (.string ⟨#[115,97,108,101,115]⟩),.v (.bool (PQ (dv 10000 100)).n),c15,.v (.bool (PQ (dv 10000 100)).d),d15]) rfl ?_
 refine lZ z15 (q_money hdv (n:=70001) (by omega) (by decide) (by decide)) rfl rfl fun v17 z17 hz17 ⟨c17,d17,hv17,m17,n17⟩=>?_
 subst hv17
 refine fl_bd (cs:=[.v (.string ⟨#[67]⟩),.v (.string ⟨#[115,97,108,101,115]⟩),.v (.bool (PQ (dv 70001 100)).n),c17,.v (.bool (PQ (dv 70001 100)).d),d17]) rfl ?_
 refine lZ z17 (q_money hdv (n:=8000) (by omega) (by decide) (by decide)) rfl rfl fun v19 z19 hz19 ⟨c19,d19,hv19,m19,n19⟩=>?_
 subst hv19
 refine fl_bd (cs:=[.v (.string ⟨#[68]⟩),.v (.string ⟨#[99,111,115,116]⟩),.v (.bool (PQ (dv 8000 100)).n),c19,.v (.bool (PQ (dv 8000 100)).d),d19]) rfl ?_
 refine lZ z19 (q_money hdv (n:=(-100)) (by omega) (by decide) (by decide)) rfl rfl fun v21 z21 hz21 ⟨c21,d21,hv21,m21,n21⟩=>?_
 subst hv21
 refine fl_bd (cs:=[.v (.string ⟨#[68]⟩),.v (.string ⟨#[109,101,97,108,115]⟩),.v (.bool (PQ (dv (-100) 100)).n),c21,.v (.bool (PQ (dv (-100) 100)).d),d21]) rfl ?_
 refine fl_bslice (cs:=[.v (.string ⟨#[80]⟩),.v (.string ⟨#[115,97,108,101,115]⟩),.v (.bool (PQ (dv 300000 100)).n),c11,.v (.bool (PQ (dv 300000 100)).d),d11,.v (.string ⟨#[80]⟩),.v (.string ⟨#[105,110,116,45,111,117,116]⟩),.v (.bool (PQ (dv 9000 100)).n),c13,.v (.bool (PQ (dv 9000 100)).d),d13,.v (.string ⟨#[65]⟩),.v (.string ⟨#[115,97,108,101,115]⟩),.v (.bool (PQ (dv 10000 100)).n),c15,.v (.bool (PQ (dv 10000 100)).d),d15,.v (.string ⟨#[67]⟩),.v (.string ⟨#[115,97,108,101,115]⟩),.v (.bool (PQ (dv 70001 100)).n),c17,.v (.bool (PQ (dv 70001 100)).d),d17,.v (.string ⟨#[68]⟩),.v (.string ⟨#[99,111,115,116]⟩),.v (.bool (PQ (dv 8000 100)).n),c19,.v (.bool (PQ (dv 8000 100)).d),d19,.v (.string ⟨#[68]⟩),.v (.string ⟨#[109,101,97,108,115]⟩),.v (.bool (PQ (dv (-100) 100)).n),c21,.v (.bool (PQ (dv (-100) 100)).d),d21]) (by kernel_rfl) fun b23=>?_
 refine fl_frzZ z21 (p:=[]) rfl rfl rfl (fun _ h=>h) fun zfg23 hzfg23 g23=>?_
 have r23:SZ 6 RBook zfg23 (.c (.sl b23 0 6 6)) (g3R23 dv):=CL.sz (cl_c rfl (mk_book (a:=⟨⟨#[80]⟩,⟨#[115,97,108,101,115]⟩,PQ (dv 300000 100)⟩) (m11.mono (hz13.trans (hz15.trans (hz17.trans (hz19.trans (hz21.trans hzfg23)))))) (n11.mono (hz13.trans (hz15.trans (hz17.trans (hz19.trans (hz21.trans hzfg23))))))) (cl_c rfl (mk_book (a:=⟨⟨#[80]⟩,⟨#[105,110,116,45,111,117,116]⟩,PQ (dv 9000 100)⟩) (m13.mono (hz15.trans (hz17.trans (hz19.trans (hz21.trans hzfg23))))) (n13.mono (hz15.trans (hz17.trans (hz19.trans (hz21.trans hzfg23)))))) (cl_c rfl (mk_book (a:=⟨⟨#[65]⟩,⟨#[115,97,108,101,115]⟩,PQ (dv 10000 100)⟩) (m15.mono (hz17.trans (hz19.trans (hz21.trans hzfg23)))) (n15.mono (hz17.trans (hz19.trans (hz21.trans hzfg23))))) (cl_c rfl (mk_book (a:=⟨⟨#[67]⟩,⟨#[115,97,108,101,115]⟩,PQ (dv 70001 100)⟩) (m17.mono (hz19.trans (hz21.trans hzfg23))) (n17.mono (hz19.trans (hz21.trans hzfg23)))) (cl_c rfl (mk_book (a:=⟨⟨#[68]⟩,⟨#[99,111,115,116]⟩,PQ (dv 8000 100)⟩) (m19.mono (hz21.trans hzfg23)) (n19.mono (hz21.trans hzfg23))) (cl_c rfl (mk_book (a:=⟨⟨#[68]⟩,⟨#[109,101,97,108,115]⟩,PQ (dv (-100) 100)⟩) (m21.mono (hzfg23)) (n21.mono (hzfg23))) (CL.nil))))))) rfl (by decide) g23
 refine lF rfl (fl_stE (cs':=[.v (.int .i64 2022),.sl b9 0 3 6,.sl b23 0 6 6,.v (.slice none 0 0),.v (.slice none 0 0),.v (.slice none 0 0)]) rfl rfl rfl rep0 rfl rfl (Nat.le_of_ble_eq_true rfl) (lN (xR ?_)))
 refine lZ zfg23 (q_share hdv (n:=7500) (by omega) (by decide) (by decide)) rfl rfl fun v25 z25 hz25 ⟨c25,d25,hv25,m25,n25⟩=>?_
 subst hv25
 refine fl_bd (cs:=[.v (.string ⟨#[71,49]⟩),.v (.bool (PQ (dv 7500 10000)).n),c25,.v (.bool (PQ (dv 7500 10000)).d),d25]) rfl ?_
 refine fl_bslice (cs:=[.v (.string ⟨#[71,49]⟩),.v (.bool (PQ (dv 7500 10000)).n),c25,.v (.bool (PQ (dv 7500 10000)).d),d25]) rfl fun b27=>?_
 refine fl_frzZ z25 (p:=[]) rfl rfl rfl (fun _ h=>h) fun zfg27 hzfg27 g27=>?_
 have r27:SZ 5 RSold zfg27 (.c (.sl b27 0 1 5)) (g3R27 dv):=CL.sz (cl_c rfl (mk_sold (a:=⟨⟨#[71,49]⟩,PQ (dv 7500 10000)⟩) (m25.mono (hzfg27)) (n25.mono (hzfg27))) (CL.nil)) rfl (by decide) g27
 refine lF rfl (fl_stE (cs':=[.v (.int .i64 2022),.sl b9 0 3 6,.sl b23 0 6 6,.v (.slice none 0 0),.v (.slice none 0 0),.sl b27 0 1 5]) rfl rfl rfl rep0 rfl rfl (Nat.le_of_ble_eq_true rfl) (lN (xR (fl_ldAll rfl mem0 rfl (fl_stE (cs':=[.v (.int .i64 2022),.sl b9 0 3 6,.sl b23 0 6 6,.v (.slice none 0 0),.v (.slice none 0 0),.sl b27 0 1 5]) rfl rfl rfl (repS rep0) rfl rfl (Nat.le_of_ble_eq_true rfl) (lN (xT ?_)))))))
 refine rQ (.inl rfl) (rcAll rfl (memS mem0) rfl rn) ?_
 exact ⟨_,rfl,mk_year (a:=gThird dv) (r9.mono (hz11.trans (hz13.trans (hz15.trans (hz17.trans (hz19.trans (hz21.trans (hzfg23.trans (hz25.trans hzfg27))))))))) (r23.mono (hz25.trans hzfg27)) .nil .nil r27⟩
theorem c_fil_Group {dv:Int→Int→Rat} (hdv:∀ n d,dv n d=Rat.divInt n d) {k:Nat} (hk:14≤k) {z:Mem}  : FC (E k) 30 [] z fun v z'=>∃ cs,v=.agg cs∧RFiling z' cs (gGroup dv):=by
 refine fc_of (tS_get30) (by omega) (len1 rfl) fun B j hj=>?_
 refine xR ?_
 refine fl_alloc fun b0=>?_
 refine lN (xR ?_)
 refine lZ z (c_fil_Small hdv (by omega)) rfl rfl fun v2 z2 hz2 ⟨cs,hv2,hR⟩=>?_
 subst hv2
 obtain ⟨u0,u1,u2,u3,u4,u5,u6,u7,u8,u9,u10,u11,hcs,w0,w1,w2,w3,w4,w5,w6,w7,w8,w9,w10,w11⟩:=hR
 subst hcs
 refine fl_alloc fun b1=>?_
 refine fl_stE (cs':=[.v (.string (gSmall dv).name),.v (.string (gSmall dv).parent),u0,.v (.bool (gSmall dv).threshold.n),u1,.v (.bool (gSmall dv).threshold.d),u2,.v (.bool (gSmall dv).cap.n),u3,.v (.bool (gSmall dv).cap.d),u4,.v (.int .i64 (gSmall dv).back),.v (.int .i64 (gSmall dv).forward),.v (.bool (gSmall dv).interest.n),u5,.v (.bool (gSmall dv).interest.d),u6,.v (.bool (gSmall dv).floor.n),u7,.v (.bool (gSmall dv).floor.d),u8,.v (.int .i64 (gSmall dv).keep),u9,u10,u11]) rfl rfl rfl rep0 rfl rfl (Nat.le_of_ble_eq_true rfl) (lN (xR (lF rfl ?_)))
 refine fl_stE (cs':=[.v (.string ⟨#[71,114,111,117,112]⟩),.v (.string (gSmall dv).parent),u0,.v (.bool (gSmall dv).threshold.n),u1,.v (.bool (gSmall dv).threshold.d),u2,.v (.bool (gSmall dv).cap.n),u3,.v (.bool (gSmall dv).cap.d),u4,.v (.int .i64 (gSmall dv).back),.v (.int .i64 (gSmall dv).forward),.v (.bool (gSmall dv).interest.n),u5,.v (.bool (gSmall dv).interest.d),u6,.v (.bool (gSmall dv).floor.n),u7,.v (.bool (gSmall dv).floor.d),u8,.v (.int .i64 (gSmall dv).keep),u9,u10,u11]) rfl rfl rfl rep0 rfl rfl (Nat.le_of_ble_eq_true rfl) ?_
 refine lN (xR ?_)
 refine lZ z2 (q_money hdv (n:=0) (by omega) (by decide) (by decide)) rfl rfl fun v4 z4 hz4 ⟨c4,d4,hv4,m4,n4⟩=>?_
 subst hv4
 refine lZ z4 (q_share hdv (n:=1000) (by omega) (by decide) (by decide)) rfl rfl fun v5 z5 hz5 ⟨c5,d5,hv5,m5,n5⟩=>?_
 subst hv5
 refine fl_bd (cs:=[.v (.bool (PQ (dv 0 100)).n),c4,.v (.bool (PQ (dv 0 100)).d),d4,.v (.bool (PQ (dv 1000 10000)).n),c5,.v (.bool (PQ (dv 1000 10000)).d),d5]) rfl ?_
 refine lZ z5 (q_money hdv (n:=100000) (by omega) (by decide) (by decide)) rfl rfl fun v7 z7 hz7 ⟨c7,d7,hv7,m7,n7⟩=>?_
 subst hv7
 refine lZ z7 (q_share hdv (n:=2550) (by omega) (by decide) (by decide)) rfl rfl fun v8 z8 hz8 ⟨c8,d8,hv8,m8,n8⟩=>?_
 subst hv8
 refine fl_bd (cs:=[.v (.bool (PQ (dv 100000 100)).n),c7,.v (.bool (PQ (dv 100000 100)).d),d7,.v (.bool (PQ (dv 2550 10000)).n),c8,.v (.bool (PQ (dv 2550 10000)).d),d8]) rfl ?_
 refine fl_bslice (cs:=[.v (.bool (PQ (dv 0 100)).n),c4,.v (.bool (PQ (dv 0 100)).d),d4,.v (.bool (PQ (dv 1000 10000)).n),c5,.v (.bool (PQ (dv 1000 10000)).d),d5,.v (.bool (PQ (dv 100000 100)).n),c7,.v (.bool (PQ (dv 100000 100)).d),d7,.v (.bool (PQ (dv 2550 10000)).n),c8,.v (.bool (PQ (dv 2550 10000)).d),d8]) rfl fun b10=>?_
 refine fl_frzZ z8 (p:=[]) rfl rfl rfl (fun _ h=>h) fun zfg10 hzfg10 g10=>?_
 have r10:SZ 8 RBracket zfg10 (.c (.sl b10 0 2 8)) (gGR10 dv):=CL.sz (cl_c rfl (mk_bracket (a:=⟨PQ (dv 0 100),PQ (dv 1000 10000)⟩) (m4.mono (hz5.trans (hz7.trans (hz8.trans hzfg10)))) (n4.mono (hz5.trans (hz7.trans (hz8.trans hzfg10)))) (m5.mono (hz7.trans (hz8.trans hzfg10))) (n5.mono (hz7.trans (hz8.trans hzfg10)))) (cl_c rfl (mk_bracket (a:=⟨PQ (dv 100000 100),PQ (dv 2550 10000)⟩) (m7.mono (hz8.trans hzfg10)) (n7.mono (hz8.trans hzfg10)) (m8.mono (hzfg10)) (n8.mono (hzfg10))) (CL.nil))) rfl (by decide) g10
 refine lF rfl ?_
 refine fl_stE (cs':=[.v (.string ⟨#[71,114,111,117,112]⟩),.v (.string (gSmall dv).parent),.sl b10 0 2 8,.v (.bool (gSmall dv).threshold.n),u1,.v (.bool (gSmall dv).threshold.d),u2,.v (.bool (gSmall dv).cap.n),u3,.v (.bool (gSmall dv).cap.d),u4,.v (.int .i64 (gSmall dv).back),.v (.int .i64 (gSmall dv).forward),.v (.bool (gSmall dv).interest.n),u5,.v (.bool (gSmall dv).interest.d),u6,.v (.bool (gSmall dv).floor.n),u7,.v (.bool (gSmall dv).floor.d),u8,.v (.int .i64 (gSmall dv).keep),u9,u10,u11]) rfl rfl rfl rep0 rfl rfl (Nat.le_of_ble_eq_true rfl) ?_
 refine lN (xR ?_)
 refine lZ zfg10 (q_money hdv (n:=5000) (by omega) (by decide) (by decide)) rfl rfl fun v12 z12 hz12 ⟨c12,d12,hv12,m12,n12⟩=>?_
 subst hv12
 refine lF rfl ?_
 refine fl_stE (cs':=[.v (.string ⟨#[71,114,111,117,112]⟩),.v (.string (gSmall dv).parent),.sl b10 0 2 8,.v (.bool (gSmall dv).threshold.n),u1,.v (.bool (gSmall dv).threshold.d),u2,.v (.bool (gSmall dv).cap.n),u3,.v (.bool (gSmall dv).cap.d),u4,.v (.int .i64 (gSmall dv).back),.v (.int .i64 (gSmall dv).forward),.v (.bool (gSmall dv).interest.n),u5,.v (.bool (gSmall dv).interest.d),u6,.v (.bool (PQ (dv 5000 100)).n),c12,.v (.bool (PQ (dv 5000 100)).d),d12,.v (.int .i64 (gSmall dv).keep),u9,u10,u11]) rfl rfl rfl rep0 rfl rfl (Nat.le_of_ble_eq_true rfl) ?_
 refine lN (xR ?_)
 refine lZ z12 (q_share hdv (n:=6000) (by omega) (by decide) (by decide)) rfl rfl fun v14 z14 hz14 ⟨c14,d14,hv14,m14,n14⟩=>?_
 subst hv14
 refine lF rfl ?_
 refine fl_stE (cs':=[.v (.string ⟨#[71,114,111,117,112]⟩),.v (.string (gSmall dv).parent),.sl b10 0 2 8,.v (.bool (gSmall dv).threshold.n),u1,.v (.bool (gSmall dv).threshold.d),u2,.v (.bool (PQ (dv 6000 10000)).n),c14,.v (.bool (PQ (dv 6000 10000)).d),d14,.v (.int .i64 (gSmall dv).back),.v (.int .i64 (gSmall dv).forward),.v (.bool (gSmall dv).interest.n),u5,.v (.bool (gSmall dv).interest.d),u6,.v (.bool (PQ (dv 5000 100)).n),c12,.v (.bool (PQ (dv 5000 100)).d),d12,.v (.int .i64 (gSmall dv).keep),u9,u10,u11]) rfl rfl rfl rep0 rfl rfl (Nat.le_of_ble_eq_true rfl) ?_
 refine lN (xR (lF rfl ?_))
 refine fl_stE (cs':=[.v (.string ⟨#[71,114,111,117,112]⟩),.v (.string (gSmall dv).parent),.sl b10 0 2 8,.v (.bool (gSmall dv).threshold.n),u1,.v (.bool (gSmall dv).threshold.d),u2,.v (.bool (PQ (dv 6000 10000)).n),c14,.v (.bool (PQ (dv 6000 10000)).d),d14,.v (.int .i64 (gSmall dv).back),.v (.int .i64 (gSmall dv).forward),.v (.bool (gSmall dv).interest.n),u5,.v (.bool (gSmall dv).interest.d),u6,.v (.bool (PQ (dv 5000 100)).n),c12,.v (.bool (PQ (dv 5000 100)).d),d12,.v (.int .i64 2),u9,u10,u11]) rfl rfl rfl rep0 rfl rfl (Nat.le_of_ble_eq_true rfl) ?_
 refine lN (xR (lF rfl ?_))
 refine fl_stE (cs':=[.v (.string ⟨#[71,114,111,117,112]⟩),.v (.string (gSmall dv).parent),.sl b10 0 2 8,.v (.bool (gSmall dv).threshold.n),u1,.v (.bool (gSmall dv).threshold.d),u2,.v (.bool (PQ (dv 6000 10000)).n),c14,.v (.bool (PQ (dv 6000 10000)).d),d14,.v (.int .i64 (gSmall dv).back),.v (.int .i64 3),.v (.bool (gSmall dv).interest.n),u5,.v (.bool (gSmall dv).interest.d),u6,.v (.bool (PQ (dv 5000 100)).n),c12,.v (.bool (PQ (dv 5000 100)).d),d12,.v (.int .i64 2),u9,u10,u11]) rfl rfl rfl rep0 rfl rfl (Nat.le_of_ble_eq_true rfl) ?_
 refine lN (xR ?_)
 refine lZ z14 (c_fil_classes hdv (by omega)) rfl rfl fun v18 z18 hz18 ⟨c18,hv18,r18⟩=>?_
 subst hv18
 refine lF rfl ?_
 refine fl_stE (cs':=[.v (.string ⟨#[71,114,111,117,112]⟩),.v (.string (gSmall dv).parent),.sl b10 0 2 8,.v (.bool (gSmall dv).threshold.n),u1,.v (.bool (gSmall dv).threshold.d),u2,.v (.bool (PQ (dv 6000 10000)).n),c14,.v (.bool (PQ (dv 6000 10000)).d),d14,.v (.int .i64 (gSmall dv).back),.v (.int .i64 3),.v (.bool (gSmall dv).interest.n),u5,.v (.bool (gSmall dv).interest.d),u6,.v (.bool (PQ (dv 5000 100)).n),c12,.v (.bool (PQ (dv 5000 100)).d),d12,.v (.int .i64 2),c18,u10,u11]) rfl rfl rfl rep0 rfl rfl (Nat.le_of_ble_eq_true rfl) ?_
 refine lN (xR ?_)
 refine fl_bslice (cs:=(cE Value.string [⟨#[80]⟩,⟨#[68]⟩,⟨#[65]⟩,⟨#[66]⟩,⟨#[67]⟩])) rfl fun b20=>?_
 refine fl_frzZ z18 (p:=[]) rfl rfl rfl (fun _ h=>h) fun zfg20 hzfg20 g20=>?_
 have r20:SZ 1 RS zfg20 (.c (.sl b20 0 5 1)) gGR20:=cE_cl.sz rfl (by decide) g20
 refine lF rfl ?_
 refine fl_stE (cs':=[.v (.string ⟨#[71,114,111,117,112]⟩),.v (.string (gSmall dv).parent),.sl b10 0 2 8,.v (.bool (gSmall dv).threshold.n),u1,.v (.bool (gSmall dv).threshold.d),u2,.v (.bool (PQ (dv 6000 10000)).n),c14,.v (.bool (PQ (dv 6000 10000)).d),d14,.v (.int .i64 (gSmall dv).back),.v (.int .i64 3),.v (.bool (gSmall dv).interest.n),u5,.v (.bool (gSmall dv).interest.d),u6,.v (.bool (PQ (dv 5000 100)).n),c12,.v (.bool (PQ (dv 5000 100)).d),d12,.v (.int .i64 2),c18,.sl b20 0 5 1,u11]) rfl rfl rfl rep0 rfl rfl (Nat.le_of_ble_eq_true rfl) ?_
 refine lN (xR ?_)
 refine lZ zfg20 (c_fil_first hdv (by omega)) rfl rfl fun v22 z22 hz22 ⟨cs22,hv22,hR⟩=>?_
 subst hv22
 obtain ⟨y22_0,y22_1,y22_2,y22_3,y22_4,hcs,q22_0,q22_1,q22_2,q22_3,q22_4⟩:=hR
 subst hcs
 refine lZ z22 (c_fil_second hdv (by omega)) rfl rfl fun v23 z23 hz23 ⟨cs23,hv23,hR⟩=>?_
 subst hv23
 obtain ⟨y23_0,y23_1,y23_2,y23_3,y23_4,hcs,q23_0,q23_1,q23_2,q23_3,q23_4⟩:=hR
 subst hcs
 refine lZ z23 (c_fil_third hdv (by omega)) rfl rfl fun v24 z24 hz24 ⟨cs24,hv24,hR⟩=>?_
 subst hv24
 obtain ⟨y24_0,y24_1,y24_2,y24_3,y24_4,hcs,q24_0,q24_1,q24_2,q24_3,q24_4⟩:=hR
 subst hcs
 refine fl_bslice (cs:=[.v (.int .i64 (gFirst dv).number),y22_0,y22_1,y22_2,y22_3,y22_4,.v (.int .i64 (gSecond dv).number),y23_0,y23_1,y23_2,y23_3,y23_4,.v (.int .i64 (gThird dv).number),y24_0,y24_1,y24_2,y24_3,y24_4]) rfl fun b25=>?_
 refine fl_frzZ z24 (p:=[]) rfl rfl rfl (fun _ h=>h) fun zfg25 hzfg25 g25=>?_
 have r25:SZ 6 RYear zfg25 (.c (.sl b25 0 3 6)) (gGR25 dv):=CL.sz (cl_c rfl (mk_year (a:=(gFirst dv)) (q22_0.mono (hz23.trans (hz24.trans hzfg25))) (q22_1.mono (hz23.trans (hz24.trans hzfg25))) (q22_2.mono (hz23.trans (hz24.trans hzfg25))) (q22_3.mono (hz23.trans (hz24.trans hzfg25))) (q22_4.mono (hz23.trans (hz24.trans hzfg25)))) (cl_c rfl (mk_year (a:=(gSecond dv)) (q23_0.mono (hz24.trans hzfg25)) (q23_1.mono (hz24.trans hzfg25)) (q23_2.mono (hz24.trans hzfg25)) (q23_3.mono (hz24.trans hzfg25)) (q23_4.mono (hz24.trans hzfg25))) (cl_c rfl (mk_year (a:=(gThird dv)) (q24_0.mono (hzfg25)) (q24_1.mono (hzfg25)) (q24_2.mono (hzfg25)) (q24_3.mono (hzfg25)) (q24_4.mono (hzfg25))) (CL.nil)))) rfl (by decide) g25
 refine lF rfl ?_
 refine fl_stE (cs':=[.v (.string ⟨#[71,114,111,117,112]⟩),.v (.string (gSmall dv).parent),.sl b10 0 2 8,.v (.bool (gSmall dv).threshold.n),u1,.v (.bool (gSmall dv).threshold.d),u2,.v (.bool (PQ (dv 6000 10000)).n),c14,.v (.bool (PQ (dv 6000 10000)).d),d14,.v (.int .i64 (gSmall dv).back),.v (.int .i64 3),.v (.bool (gSmall dv).interest.n),u5,.v (.bool (gSmall dv).interest.d),u6,.v (.bool (PQ (dv 5000 100)).n),c12,.v (.bool (PQ (dv 5000 100)).d),d12,.v (.int .i64 2),c18,.sl b20 0 5 1,.sl b25 0 3 6]) rfl rfl rfl rep0 rfl rfl (Nat.le_of_ble_eq_true rfl) ?_
 refine lN (xR (fl_ldAll rfl mem0 rfl ?_))
 refine fl_stE (cs':=[.v (.string ⟨#[71,114,111,117,112]⟩),.v (.string (gSmall dv).parent),.sl b10 0 2 8,.v (.bool (gSmall dv).threshold.n),u1,.v (.bool (gSmall dv).threshold.d),u2,.v (.bool (PQ (dv 6000 10000)).n),c14,.v (.bool (PQ (dv 6000 10000)).d),d14,.v (.int .i64 (gSmall dv).back),.v (.int .i64 3),.v (.bool (gSmall dv).interest.n),u5,.v (.bool (gSmall dv).interest.d),u6,.v (.bool (PQ (dv 5000 100)).n),c12,.v (.bool (PQ (dv 5000 100)).d),d12,.v (.int .i64 2),c18,.sl b20 0 5 1,.sl b25 0 3 6]) rfl rfl rfl (repS rep0) rfl rfl (Nat.le_of_ble_eq_true rfl) ?_
 refine lN (xT (rQ (.inl rfl) (rcAll rfl (memS mem0) rfl rn) ?_))
 exact ⟨_,rfl,mk_filing (a:=gGroup dv) (r10.mono (hz12.trans (hz14.trans (hz18.trans (hzfg20.trans (hz22.trans (hz23.trans (hz24.trans hzfg25)))))))) (w1.mono (hz4.trans (hz5.trans (hz7.trans (hz8.trans (hzfg10.trans (hz12.trans (hz14.trans (hz18.trans (hzfg20.trans (hz22.trans (hz23.trans (hz24.trans hzfg25))))))))))))) (w2.mono (hz4.trans (hz5.trans (hz7.trans (hz8.trans (hzfg10.trans (hz12.trans (hz14.trans (hz18.trans (hzfg20.trans (hz22.trans (hz23.trans (hz24.trans hzfg25))))))))))))) (m14.mono (hz18.trans (hzfg20.trans (hz22.trans (hz23.trans (hz24.trans hzfg25)))))) (n14.mono (hz18.trans (hzfg20.trans (hz22.trans (hz23.trans (hz24.trans hzfg25)))))) (w5.mono (hz4.trans (hz5.trans (hz7.trans (hz8.trans (hzfg10.trans (hz12.trans (hz14.trans (hz18.trans (hzfg20.trans (hz22.trans (hz23.trans (hz24.trans hzfg25))))))))))))) (w6.mono (hz4.trans (hz5.trans (hz7.trans (hz8.trans (hzfg10.trans (hz12.trans (hz14.trans (hz18.trans (hzfg20.trans (hz22.trans (hz23.trans (hz24.trans hzfg25))))))))))))) (m12.mono (hz14.trans (hz18.trans (hzfg20.trans (hz22.trans (hz23.trans (hz24.trans hzfg25))))))) (n12.mono (hz14.trans (hz18.trans (hzfg20.trans (hz22.trans (hz23.trans (hz24.trans hzfg25))))))) (r18.mono (hzfg20.trans (hz22.trans (hz23.trans (hz24.trans hzfg25))))) (r20.mono (hz22.trans (hz23.trans (hz24.trans hzfg25)))) r25⟩
end Go.Proofs.YtcnpoojdochapaaGreatDoor
