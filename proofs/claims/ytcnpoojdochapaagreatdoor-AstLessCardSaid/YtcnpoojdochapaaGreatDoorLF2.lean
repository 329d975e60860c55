/- The law of less, walked. -/
import Derived.WalkKit
import Derived.Orders
import Derived.Test.YtcnpoojdochapaaGreatDoorLD9
import Derived.Test.YtcnpoojdochapaaGreatDoorLF1
set_option linter.unusedVariables false
set_option maxRecDepth 100000
set_option linter.unusedSimpArgs false
set_option maxHeartbeats 1000000
namespace Go.Proofs.YtcnpoojdochapaaGreatDoor
open Go.CE Go.RowKit
theorem wrongAt_take {α:Type} {most:Nat} {pr:α→Bool}:∀ (l:List α) (i m:Nat),wrongAt most pr i l=none→wrongAt most pr i (l.take m)=none
 | _,_,0,_=>by rw [List.take_zero,wrongAt]
 | [],_,_+1,_=>by rw [List.take_nil,wrongAt]
 | a::r,i,m+1,h=>by
  rw [wrongAt] at h
  rw [List.take_succ_cons,wrongAt]
  by_cases h1:i=most
  ·rw [if_pos h1] at h;cases h
  ·rw [if_neg h1] at h ⊢
   by_cases h2:pr a=true
   ·rw [if_pos h2] at h ⊢;exact wrongAt_take r (i+1) m h
   ·rw [if_neg h2] at h;cases h
theorem wrong_take {α:Type} {most:Nat} {pr:α→Bool} {l:List α} {part year:Int} {m:Nat} (h:wrongS part year most pr l=none):wrongS part year most pr (l.take m)=none:=by
 rw [wrongS] at h ⊢
 rw [wrongAt_take l 0 m (Option.map_eq_none_iff.1 h)];rfl
theorem yearsW_take:∀ (l:List PYear) (i m:Nat),yearsW i l=none→yearsW i (l.take m)=none
 | _,_,0,_=>by rw [List.take_zero,yearsW]
 | [],_,_+1,_=>by rw [List.take_nil,yearsW]
 | y::r,i,m+1,h=>by
  rw [yearsW] at h
  rw [List.take_succ_cons,yearsW]
  cases e:firstSome (yearL (i:Nat) y) with
  | none=>rw [e] at h;exact yearsW_take r (i+1) m h
  | some f=>rw [e] at h;cases h
theorem fs_none {α:Type}:∀ {rs:List (Option α)},firstSome rs=none→∀ r,r∈rs→r=none
 | [],_,r,hr=>absurd hr List.not_mem_nil
 | none::rs,h,r,hr=>by
  rcases List.mem_cons.1 hr with rfl | hr
  ·rfl
  ·exact fs_none (rs:=rs) h r hr
 | some a::_,h,_,_=>by cases h
theorem fs_of {α:Type}:∀ {rs:List (Option α)},(∀ r,r∈rs→r=none)→firstSome rs=none
 | [],_=>rfl
 | none::rs,h=>fs_of (rs:=rs) fun r hr=>h r (List.mem_cons_of_mem _ hr)
 | some a::_,h=>by cases h _ List.mem_cons_self
theorem fs_mem {α:Type} {a:α}:∀ {rs:List (Option α)},firstSome rs=some a→some a∈rs
 | [],h=>by cases h
 | none::rs,h=>List.mem_cons_of_mem _ (fs_mem (rs:=rs) h)
 | some b::_,h=>by
  injection h with h;subst h;exact List.mem_cons_self
theorem right_none {x:PFiling} (h:rightS x=none):(∀ r,r∈rightL x→r=none)∧yearsW 0 x.years=none:=by
 rw [rightS] at h
 cases e:firstSome (rightL x) with
 | none=>rw [e] at h;exact ⟨fs_none e,h⟩
 | some f=>rw [e] at h;cases h
theorem right_of {x:PFiling} (h:∀ r,r∈rightL x→r=none) (g:yearsW 0 x.years=none):rightS x=none:=by rw [rightS,fs_of h];exact g
theorem fs6_of {α:Type} {a b c d e f:Option α} (h1:a=none) (h2:b=none) (h3:c=none) (h4:d=none) (h5:e=none) (h6:f=none):∀ r,r∈[a,b,c,d,e,f]→r=none:=by
 subst h1 h2 h3 h4 h5 h6
 intro r hr
 simpa using hr
theorem fs6_to {α:Type} {a b c d e f:Option α} (h:∀ r,r∈[a,b,c,d,e,f]→r=none):a=none∧b=none∧c=none∧d=none∧e=none∧f=none:=
 ⟨h _ (by simp),h _ (by simp),h _ (by simp),h _ (by simp),h _ (by simp),h _ (by simp)⟩
theorem less_years {x:PFiling} {m:Nat} (h:rightS x=none):rightS { x with years:=x.years.take m }=none:=by
 obtain ⟨h1,h2⟩:=right_none h
 obtain ⟨a,b,c,d,e,f⟩:=fs6_to h1
 exact right_of (fs6_of a b c d e (wrong_take f)) (yearsW_take _ _ _ h2)
theorem less_entities {x:PFiling} {m:Nat} (h:rightS x=none):rightS { x with entities:=x.entities.take m }=none:=by
 obtain ⟨h1,h2⟩:=right_none h
 obtain ⟨a,b,c,d,e,f⟩:=fs6_to h1
 exact right_of (fs6_of a b c d (wrong_take e) f) h2
theorem less_classes {x:PFiling} {m:Nat} (h:rightS x=none):rightS { x with classes:=x.classes.take m }=none:=by
 obtain ⟨h1,h2⟩:=right_none h
 obtain ⟨a,b,c,d,e,f⟩:=fs6_to h1
 exact right_of (fs6_of a b c (wrong_take d) e f) h2
theorem less_brackets {x:PFiling} {m:Nat} (h:rightS x=none):rightS { x with brackets:=x.brackets.take m }=none:=by
 obtain ⟨h1,h2⟩:=right_none h
 obtain ⟨a,b,c,d,e,f⟩:=fs6_to h1
 exact right_of (fs6_of a (wrong_take b) c d e f) h2
theorem sk_years {x:PFiling} {m:Nat} (h:SkF x):SkF { x with years:=x.years.take m }:={ h with years:=fun a ha=>h.years a (List.mem_of_mem_take ha) }
theorem sk_entities {x:PFiling} {m:Nat} (h:SkF x):SkF { x with entities:=x.entities.take m }:={ h with entities:=fun a ha=>h.entities a (List.mem_of_mem_take ha) }
theorem sk_classes {x:PFiling} {m:Nat} (h:SkF x):SkF { x with classes:=x.classes.take m }:={ h with classes:=fun a ha=>h.classes a (List.mem_of_mem_take ha) }
theorem sk_brackets {x:PFiling} {m:Nat} (h:SkF x):SkF { x with brackets:=x.brackets.take m }:={ h with brackets:=fun a ha=>h.brackets a (List.mem_of_mem_take ha) }
def FOk2 (f:Fault):Prop:=1≤f.part∧f.part≤11∧-1≤f.year∧0≤f.at_∧(f.e=2∨f.e=3)
theorem wrongAt_e {α:Type} {most:Nat} {pr:α→Bool}:∀ (l:List α) (i:Nat) (q:Nat×Int),wrongAt most pr i l=some q→q.2=2∨q.2=3
 | [],_,_,h=>by cases h
 | a::r,i,q,h=>by
  rw [wrongAt] at h
  by_cases h1:i=most
  ·rw [if_pos h1] at h;injection h with h;subst h;exact .inr rfl
  ·rw [if_neg h1] at h
   by_cases h2:pr a=true
   ·rw [if_pos h2] at h;exact wrongAt_e r _ _ h
   ·rw [if_neg h2] at h;injection h with h;subst h;exact .inl rfl
theorem wrong_ok {α:Type} {most:Nat} {pr:α→Bool} {l:List α} {part year:Int} {f:Fault} (h1:1≤part) (h2:part≤11) (h3 : -1≤year) (h:some f=wrongS part year most pr l):FOk2 f:=by
 rw [wrongS] at h
 cases e:wrongAt most pr 0 l with
 | none=>rw [e] at h;cases h
 | some q =>
  rw [e] at h
  injection h with h
  subst h
  exact ⟨h1,h2,h3,Int.natCast_nonneg _,wrongAt_e _ _ _ e⟩
theorem year_ok {i:Nat} {y:PYear} {f:Fault} (h:firstSome (yearL (i:Nat) y)=some f):FOk2 f:=by
 have hi:(-1:Int)≤(i:Nat):=by omega
 have h:=fs_mem h
 rw [yearL] at h
 rcases List.mem_cons.1 h with h | h
 ·exact wrong_ok (by decide) (by decide) hi h
 rcases List.mem_cons.1 h with h | h
 ·exact wrong_ok (by decide) (by decide) hi h
 rcases List.mem_cons.1 h with h | h
 ·exact wrong_ok (by decide) (by decide) hi h
 rcases List.mem_cons.1 h with h | h
 ·exact wrong_ok (by decide) (by decide) hi h
 rcases List.mem_cons.1 h with h | h
 ·exact wrong_ok (by decide) (by decide) hi h
 ·cases h
theorem years_ok:∀ (l:List PYear) (i:Nat) (f:Fault),yearsW i l=some f→FOk2 f
 | [],_,_,h=>by cases h
 | y::r,i,f,h=>by
  rw [yearsW] at h
  cases e:firstSome (yearL (i:Nat) y) with
  | none=>rw [e] at h;exact years_ok r _ _ h
  | some g=>rw [e] at h;injection h with h;subst h;exact year_ok e
theorem right_ok {x:PFiling} {f:Fault} (h:rightS x=some f):FOk2 f:=by
 rw [rightS] at h
 cases e:firstSome (rightL x) with
 | none=>rw [e] at h;exact years_ok _ _ _ h
 | some g =>
  rw [e] at h;injection h with h;subst h
  have h:=fs_mem e
  rw [rightL] at h
  rcases List.mem_cons.1 h with h | h
  ·exact wrong_ok (by decide) (by decide) (by decide) h
  rcases List.mem_cons.1 h with h | h
  ·exact wrong_ok (by decide) (by decide) (by decide) h
  rcases List.mem_cons.1 h with h | h
  ·exact wrong_ok (by decide) (by decide) (by decide) h
  rcases List.mem_cons.1 h with h | h
  ·exact wrong_ok (by decide) (by decide) (by decide) h
  rcases List.mem_cons.1 h with h | h
  ·exact wrong_ok (by decide) (by decide) (by decide) h
  rcases List.mem_cons.1 h with h | h
  ·exact wrong_ok (by decide) (by decide) (by decide) h
  ·cases h
def fP (o:Option Fault):Int:=match o with | none=>0 | some f=>f.part
def fY (o:Option Fault):Int:=match o with | none=>0 | some f=>f.year
def fA (o:Option Fault):Int:=match o with | none=>0 | some f=>f.at_
def fE (o:Option Fault):Int:=match o with | none=>0 | some f=>f.e
theorem FV_eq (o:Option Fault):FV o=.tup [.agg [.v (.int .u8 (fP o)),.v (.int .i64 (fY o)),.v (.int .i64 (fA o))],.c (.v (.int .i64 (fE o)))]:=by cases o<;>rfl
theorem right_zero {x:PFiling} (h:fE (rightS x)=0):rightS x=none:=by
 cases e:rightS x with
 | none=>rfl
 | some f =>
  rw [e] at h
  have h:f.e=0:=h
  obtain ⟨_,_,_,_,g⟩:=right_ok e
  omega
theorem right_some {x:PFiling} (h:¬ fE (rightS x)=0):1≤fP (rightS x)∧fP (rightS x)≤11∧-1≤fY (rightS x)∧0≤fA (rightS x)∧(fE (rightS x)=2∨fE (rightS x)=3):=by
 cases e:rightS x with
 | none=>rw [e] at h;exact absurd rfl h
 | some f=>exact right_ok e
theorem fl_mxP {call:Call'} {B:Base} {fs:Sf} {l:List I} {Q:Sf→Prop} {d:Nat} {x y:Go.Eng.Od} {m:Nat} (hx:fs.ev x=.c (.v (.int .i64 0))) (hy:fs.ev y=.c (.v (.int .i64 ((m:Nat) - 1)))) (hw:FL call B l (fs.put d (.c (.v (.int .i64 ((m - 1:Nat):Int))))) Q):FL call B (⟨some d,none,.mx false x y⟩::l) fs Q:=fl_mx hx hy (by simp only;split<;>omega) hw
open Go.CE Go.RowKit Go.Num
open Go.Eng (setL)
theorem c_law08_AstLess {k:Nat} (hk:20≤k) {z:Mem} {x:PFiling} {c0 c1 c2 c3 c4 c5 c6 c7 c8 c9 c10 c11:C} (g0:CZ 8 RBracket z c0 x.brackets) (g1:CZ 1 RW z c1 x.threshold.nm) (g2:CZ 1 RW z c2 x.threshold.dm) (g3:CZ 1 RW z c3 x.cap.nm) (g4:CZ 1 RW z c4 x.cap.dm) (g5:CZ 1 RW z c5 x.interest.nm) (g6:CZ 1 RW z c6 x.interest.dm) (g7:CZ 1 RW z c7 x.floor.nm) (g8:CZ 1 RW z c8 x.floor.dm) (g9:CZ 6 RClass z c9 x.classes) (g10:CZ 1 RS z c10 x.entities) (g11:CZ 6 RYear z c11 x.years):FC (E k) 5 [.agg [.v (.string x.name),.v (.string x.parent),c0,.v (.bool x.threshold.n),c1,.v (.bool x.threshold.d),c2,.v (.bool x.cap.n),c3,.v (.bool x.cap.d),c4,.v (.int .i64 x.back),.v (.int .i64 x.forward),.v (.bool x.interest.n),c5,.v (.bool x.interest.d),c6,.v (.bool x.floor.n),c7,.v (.bool x.floor.d),c8,.v (.int .i64 x.keep),c9,c10,c11]] z fun v _=>v=.c (.v (.bool true)):=by
 have l6:=g11.le
 have s6:SZ 6 RYear z (subV (.c c11) 0 (x.years.length - 1)) (x.years.take (x.years.length - 1)):=SZ.sub (size:=6) (R:=RYear) g11 (i:=0) (j:=x.years.length - 1) (Nat.zero_le _) (Nat.sub_le _ _)
 obtain ⟨w6,e6,_⟩:=s6.one
 rw [e6] at s6
 have l7:=g10.le
 have s7:SZ 1 RS z (subV (.c c10) 0 (x.entities.length - 1)) (x.entities.take (x.entities.length - 1)):=SZ.sub (size:=1) (R:=RS) g10 (i:=0) (j:=x.entities.length - 1) (Nat.zero_le _) (Nat.sub_le _ _)
 obtain ⟨w7,e7,_⟩:=s7.one
 rw [e7] at s7
 have l8:=g9.le
 have s8:SZ 6 RClass z (subV (.c c9) 0 (x.classes.length - 1)) (x.classes.take (x.classes.length - 1)):=SZ.sub (size:=6) (R:=RClass) g9 (i:=0) (j:=x.classes.length - 1) (Nat.zero_le _) (Nat.sub_le _ _)
 obtain ⟨w8,e8,_⟩:=s8.one
 rw [e8] at s8
 have l9:=g0.le
 have s9:SZ 8 RBracket z (subV (.c c0) 0 (x.brackets.length - 1)) (x.brackets.take (x.brackets.length - 1)):=SZ.sub (size:=8) (R:=RBracket) g0 (i:=0) (j:=x.brackets.length - 1) (Nat.zero_le _) (Nat.sub_le _ _)
 obtain ⟨w9,e9,_⟩:=s9.one
 rw [e9] at s9
 have hsm:sameA (.agg [.v (.string x.name),.v (.string x.parent),c0,.v (.bool x.threshold.n),c1,.v (.bool x.threshold.d),c2,.v (.bool x.cap.n),c3,.v (.bool x.cap.d),c4,.v (.int .i64 x.back),.v (.int .i64 x.forward),.v (.bool x.interest.n),c5,.v (.bool x.interest.d),c6,.v (.bool x.floor.n),c7,.v (.bool x.floor.d),c8,.v (.int .i64 x.keep),c9,c10,c11]) (.agg [.v (.string x.name),.v (.string x.parent),c0,.v (.bool x.threshold.n),c1,.v (.bool x.threshold.d),c2,.v (.bool x.cap.n),c3,.v (.bool x.cap.d),c4,.v (.int .i64 x.back),.v (.int .i64 x.forward),.v (.bool x.interest.n),c5,.v (.bool x.interest.d),c6,.v (.bool x.floor.n),c7,.v (.bool x.floor.d),c8,.v (.int .i64 x.keep),c9,c10,c11])=true:=RMono.refl (R:=RFiling) (z:=z) (a:=x) (mk_filing g0 g1 g2 g3 g4 g5 g6 g7 g8 g9 g10 g11)
 refine fc_of (tS_get5) (by omega) (len1 rfl) fun B j hj=>?_
 refine xR ?_
 refine fl_bx rfl fun b1=>?_
 refine lC rfl (lN (fx_ss (xR (fl_ldAll rfl mem0 rfl ?_))))
 refine lZ z (Few (by omega) ⟨_,rfl,mk_filing g0 g1 g2 g3 g4 g5 g6 g7 g8 g9 g10 g11⟩) rfl rfl fun v19 z19 hz19 ⟨r19,hv19,hf19⟩=>?_
 subst hv19
 refine fl_un rfl (u_not _) (lN (fx_cseq ?_))
 refine fx_condB rfl (fun hc20=>?_) (fun hc20=>?_)
 ·refine fx_ss (xR ?_)
  refine lZ z19 (c_law08_works (by omega)) rfl rfl fun v21 z21 hz21 hv21=>?_
  subst hv21
  refine lM rfl (lN (fx_rseq (rQ (.inl rfl) (rt rfl rn) ?_)))
  first | rfl | (exfalso;omega)
 ·refine fx_kseq (xR ?_)
  obtain ⟨hSm,hSk⟩:=hf19 (by simpa using hc20)
  refine fl_ldAll rfl mem0 rfl ?_
  refine lZ z19 (c_ast_Right (x:=x) (by omega) (g0.mono (hz19)) (g1.mono (hz19)) (g2.mono (hz19)) (g3.mono (hz19)) (g4.mono (hz19)) (g5.mono (hz19)) (g6.mono (hz19)) (g7.mono (hz19)) (g8.mono (hz19)) (g9.mono (hz19)) (g10.mono (hz19)) (g11.mono (hz19)) hSk) rfl rfl fun v24 z24 hz24 hv24=>?_
  rw [FV_eq] at hv24
  subst hv24
  refine lM rfl (fl_ext rfl rfl (fl_ext rfl rfl ?_))
  refine fl_alloc fun b3=>?_
  refine fl_stAll rfl rfl rfl rfl rep0 (lM rfl (lN (fx_ss (xR (lM rfl (lB rfl rfl (b_neq _ _ _) (lN ?_)))))))
  refine fx_cseq ?_
  refine fx_condN rfl (fun hc28=>?_) (fun hc28=>?_)
  ·refine fx_ss (xR ?_)
   obtain ⟨u1,u2,u3,u4,u5⟩:=right_some hc28
   refine lM rfl (lB rfl rfl (b_eql _ _ _) (lC rfl ?_))
   refine fl_splitD 31 rfl (fun hg31=>?_) (fun hg31=>?_)
   ·refine lX rfl (lX rfl (lP rfl rfl (lM rfl (lD rfl (lF rfl (lD rfl (fl_ld1 rfl mem0 rfl ?_)))))))
    refine lD rfl (lB rfl rfl (b_geq _ _ _) (lP rfl rfl (lM rfl ?_)))
    refine fl_splitD 40 rfl (fun hg40=>?_) (fun hg40=>?_)
    ·refine lD rfl (lF rfl (lD rfl (fl_ld1 rfl mem0 rfl (lD rfl (lB rfl rfl (b_leq _ _ _) (lP rfl rfl (lM rfl ?_)))))))
     refine fl_splitD 45 rfl (fun hg45=>?_) (fun hg45=>?_)
     ·refine lD rfl (lF rfl (lD rfl (fl_ld1 rfl mem0 rfl (lD rfl (lB rfl rfl (b_geq _ _ _) (lP rfl rfl (lM rfl ?_)))))))
      refine fl_splitD 50 rfl (fun hg50=>?_) (fun hg50=>?_)
      ·refine lD rfl (lF rfl (lD rfl (fl_ld1 rfl mem0 rfl (lD rfl (lB rfl rfl (b_geq _ _ _) (lP rfl rfl (lM rfl ?_)))))))
       refine fl_splitD 55 rfl (fun hg55=>?_) (fun hg55=>?_)
       ·refine lD rfl ?_
        refine lZ z24 (c_law08_works (by omega)) rfl rfl fun v56 z56 hz56 hv56=>?_
        subst hv56
        refine lP rfl rfl (lM rfl (lN (fx_rseq (rQ (.inl rfl) (rt rfl rn) ?_))))
        first | rfl | (exfalso;omega)
       ·refine lX rfl (lP rfl rfl (lM rfl (lN (fx_rseq (rQ (.inl rfl) (rt rfl rn) ?_)))))
        first | rfl | (exfalso;omega)
      ·refine lX rfl (lX rfl (lX rfl (lP rfl rfl (lM rfl (lX rfl (lP rfl rfl (lM rfl ?_)))))))
       refine lN (fx_rseq (rQ (.inl rfl) (rt rfl rn) ?_))
       first | rfl | (exfalso;omega)
     ·refine lX rfl (lX rfl (lX rfl (lP rfl rfl (lM rfl (lX rfl (lX rfl (lX rfl ?_)))))))
      refine lP rfl rfl (lM rfl (lX rfl (lP rfl rfl (lM rfl (lN (fx_rseq (rQ (.inl rfl) (rt rfl rn) ?_)))))))
      first | rfl | (exfalso;omega)
    ·refine lX rfl (lX rfl (lX rfl (lP rfl rfl (lM rfl (lX rfl (lX rfl (lX rfl ?_)))))))
     refine lP rfl rfl (lM rfl (lX rfl (lX rfl (lX rfl (lP rfl rfl (lM rfl (lX rfl ?_)))))))
     refine lP rfl rfl (lM rfl (lN (fx_rseq (rQ (.inl rfl) (rt rfl rn) ?_))))
     first | rfl | (exfalso;omega)
   ·refine lD rfl (lM rfl (lD rfl (lB rfl rfl (b_eql _ _ _) (lP rfl rfl (lM rfl ?_)))))
    refine fl_splitD 35 rfl (fun hg35=>?_) (fun hg35=>?_)
    ·refine lD rfl (lF rfl (lD rfl (fl_ld1 rfl mem0 rfl (lD rfl (lB rfl rfl (b_geq _ _ _) (lP rfl rfl (lM rfl ?_)))))))
     refine fl_splitD 40 rfl (fun hg40=>?_) (fun hg40=>?_)
     ·refine lD rfl (lF rfl (lD rfl (fl_ld1 rfl mem0 rfl (lD rfl (lB rfl rfl (b_leq _ _ _) (lP rfl rfl (lM rfl ?_)))))))
      refine fl_splitD 45 rfl (fun hg45=>?_) (fun hg45=>?_)
      ·refine lD rfl (lF rfl (lD rfl (fl_ld1 rfl mem0 rfl (lD rfl (lB rfl rfl (b_geq _ _ _) (lP rfl rfl (lM rfl ?_)))))))
       refine fl_splitD 50 rfl (fun hg50=>?_) (fun hg50=>?_)
       ·refine lD rfl (lF rfl (lD rfl (fl_ld1 rfl mem0 rfl (lD rfl (lB rfl rfl (b_geq _ _ _) (lP rfl rfl (lM rfl ?_)))))))
        refine fl_splitD 55 rfl (fun hg55=>?_) (fun hg55=>?_)
        ·refine lD rfl ?_
         refine lZ z24 (c_law08_works (by omega)) rfl rfl fun v56 z56 hz56 hv56=>?_
         subst hv56
         refine lP rfl rfl (lM rfl (lN (fx_rseq (rQ (.inl rfl) (rt rfl rn) ?_))))
         first | rfl | (exfalso;omega)
        ·refine lX rfl (lP rfl rfl (lM rfl (lN (fx_rseq (rQ (.inl rfl) (rt rfl rn) ?_)))))
         first | rfl | (exfalso;omega)
       ·refine lX rfl (lX rfl (lX rfl (lP rfl rfl (lM rfl (lX rfl (lP rfl rfl (lM rfl ?_)))))))
        refine lN (fx_rseq (rQ (.inl rfl) (rt rfl rn) ?_))
        first | rfl | (exfalso;omega)
      ·refine lX rfl (lX rfl (lX rfl (lP rfl rfl (lM rfl (lX rfl (lX rfl (lX rfl ?_)))))))
       refine lP rfl rfl (lM rfl (lX rfl (lP rfl rfl (lM rfl (lN (fx_rseq (rQ (.inl rfl) (rt rfl rn) ?_)))))))
       first | rfl | (exfalso;omega)
     ·refine lX rfl (lX rfl (lX rfl (lP rfl rfl (lM rfl (lX rfl (lX rfl (lX rfl ?_)))))))
      refine lP rfl rfl (lM rfl (lX rfl (lX rfl (lX rfl (lP rfl rfl (lM rfl (lX rfl ?_)))))))
      refine lP rfl rfl (lM rfl (lN (fx_rseq (rQ (.inl rfl) (rt rfl rn) ?_))))
      first | rfl | (exfalso;omega)
    ·refine lX rfl (lX rfl (lX rfl (lP rfl rfl (lM rfl (lX rfl (lX rfl (lX rfl ?_)))))))
     refine lP rfl rfl (lM rfl (lX rfl (lX rfl (lX rfl (lP rfl rfl (lM rfl (lX rfl ?_)))))))
     refine lX rfl (lX rfl (lP rfl rfl (lM rfl (lX rfl (lP rfl rfl (lM rfl (lN ?_)))))))
     refine fx_rseq (rQ (.inl rfl) (rt rfl rn) ?_)
     first | rfl | (exfalso;omega)
  ·refine fx_kseq (xR ?_)
   have hrn:=right_zero hc28
   iterate 4 refine fl_ldAll rfl (memS mem0) rfl ?_
   refine fl_bslice (cs:=[.v (.string x.name),.v (.string x.parent),c0,.v (.bool x.threshold.n),c1,.v (.bool x.threshold.d),c2,.v (.bool x.cap.n),c3,.v (.bool x.cap.d),c4,.v (.int .i64 x.back),.v (.int .i64 x.forward),.v (.bool x.interest.n),c5,.v (.bool x.interest.d),c6,.v (.bool x.floor.n),c7,.v (.bool x.floor.d),c8,.v (.int .i64 x.keep),c9,c10,c11,.v (.string x.name),.v (.string x.parent),c0,.v (.bool x.threshold.n),c1,.v (.bool x.threshold.d),c2,.v (.bool x.cap.n),c3,.v (.bool x.cap.d),c4,.v (.int .i64 x.back),.v (.int .i64 x.forward),.v (.bool x.interest.n),c5,.v (.bool x.interest.d),c6,.v (.bool x.floor.n),c7,.v (.bool x.floor.d),c8,.v (.int .i64 x.keep),c9,c10,c11,.v (.string x.name),.v (.string x.parent),c0,.v (.bool x.threshold.n),c1,.v (.bool x.threshold.d),c2,.v (.bool x.cap.n),c3,.v (.bool x.cap.d),c4,.v (.int .i64 x.back),.v (.int .i64 x.forward),.v (.bool x.interest.n),c5,.v (.bool x.interest.d),c6,.v (.bool x.floor.n),c7,.v (.bool x.floor.d),c8,.v (.int .i64 x.keep),c9,c10,c11,.v (.string x.name),.v (.string x.parent),c0,.v (.bool x.threshold.n),c1,.v (.bool x.threshold.d),c2,.v (.bool x.cap.n),c3,.v (.bool x.cap.d),c4,.v (.int .i64 x.back),.v (.int .i64 x.forward),.v (.bool x.interest.n),c5,.v (.bool x.interest.d),c6,.v (.bool x.floor.n),c7,.v (.bool x.floor.d),c8,.v (.int .i64 x.keep),c9,c10,c11]) rfl fun b62=>?_
   refine fl_frzZ z24 (p:=[]) rfl rfl rfl (fun _ h=>h) fun zfm62 hzfm62 m62=>?_
   refine lC rfl (lN (fx_drwS (gP rfl rfl trivial ?_)))
   refine lC rfl (lN ?_)
   refine gP rfl rfl trivial ?_
   refine fl_iad rfl rfl 0 rfl (by decide) (lN ?_)
   refine fg_load (v:=.agg [.v (.string x.name),.v (.string x.parent),c0,.v (.bool x.threshold.n),c1,.v (.bool x.threshold.d),c2,.v (.bool x.cap.n),c3,.v (.bool x.cap.d),c4,.v (.int .i64 x.back),.v (.int .i64 x.forward),.v (.bool x.interest.n),c5,.v (.bool x.interest.d),c6,.v (.bool x.floor.n),c7,.v (.bool x.floor.d),c8,.v (.int .i64 x.keep),c9,c10,c11]) rfl rfl trivial rfl (.inl m62) rfl (Nat.le_of_ble_eq_true rfl) rfl hsm (gP rfl rfl trivial ?_)
   refine lC rfl (lN ?_)
   refine gP rfl rfl trivial ?_
   refine fl_iad rfl rfl 1 rfl (by decide) (lN ?_)
   refine fg_load (v:=.agg [.v (.string x.name),.v (.string x.parent),c0,.v (.bool x.threshold.n),c1,.v (.bool x.threshold.d),c2,.v (.bool x.cap.n),c3,.v (.bool x.cap.d),c4,.v (.int .i64 x.back),.v (.int .i64 x.forward),.v (.bool x.interest.n),c5,.v (.bool x.interest.d),c6,.v (.bool x.floor.n),c7,.v (.bool x.floor.d),c8,.v (.int .i64 x.keep),c9,c10,c11]) rfl rfl trivial rfl (.inl m62) rfl (Nat.le_of_ble_eq_true rfl) rfl hsm (gP rfl rfl trivial ?_)
   refine lC rfl (lN ?_)
   refine gP rfl rfl trivial ?_
   refine fl_iad rfl rfl 2 rfl (by decide) (lN ?_)
   refine fg_load (v:=.agg [.v (.string x.name),.v (.string x.parent),c0,.v (.bool x.threshold.n),c1,.v (.bool x.threshold.d),c2,.v (.bool x.cap.n),c3,.v (.bool x.cap.d),c4,.v (.int .i64 x.back),.v (.int .i64 x.forward),.v (.bool x.interest.n),c5,.v (.bool x.interest.d),c6,.v (.bool x.floor.n),c7,.v (.bool x.floor.d),c8,.v (.int .i64 x.keep),c9,c10,c11]) rfl rfl trivial rfl (.inl m62) rfl (Nat.le_of_ble_eq_true rfl) rfl hsm (gP rfl rfl trivial ?_)
   refine lC rfl (lN ?_)
   refine gP rfl rfl trivial ?_
   refine fl_iad rfl rfl 3 rfl (by decide) (lN ?_)
   refine fg_load (v:=.agg [.v (.string x.name),.v (.string x.parent),c0,.v (.bool x.threshold.n),c1,.v (.bool x.threshold.d),c2,.v (.bool x.cap.n),c3,.v (.bool x.cap.d),c4,.v (.int .i64 x.back),.v (.int .i64 x.forward),.v (.bool x.interest.n),c5,.v (.bool x.interest.d),c6,.v (.bool x.floor.n),c7,.v (.bool x.floor.d),c8,.v (.int .i64 x.keep),c9,c10,c11]) rfl rfl trivial rfl (.inl m62) rfl (Nat.le_of_ble_eq_true rfl) rfl hsm ?_
   refine fg_own (k:=.cells 41 [.v ((.string ⟨#[]⟩)),.v ((.string ⟨#[]⟩)),.v ((.slice none 0 0)),.v ((.bool false)),.v ((.slice none 0 0)),.v ((.bool false)),.v ((.slice none 0 0)),.v ((.bool false)),.v ((.slice none 0 0)),.v ((.bool false)),.v ((.slice none 0 0)),.v ((.int .i64 0)),.v ((.int .i64 0)),.v ((.bool false)),.v ((.slice none 0 0)),.v ((.bool false)),.v ((.slice none 0 0)),.v ((.bool false)),.v ((.slice none 0 0)),.v ((.bool false)),.v ((.slice none 0 0)),.v ((.int .i64 0)),.v ((.slice none 0 0)),.v ((.slice none 0 0)),.v ((.slice none 0 0))]) (w:=fun b=>.c (.ptr b 0)) rfl trivial rfl (fun _=>rfl) (fun st hst=>rfl) (fun b6 hT6=>?_)
   refine fg_own (k:=.cells 41 [.v ((.string ⟨#[]⟩)),.v ((.string ⟨#[]⟩)),.v ((.slice none 0 0)),.v ((.bool false)),.v ((.slice none 0 0)),.v ((.bool false)),.v ((.slice none 0 0)),.v ((.bool false)),.v ((.slice none 0 0)),.v ((.bool false)),.v ((.slice none 0 0)),.v ((.int .i64 0)),.v ((.int .i64 0)),.v ((.bool false)),.v ((.slice none 0 0)),.v ((.bool false)),.v ((.slice none 0 0)),.v ((.bool false)),.v ((.slice none 0 0)),.v ((.bool false)),.v ((.slice none 0 0)),.v ((.int .i64 0)),.v ((.slice none 0 0)),.v ((.slice none 0 0)),.v ((.slice none 0 0))]) (w:=fun b=>.c (.ptr b 0)) rfl trivial rfl (fun _=>rfl) (fun st hst=>rfl) (fun b7 hT7=>?_)
   refine fg_own (k:=.cells 41 [.v ((.string ⟨#[]⟩)),.v ((.string ⟨#[]⟩)),.v ((.slice none 0 0)),.v ((.bool false)),.v ((.slice none 0 0)),.v ((.bool false)),.v ((.slice none 0 0)),.v ((.bool false)),.v ((.slice none 0 0)),.v ((.bool false)),.v ((.slice none 0 0)),.v ((.int .i64 0)),.v ((.int .i64 0)),.v ((.bool false)),.v ((.slice none 0 0)),.v ((.bool false)),.v ((.slice none 0 0)),.v ((.bool false)),.v ((.slice none 0 0)),.v ((.bool false)),.v ((.slice none 0 0)),.v ((.int .i64 0)),.v ((.slice none 0 0)),.v ((.slice none 0 0)),.v ((.slice none 0 0))]) (w:=fun b=>.c (.ptr b 0)) rfl trivial rfl (fun _=>rfl) (fun st hst=>rfl) (fun b8 hT8=>?_)
   refine fg_own (k:=.cells 41 [.v ((.string ⟨#[]⟩)),.v ((.string ⟨#[]⟩)),.v ((.slice none 0 0)),.v ((.bool false)),.v ((.slice none 0 0)),.v ((.bool false)),.v ((.slice none 0 0)),.v ((.bool false)),.v ((.slice none 0 0)),.v ((.bool false)),.v ((.slice none 0 0)),.v ((.int .i64 0)),.v ((.int .i64 0)),.v ((.bool false)),.v ((.slice none 0 0)),.v ((.bool false)),.v ((.slice none 0 0)),.v ((.bool false)),.v ((.slice none 0 0)),.v ((.bool false)),.v ((.slice none 0 0)),.v ((.int .i64 0)),.v ((.slice none 0 0)),.v ((.slice none 0 0)),.v ((.slice none 0 0))]) (w:=fun b=>.c (.ptr b 0)) rfl trivial rfl (fun _=>rfl) (fun st hst=>rfl) (fun b9 hT9=>?_)
   refine fg_storeT (i:=⟨_,_,.store _ _ _⟩) rfl trivial rfl rfl rfl hT6 ?_
   refine fl_stAll rfl rfl rfl rfl (repS (repS (repS rep0))) (lN ?_)
   refine fg_storeT (i:=⟨_,_,.store _ _ _⟩) rfl trivial rfl rfl rfl hT7 ?_
   refine fl_stAll rfl rfl rfl rfl (repS (repS rep0)) (lN ?_)
   refine fg_storeT (i:=⟨_,_,.store _ _ _⟩) rfl trivial rfl rfl rfl hT8 ?_
   refine fl_stAll rfl rfl rfl rfl (repS rep0) (lN ?_)
   refine fg_store (i:=⟨_,_,.store _ _ _⟩) rfl trivial rfl rfl rfl rfl ?_
   refine fl_stAll rfl rfl rfl rfl rep0 (lN (fg_nil (xR (lF rfl (fl_ld1 rfl (memS (memS (memS mem0))) rfl (lF rfl (fl_ld1 rfl (memS (memS (memS mem0))) rfl ?_)))))))
   refine fl_lenS rfl (g11.mono (hz19.trans (hz24.trans hzfm62))) ?_
   refine lB rfl rfl (b_sub' (wi64 ⟨by omega,by omega⟩)) ?_
   refine fl_mxP rfl rfl ?_
   refine fl_slcS (i:=0) (j:=x.years.length - 1) rfl (g11.mono (hz19.trans (hz24.trans hzfm62))) rfl ⟨_,rfl⟩ (by omega) (by omega) ?_
   refine lF rfl (fl_stE (cs':=[.v (.string x.name),.v (.string x.parent),c0,.v (.bool x.threshold.n),c1,.v (.bool x.threshold.d),c2,.v (.bool x.cap.n),c3,.v (.bool x.cap.d),c4,.v (.int .i64 x.back),.v (.int .i64 x.forward),.v (.bool x.interest.n),c5,.v (.bool x.interest.d),c6,.v (.bool x.floor.n),c7,.v (.bool x.floor.d),c8,.v (.int .i64 x.keep),c9,c10,w6]) rfl e6 rfl (repS (repS (repS rep0))) rfl rfl (Nat.le_of_ble_eq_true rfl) (lN (xR (lF rfl (fl_ld1 rfl (memS (memS mem0)) rfl (lF rfl (fl_ld1 rfl (memS (memS mem0)) rfl ?_)))))))
   refine fl_lenS rfl (g10.mono (hz19.trans (hz24.trans hzfm62))) ?_
   refine lB rfl rfl (b_sub' (wi64 ⟨by omega,by omega⟩)) ?_
   refine fl_mxP rfl rfl ?_
   refine fl_slcS (i:=0) (j:=x.entities.length - 1) rfl (g10.mono (hz19.trans (hz24.trans hzfm62))) rfl ⟨_,rfl⟩ (by omega) (by omega) ?_
   refine lF rfl (fl_stE (cs':=[.v (.string x.name),.v (.string x.parent),c0,.v (.bool x.threshold.n),c1,.v (.bool x.threshold.d),c2,.v (.bool x.cap.n),c3,.v (.bool x.cap.d),c4,.v (.int .i64 x.back),.v (.int .i64 x.forward),.v (.bool x.interest.n),c5,.v (.bool x.interest.d),c6,.v (.bool x.floor.n),c7,.v (.bool x.floor.d),c8,.v (.int .i64 x.keep),c9,w7,c11]) rfl e7 rfl (repS (repS rep0)) rfl rfl (Nat.le_of_ble_eq_true rfl) (lN (xR (lF rfl (fl_ld1 rfl (memS mem0) rfl (lF rfl (fl_ld1 rfl (memS mem0) rfl ?_)))))))
   refine fl_lenS rfl (g9.mono (hz19.trans (hz24.trans hzfm62))) ?_
   refine lB rfl rfl (b_sub' (wi64 ⟨by omega,by omega⟩)) ?_
   refine fl_mxP rfl rfl ?_
   refine fl_slcS (i:=0) (j:=x.classes.length - 1) rfl (g9.mono (hz19.trans (hz24.trans hzfm62))) rfl ⟨_,rfl⟩ (by omega) (by omega) ?_
   refine lF rfl (fl_stE (cs':=[.v (.string x.name),.v (.string x.parent),c0,.v (.bool x.threshold.n),c1,.v (.bool x.threshold.d),c2,.v (.bool x.cap.n),c3,.v (.bool x.cap.d),c4,.v (.int .i64 x.back),.v (.int .i64 x.forward),.v (.bool x.interest.n),c5,.v (.bool x.interest.d),c6,.v (.bool x.floor.n),c7,.v (.bool x.floor.d),c8,.v (.int .i64 x.keep),w8,c10,c11]) rfl e8 rfl (repS rep0) rfl rfl (Nat.le_of_ble_eq_true rfl) (lN (xR (lF rfl (fl_ld1 rfl mem0 rfl (lF rfl (fl_ld1 rfl mem0 rfl ?_)))))))
   refine fl_lenS rfl (g0.mono (hz19.trans (hz24.trans hzfm62))) ?_
   refine lB rfl rfl (b_sub' (wi64 ⟨by omega,by omega⟩)) ?_
   refine fl_mxP rfl rfl ?_
   refine fl_slcS (i:=0) (j:=x.brackets.length - 1) rfl (g0.mono (hz19.trans (hz24.trans hzfm62))) rfl ⟨_,rfl⟩ (by omega) (by omega) ?_
   refine lF rfl (fl_stE (cs':=[.v (.string x.name),.v (.string x.parent),w9,.v (.bool x.threshold.n),c1,.v (.bool x.threshold.d),c2,.v (.bool x.cap.n),c3,.v (.bool x.cap.d),c4,.v (.int .i64 x.back),.v (.int .i64 x.forward),.v (.bool x.interest.n),c5,.v (.bool x.interest.d),c6,.v (.bool x.floor.n),c7,.v (.bool x.floor.d),c8,.v (.int .i64 x.keep),c9,c10,c11]) rfl e9 rfl rep0 rfl rfl (Nat.le_of_ble_eq_true rfl) (lN (xR (fl_ldAll rfl (memS (memS (memS mem0))) rfl ?_))))
   refine lZ zfm62 (c_ast_Right (x:={ x with years:=x.years.take (x.years.length - 1) }) (by omega) (g0.mono (hz19.trans (hz24.trans hzfm62))) (g1.mono (hz19.trans (hz24.trans hzfm62))) (g2.mono (hz19.trans (hz24.trans hzfm62))) (g3.mono (hz19.trans (hz24.trans hzfm62))) (g4.mono (hz19.trans (hz24.trans hzfm62))) (g5.mono (hz19.trans (hz24.trans hzfm62))) (g6.mono (hz19.trans (hz24.trans hzfm62))) (g7.mono (hz19.trans (hz24.trans hzfm62))) (g8.mono (hz19.trans (hz24.trans hzfm62))) (g9.mono (hz19.trans (hz24.trans hzfm62))) (g10.mono (hz19.trans (hz24.trans hzfm62))) (s6.mono (hz19.trans (hz24.trans hzfm62))) (sk_years hSk)) rfl rfl fun v113 z113 hz113 hv113=>?_
   rw [less_years hrn] at hv113
   subst hv113
   refine lM rfl (fl_ext rfl rfl (fl_ext rfl rfl ?_))
   refine fl_alloc fun b10=>?_
   refine fl_stAll rfl rfl rfl rfl rep0 (lM rfl (lN (xR (fl_ldAll rfl (memS (memS (memS mem0))) rfl ?_))))
   refine lZ z113 (c_ast_Right (x:={ x with entities:=x.entities.take (x.entities.length - 1) }) (by omega) (g0.mono (hz19.trans (hz24.trans (hzfm62.trans hz113)))) (g1.mono (hz19.trans (hz24.trans (hzfm62.trans hz113)))) (g2.mono (hz19.trans (hz24.trans (hzfm62.trans hz113)))) (g3.mono (hz19.trans (hz24.trans (hzfm62.trans hz113)))) (g4.mono (hz19.trans (hz24.trans (hzfm62.trans hz113)))) (g5.mono (hz19.trans (hz24.trans (hzfm62.trans hz113)))) (g6.mono (hz19.trans (hz24.trans (hzfm62.trans hz113)))) (g7.mono (hz19.trans (hz24.trans (hzfm62.trans hz113)))) (g8.mono (hz19.trans (hz24.trans (hzfm62.trans hz113)))) (g9.mono (hz19.trans (hz24.trans (hzfm62.trans hz113)))) (s7.mono (hz19.trans (hz24.trans (hzfm62.trans hz113)))) (g11.mono (hz19.trans (hz24.trans (hzfm62.trans hz113)))) (sk_entities hSk)) rfl rfl fun v118 z118 hz118 hv118=>?_
   rw [less_entities hrn] at hv118
   subst hv118
   refine lM rfl (fl_ext rfl rfl (fl_ext rfl rfl ?_))
   refine fl_alloc fun b12=>?_
   refine fl_stAll rfl rfl rfl rfl rep0 (lM rfl (lN (xR (fl_ldAll rfl (memS (memS (memS mem0))) rfl ?_))))
   refine lZ z118 (c_ast_Right (x:={ x with classes:=x.classes.take (x.classes.length - 1) }) (by omega) (g0.mono (hz19.trans (hz24.trans (hzfm62.trans (hz113.trans hz118))))) (g1.mono (hz19.trans (hz24.trans (hzfm62.trans (hz113.trans hz118))))) (g2.mono (hz19.trans (hz24.trans (hzfm62.trans (hz113.trans hz118))))) (g3.mono (hz19.trans (hz24.trans (hzfm62.trans (hz113.trans hz118))))) (g4.mono (hz19.trans (hz24.trans (hzfm62.trans (hz113.trans hz118))))) (g5.mono (hz19.trans (hz24.trans (hzfm62.trans (hz113.trans hz118))))) (g6.mono (hz19.trans (hz24.trans (hzfm62.trans (hz113.trans hz118))))) (g7.mono (hz19.trans (hz24.trans (hzfm62.trans (hz113.trans hz118))))) (g8.mono (hz19.trans (hz24.trans (hzfm62.trans (hz113.trans hz118))))) (s8.mono (hz19.trans (hz24.trans (hzfm62.trans (hz113.trans hz118))))) (g10.mono (hz19.trans (hz24.trans (hzfm62.trans (hz113.trans hz118))))) (g11.mono (hz19.trans (hz24.trans (hzfm62.trans (hz113.trans hz118))))) (sk_classes hSk)) rfl rfl fun v123 z123 hz123 hv123=>?_
   rw [less_classes hrn] at hv123
   subst hv123
   refine lM rfl (fl_ext rfl rfl (fl_ext rfl rfl ?_))
   refine fl_alloc fun b14=>?_
   refine fl_stAll rfl rfl rfl rfl rep0 (lM rfl (lN (xR (fl_ldAll rfl (memS (memS (memS mem0))) rfl ?_))))
   refine lZ z123 (c_ast_Right (x:={ x with brackets:=x.brackets.take (x.brackets.length - 1) }) (by omega) (s9.mono (hz19.trans (hz24.trans (hzfm62.trans (hz113.trans (hz118.trans hz123)))))) (g1.mono (hz19.trans (hz24.trans (hzfm62.trans (hz113.trans (hz118.trans hz123)))))) (g2.mono (hz19.trans (hz24.trans (hzfm62.trans (hz113.trans (hz118.trans hz123)))))) (g3.mono (hz19.trans (hz24.trans (hzfm62.trans (hz113.trans (hz118.trans hz123)))))) (g4.mono (hz19.trans (hz24.trans (hzfm62.trans (hz113.trans (hz118.trans hz123)))))) (g5.mono (hz19.trans (hz24.trans (hzfm62.trans (hz113.trans (hz118.trans hz123)))))) (g6.mono (hz19.trans (hz24.trans (hzfm62.trans (hz113.trans (hz118.trans hz123)))))) (g7.mono (hz19.trans (hz24.trans (hzfm62.trans (hz113.trans (hz118.trans hz123)))))) (g8.mono (hz19.trans (hz24.trans (hzfm62.trans (hz113.trans (hz118.trans hz123)))))) (g9.mono (hz19.trans (hz24.trans (hzfm62.trans (hz113.trans (hz118.trans hz123)))))) (g10.mono (hz19.trans (hz24.trans (hzfm62.trans (hz113.trans (hz118.trans hz123)))))) (g11.mono (hz19.trans (hz24.trans (hzfm62.trans (hz113.trans (hz118.trans hz123)))))) (sk_brackets hSk)) rfl rfl fun v128 z128 hz128 hv128=>?_
   rw [less_brackets hrn] at hv128
   subst hv128
   refine lM rfl (fl_ext rfl rfl (fl_ext rfl rfl ?_))
   refine fl_alloc fun b16=>?_
   refine fl_stAll rfl rfl rfl rfl rep0 (lM rfl (lN (xR (lM rfl (lB rfl rfl (b_eql _ _ _) (lC rfl ?_))))))
   refine fl_splitD 133 rfl (fun hg133=>?_) (fun hg133=>?_)
   ·refine lD rfl (lM rfl (lD rfl (lB rfl rfl (b_eql _ _ _) (lP rfl rfl (lM rfl ?_)))))
    refine fl_splitD 137 rfl (fun hg137=>?_) (fun hg137=>?_)
    ·refine lD rfl (lM rfl (lD rfl (lB rfl rfl (b_eql _ _ _) (lP rfl rfl (lM rfl ?_)))))
     refine fl_splitD 141 rfl (fun hg141=>?_) (fun hg141=>?_)
     ·refine lD rfl (lM rfl (lD rfl (lB rfl rfl (b_eql _ _ _) (lP rfl rfl (lM rfl ?_)))))
      refine fl_splitD 145 rfl (fun hg145=>?_) (fun hg145=>?_)
      ·refine lD rfl ?_
       refine lZ z128 (c_law08_works (by omega)) rfl rfl fun v146 z146 hz146 hv146=>?_
       subst hv146
       refine lP rfl rfl (lM rfl (lN (xT (rQ (.inl rfl) (rt rfl rn) ?_))))
       first | rfl | (exfalso;omega)
      ·refine lX rfl (lP rfl rfl (lM rfl (lN (xT (rQ (.inl rfl) (rt rfl rn) ?_)))))
       first | rfl | (exfalso;omega)
     ·refine lX rfl (lX rfl (lP rfl rfl (lM rfl (lX rfl (lP rfl rfl (lM rfl (lN ?_)))))))
      refine xT (rQ (.inl rfl) (rt rfl rn) ?_)
      first | rfl | (exfalso;omega)
    ·refine lX rfl (lX rfl (lP rfl rfl (lM rfl (lX rfl (lX rfl (lP rfl rfl (lM rfl ?_)))))))
     refine lX rfl (lP rfl rfl (lM rfl (lN (xT (rQ (.inl rfl) (rt rfl rn) ?_)))))
     first | rfl | (exfalso;omega)
   ·refine lX rfl (lX rfl (lP rfl rfl (lM rfl (lX rfl (lX rfl (lP rfl rfl (lM rfl ?_)))))))
    refine lX rfl (lX rfl (lP rfl rfl (lM rfl (lX rfl (lP rfl rfl (lM rfl (lN ?_)))))))
    refine xT (rQ (.inl rfl) (rt rfl rn) ?_)
    first | rfl | (exfalso;omega)
end Go.Proofs.YtcnpoojdochapaaGreatDoor
