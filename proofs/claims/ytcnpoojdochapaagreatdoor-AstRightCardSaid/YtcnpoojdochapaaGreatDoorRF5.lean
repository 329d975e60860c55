/- The reference's first fault of a filing; the law, walked. -/
import Derived.WalkKit
import Derived.Orders
import Derived.Test.YtcnpoojdochapaaGreatDoorRD9
import Derived.Test.YtcnpoojdochapaaGreatDoorRF3
import Derived.Test.YtcnpoojdochapaaGreatDoorRF4
set_option linter.unusedVariables false
set_option maxRecDepth 100000
set_option linter.unusedSimpArgs false
set_option maxHeartbeats 1000000
namespace Go.Proofs.YtcnpoojdochapaaGreatDoor
open Go.CE Go.RowKit Go.Num
def aSN {α:Type} (f:α→Bool) (o:Option α):Bool:=match o with | some a=>f a | none=>true
theorem On {α:Type} {f:α→Bool} {l:List α} {i:Nat} (h:i<l.length):aSN f l[i]? = f l[i]:=by rw [List.getElem?_eq_getElem h];rfl
theorem aFZ {α:Type} {most:Nat} {pr:α→Bool} {l:List α}:∀ (d i:Nat),l.length=i+d→lR most (fun q=>aSN pr l[q]?) i ((List.range l.length).drop i)=lR most pr i (l.drop i)
 | 0,i,h=>by
  rw [List.drop_eq_nil_of_le (by rw [List.length_range];omega),List.drop_eq_nil_of_le (by omega),lR,lR]
 | d+1,i,h=>by
  rw [List.drop_eq_getElem_cons (show i<(List.range l.length).length by rw [List.length_range];omega),List.drop_eq_getElem_cons (show i<l.length by omega),lR,lR,List.getElem_range,On (show i<l.length by omega),aFZ d (i+1) (by omega)]
theorem xM {α:Type} {most:Nat} {pr:α→Bool} {l:List α} {part year:Int}:oI part year most pr l=oI part year most (fun q=>aSN pr l[q]?) (List.range l.length):=by
 have h:=aFZ (most:=most) (pr:=pr) (l:=l) l.length 0 (by omega)
 rw [List.drop_zero,List.drop_zero] at h
 rw [oI,oI,h]
def L35 (x:kM):List Nat:=[0,0,x.brackets.length,0,x.classes.length,x.entities.length,x.years.length]
def L36:List Nat:=[0,0,16,0,64,256,40]
def L12 (y:tI):List Nat:=[0,0,0,0,0,0,0,y.holds.length,y.books.length,y.deals.length,y.stocks.length,y.solds.length]
def aXi (x:kM) (m i:Nat):Bool:=if m=2 then aSN Ar x.brackets[i]? else if m=4 then aSN oW x.classes[i]? else if m=5 then aSN sP x.entities[i]? else aSN aFN x.years[i]?
def aSC (y:tI) (m i:Nat):Bool:=if m=7 then aSN Lr y.holds[i]? else if m=8 then aSN Lu y.books[i]? else if m=9 then aSN Dm y.deals[i]? else if m=10 then aSN Hw y.stocks[i]? else aSN Wc y.solds[i]?
def aXX (x:kM) (m:Nat):Option (Nat×Int):=lR (dX L36 m) (aXi x m) 0 (List.range (dX (L35 x) m))
def aZR (y:tI) (m:Nat):Option (Nat×Int):=lR 4096 (aSC y m) 0 (List.range (dX (L12 y) m))
theorem aW9 {x:kM} {m:Nat} (h1:2≤m) (h2:m≤6) (h3:m≠3):(pE x)[m - 1]? = some ((aXX x m).map fun q=>⟨m,-1,q.1,q.2⟩):=by
 have hm:m=2∨m=4∨m=5∨m=6:=by omega
 rcases hm with rfl | rfl | rfl | rfl
 ·exact congrArg some (xM (part := 2) (year := -1) (most := 16) (pr := Ar) (l := x.brackets))
 ·exact congrArg some (xM (part := 4) (year := -1) (most := 64) (pr := oW) (l := x.classes))
 ·exact congrArg some (xM (part := 5) (year := -1) (most := 256) (pr := sP) (l := x.entities))
 exact congrArg some (xM (part := 6) (year := -1) (most := 40) (pr := aFN) (l := x.years))
theorem aZX {y:tI} {i m:Nat} (h1:7≤m) (h2:m≤11):(Bw (i:Nat) y)[m - 7]? = some ((aZR y m).map fun q=>⟨m,i,q.1,q.2⟩):=by
 have hm:m=7∨m=8∨m=9∨m=10∨m=11:=by omega
 rcases hm with rfl | rfl | rfl | rfl | rfl
 ·exact congrArg some (xM (part:=7) (year:=i) (most:=4096) (pr:=Lr) (l:=y.holds))
 ·exact congrArg some (xM (part:=8) (year:=i) (most:=4096) (pr:=Lu) (l:=y.books))
 ·exact congrArg some (xM (part:=9) (year:=i) (most:=4096) (pr:=Dm) (l:=y.deals))
 ·exact congrArg some (xM (part:=10) (year:=i) (most:=4096) (pr:=Hw) (l:=y.stocks))
 exact congrArg some (xM (part:=11) (year:=i) (most:=4096) (pr:=Wc) (l:=y.solds))
theorem aK2 {α:Type} {rs:List (Option α)} {i:Nat} {a:α} (h:rs[i]? = some (some a)):eT (rs.drop i)=some a:=by
 obtain ⟨hi,h2⟩:=List.getElem?_eq_some_iff.1 h
 rw [aYG hi (by rw [h2];rfl),h2]
theorem aMS {α:Type} {rs:List (Option α)} {i:Nat} (h:rs[i]? = some none):eT (rs.drop i)=eT (rs.drop (i+1)):=by
 obtain ⟨hi,h2⟩:=List.getElem?_eq_some_iff.1 h
 exact aVt hi (by rw [h2];rfl)
theorem aU0 {x:kM} {m:Nat} {q:Nat×Int} (h1:2≤m) (h2:m≤6) (h3:m≠3) (h:eT (pE x)=eT ((pE x).drop (m - 1))) (hw:aXX x m=some q):Bi x=some ⟨m,-1,q.1,q.2⟩:=by
 have:=aK2 (aW9 (x:=x) h1 h2 h3 |>.trans (by rw [hw];rfl))
 rw [Bi,h,this]
theorem aYM {x:kM} {m:Nat} (h1:2≤m) (h2:m≤6) (h3:m≠3) (h:eT (pE x)=eT ((pE x).drop (m - 1))) (hw:aXX x m=none):eT (pE x)=eT ((pE x).drop (m+1 - 1)):=by
 have:=aMS (aW9 (x:=x) h1 h2 h3 |>.trans (by rw [hw];rfl))
 rw [h,this,show m - 1+1=m+1 - 1 by omega]
theorem aWV {y:tI} {i m:Nat} {q:Nat×Int} (h1:7≤m) (h2:m≤11) (h:eT (Bw (i:Nat) y)=eT ((Bw (i:Nat) y).drop (m - 7))) (hw:aZR y m=some q):eT (Bw (i:Nat) y)=some ⟨m,i,q.1,q.2⟩:=by
 rw [h,aK2 (aZX (y:=y) h1 h2 |>.trans (by rw [hw];rfl))]
theorem bCJ {y:tI} {i m:Nat} (h1:7≤m) (h2:m≤11) (h:eT (Bw (i:Nat) y)=eT ((Bw (i:Nat) y).drop (m - 7))) (hw:aZR y m=none):eT (Bw (i:Nat) y)=eT ((Bw (i:Nat) y).drop (m+1 - 7)):=by
 rw [h,aMS (aZX (y:=y) h1 h2 |>.trans (by rw [hw];rfl)),show m - 7+1=m+1 - 7 by omega]
theorem aIb {most:Nat}:∀ (l:List Bool) (i:Nat),i+l.length≤most→lR most id i l=if Q1 l<l.length then some (i+Q1 l,2) else none
 | [],_,_=>by rw [lR];rfl
 | false::l,i,h=>by
  rw [List.length_cons] at h
  rw [lR,if_neg (by omega),if_neg (by decide),show Q1 (false::l)=0 by simp [Q1],if_pos (by rw [List.length_cons];omega)];rfl
 | true::l,i,h=>by
  rw [List.length_cons] at h
  rw [lR,if_neg (by omega),if_pos (show id true=true from rfl),aIb l (i+1) (by omega),show Q1 (true::l)=Q1 l+1 by simp [Q1],List.length_cons]
  by_cases h1:Q1 l<l.length
  ·rw [if_pos h1,if_pos (by omega),show i+1+Q1 l=i+(Q1 l+1) by omega]
  rw [if_neg h1,if_neg (by omega)]
theorem bLL {x:kM} (h:Q1 (D3 x)<7):(pE x)[2]? = some (some ⟨3,-1,(Q1 (D3 x):Nat),2⟩):=by
 show some (oI 3 (-1) 7 id (D3 x))=_
 rw [oI,aIb _ 0 (Nat.le_of_ble_eq_true rfl),show (D3 x).length=7 from rfl,if_pos h,Nat.zero_add];rfl
theorem bMy {x:kM} (h:¬ Q1 (D3 x)<7):(pE x)[2]? = some none:=by
 show some (oI 3 (-1) 7 id (D3 x))=_
 rw [oI,aIb _ 0 (Nat.le_of_ble_eq_true rfl),show (D3 x).length=7 from rfl,if_neg h];rfl
theorem bOq {x:kM} (h:sP x.name=false):Bi x=some ⟨1,-1,0,2⟩:=by
 have:(pE x)[0]? = some (some ⟨1,-1,(0:Nat),2⟩):=by
  show some (oI 1 (-1) 2 sP [x.name,x.parent])=_
  rw [oI,lR,if_neg (by decide),if_neg (by rw [h];decide)];rfl
 rw [Bi,show pE x=(pE x).drop 0 from rfl,aK2 this];rfl
theorem bQp {x:kM} (h:sP x.name=true) (h2:sP x.parent=false):Bi x=some ⟨1,-1,1,2⟩:=by
 have:(pE x)[0]? = some (some ⟨1,-1,(1:Nat),2⟩):=by
  show some (oI 1 (-1) 2 sP [x.name,x.parent])=_
  rw [oI,lR,if_neg (by decide),if_pos h,lR,if_neg (by decide),if_neg (by rw [h2];decide)];rfl
 rw [Bi,show pE x=(pE x).drop 0 from rfl,aK2 this];rfl
theorem bQh {x:kM} (h:sP x.name=true) (h2:sP x.parent=true):eT (pE x)=eT ((pE x).drop (2 - 1)):=by
 have:(pE x)[0]? = some none:=by
  show some (oI 1 (-1) 2 sP [x.name,x.parent])=_
  rw [oI,lR,if_neg (by decide),if_pos h,lR,if_neg (by decide),if_pos h2,lR];rfl
 exact aMS (rs:=pE x) (i:=0) this
section
variable {most c i:Nat} {pr:Nat→Bool}
theorem aZr (h:i<c) (h1:¬ i=most) (h2:pr i=true):lR most pr i ((List.range c).drop i)=lR most pr (i+1) ((List.range c).drop (i+1)):=aH4 (l:=List.range c) (by rw [List.length_range];exact h) h1 (by rw [List.getElem_range];exact h2)
theorem aZ2 (h:i<c) (h1:i=most):lR most pr i ((List.range c).drop i)=some (i,3):=aH5 (l:=List.range c) (by rw [List.length_range];exact h) h1
theorem bGj (h:i<c) (h1:¬ i=most) (h2:pr i=false):lR most pr i ((List.range c).drop i)=some (i,2):=aSx (l:=List.range c) (by rw [List.length_range];exact h) h1 (by rw [List.getElem_range];exact h2)
theorem bDQ (h:c≤i):lR most pr i ((List.range c).drop i)=none:=aOs (l:=List.range c) (by rw [List.length_range];exact h)
end
theorem bNV {k:Nat} (hk:14≤k) {z:dE} {x:kM} {c0 c1 c2 c3 c4 c5 c6 c7 c8 c9 c10 c11:C} (g0:CZ 8 pS z c0 x.brackets) (g1:CZ 1 RW z c1 x.threshold.nm) (g2:CZ 1 RW z c2 x.threshold.dm) (g3:CZ 1 RW z c3 x.cap.nm) (g4:CZ 1 RW z c4 x.cap.dm) (g5:CZ 1 RW z c5 x.interest.nm) (g6:CZ 1 RW z c6 x.interest.dm) (g7:CZ 1 RW z c7 x.floor.nm) (g8:CZ 1 RW z c8 x.floor.dm) (g9:CZ 6 xP z c9 x.classes) (g10:CZ 1 RS z c10 x.entities) (g11:CZ 6 Ak z c11 x.years) (hS:SkF x) {m i:Nat} (hm:m=2∨m=4∨m=5∨m=6) (hi:i<dX (L35 x) m):FC (E k) 65 [.agg (kF x c0 c1 c2 c3 c4 c5 c6 c7 c8 c9 c10 c11),Ai (m:Nat),Ai (i:Nat)] z fun v _=>v=Ab (aXi x m i):=by
 rcases hm with rfl | rfl | rfl | rfl
 ·exact (aWW hk g0 g1 g2 g3 g4 g5 g6 g7 g8 g9 g10 g11 hS (i:=i) hi).mono fun v _ _ h=>h.trans (by rw [aXi,if_pos rfl,On (show i<x.brackets.length from hi)];rfl)
 ·exact (bAO hk g0 g1 g2 g3 g4 g5 g6 g7 g8 g9 g10 g11 hS (i:=i) hi).mono fun v _ _ h=>h.trans (by rw [aXi,if_neg (by decide),if_pos rfl,On (show i<x.classes.length from hi)];rfl)
 ·exact (bKr hk g0 g1 g2 g3 g4 g5 g6 g7 g8 g9 g10 g11 hS (i:=i) hi).mono fun v _ _ h=>h.trans (by rw [aXi,if_neg (by decide),if_neg (by decide),if_pos rfl,On (show i<x.entities.length from hi)];rfl)
 exact (bHs hk g0 g1 g2 g3 g4 g5 g6 g7 g8 g9 g10 g11 hS (i:=i) hi).mono fun v _ _ h=>h.trans (by rw [aXi,if_neg (by decide),if_neg (by decide),if_neg (by decide),On (show i<x.years.length from hi)];rfl)
theorem bKl {k:Nat} (hk:13≤k) {z:dE} {x:tI} {c0 c1 c2 c3 c4:C} (g0:CZ 6 Hh z c0 x.holds) (g1:CZ 6 Hi z c1 x.books) (g2:CZ 10 Ez z c2 x.deals) (g3:CZ 9 Bm z c3 x.stocks) (g4:CZ 5 Ik z c4 x.solds) (hS:SkY x) {m i:Nat} (h1:7≤m) (h2:m≤11) (hi:i<dX (L12 x) m):FC (E k) 66 [.agg [Ci x.number,c0,c1,c2,c3,c4],Ai (m:Nat),Ai (i:Nat)] z fun v _=>v=Ab (aSC x m i):=by
 have hm:m=7∨m=8∨m=9∨m=10∨m=11:=by omega
 rcases hm with rfl | rfl | rfl | rfl | rfl
 ·exact (bDa hk g0 g1 g2 g3 g4 hS (i:=i) hi).mono fun v _ _ h=>h.trans (by rw [aSC,if_pos rfl,On (show i<x.holds.length from hi)];rfl)
 ·exact (bAU hk g0 g1 g2 g3 g4 hS (i:=i) hi).mono fun v _ _ h=>h.trans (by rw [aSC,if_neg (by decide),if_pos rfl,On (show i<x.books.length from hi)];rfl)
 ·exact (bBY hk g0 g1 g2 g3 g4 hS (i:=i) hi).mono fun v _ _ h=>h.trans (by rw [aSC,if_neg (by decide),if_neg (by decide),if_pos rfl,On (show i<x.deals.length from hi)];rfl)
 ·exact (aZe hk g0 g1 g2 g3 g4 hS (i:=i) hi).mono fun v _ _ h=>h.trans (by rw [aSC,if_neg (by decide),if_neg (by decide),if_neg (by decide),if_pos rfl,On (show i<x.stocks.length from hi)];rfl)
 exact (bAV hk g0 g1 g2 g3 g4 hS (i:=i) hi).mono fun v _ _ h=>h.trans (by rw [aSC,if_neg (by decide),if_neg (by decide),if_neg (by decide),if_neg (by decide),On (show i<x.solds.length from hi)];rfl)
open Go.CE Go.RowKit Go.Num
open Go.Eng (oH)
theorem bRB {x:kM} {M:Nat} (h0:x.brackets.length≤M) (h1:x.classes.length≤M) (h2:x.entities.length≤M) (h3:x.years.length≤M) (m:Nat):dX (L35 x) m≤M:=by
 match m with
 | 0=>exact Nat.zero_le _
 | 1=>exact Nat.zero_le _
 | 2=>exact h0
 | 3=>exact Nat.zero_le _
 | 4=>exact h1
 | 5=>exact h2
 | 6=>exact h3
 | m+7=>exact Nat.zero_le _
theorem bLS {y:tI} {M:Nat} (h0:y.holds.length≤M) (h1:y.books.length≤M) (h2:y.deals.length≤M) (h3:y.stocks.length≤M) (h4:y.solds.length≤M) (m:Nat):dX (L12 y) m≤M:=by
 match m with
 | 0=>exact Nat.zero_le _
 | 1=>exact Nat.zero_le _
 | 2=>exact Nat.zero_le _
 | 3=>exact Nat.zero_le _
 | 4=>exact Nat.zero_le _
 | 5=>exact Nat.zero_le _
 | 6=>exact Nat.zero_le _
 | 7=>exact h0
 | 8=>exact h1
 | 9=>exact h2
 | 10=>exact h3
 | 11=>exact h4
 | m+12=>exact Nat.zero_le _
theorem bOa {x:kM} {p i:Nat} (h:p=3):¬ ((i:Nat):Int)<(dX (L35 x) p:Nat):=by
 subst h
 show ¬ ((i:Nat):Int)<((0:Nat):Int)
 omega
theorem aXF {x:kM} {p:Nat} (hp:p=3) (h:eT (pE x)=eT ((pE x).drop (p - 1))) (hn:¬ Q1 (D3 x)<7):eT (pE x)=eT ((pE x).drop (p+1 - 1)):=by
 subst hp
 exact h.trans (aMS (bMy hn))
theorem bAD {x:kM} {p:Nat} (hp:p=3) (h:eT (pE x)=eT ((pE x).drop (p - 1))) (hn:Q1 (D3 x)<7):Bi x=some ⟨3,-1,(Q1 (D3 x):Nat),2⟩:=by
 subst hp
 rw [Bi,h,aK2 (bLL hn)]
theorem aO7 {x:kM} {p:Nat} (h:eT (pE x)=eT ((pE x).drop (p - 1))) (hp:7≤p):eT (pE x)=none:=by
 rw [h];exact aTL (show 6≤p - 1 by omega)
theorem aT0 {x:kM} {m:Nat} {f:Jz} (h:eT (pE x)=none) (hyw:A7 0 x.years=A7 m (x.years.drop m)) (hm:m<x.years.length) (hf:eT (Bw (m:Nat) x.years[m])=some f):Bi x=some f:=by
 rw [Bi,h]
 show A7 0 x.years=some f
 rw [hyw,bFY hm (by rw [hf];rfl),hf]
theorem aBU {x:kM} {m:Nat} (h:eT (pE x)=none) (hyw:A7 0 x.years=A7 m (x.years.drop m)) (hm:x.years.length≤m):Bi x=none:=by
 rw [Bi,h]
 show A7 0 x.years=none
 rw [hyw,bFZ hm]
theorem aUa {k:Nat} (hk:15≤k) {z:dE} {x:kM} {c0 c1 c2 c3 c4 c5 c6 c7 c8 c9 c10 c11:C} (g0:CZ 8 pS z c0 x.brackets) (g1:CZ 1 RW z c1 x.threshold.nm) (g2:CZ 1 RW z c2 x.threshold.dm) (g3:CZ 1 RW z c3 x.cap.nm) (g4:CZ 1 RW z c4 x.cap.dm) (g5:CZ 1 RW z c5 x.interest.nm) (g6:CZ 1 RW z c6 x.interest.dm) (g7:CZ 1 RW z c7 x.floor.nm) (g8:CZ 1 RW z c8 x.floor.dm) (g9:CZ 6 xP z c9 x.classes) (g10:CZ 1 RS z c10 x.entities) (g11:CZ 6 Ak z c11 x.years) (hS:SkF x):FC (E k) 18 [.agg (kF x c0 c1 c2 c3 c4 c5 c6 c7 c8 c9 c10 c11)] z fun v _=>v=FV (Bi x):=by
 have hcl:=bRB g0.le g9.le g10.le g11.le
 refine cX (bFc) (by omega) (aU O) fun B j hj=>?_
 refine xR ?_
 refine iJ O fun b1=>?_
 refine mR fun b2=>?_
 refine R2 16 O (bQ O Y1 O ?_)
 refine lE z (Ko (by omega) (hS.str2 x.name (by simp))) O O fun z15 _=>?_
 refine R3 4 O ?_
 refine iO O (fun hc16=>?_) (fun hc16=>?_)
 ·refine R4 4 O (iU (cs:=[_,_,_]) O (pM O O O O iP (R0 2 O (mN (rQ (.inl O) (rc3 O mem0 (rt O rn)) ?_)))))
  have hq:=bOq (x:=x) (by simpa using hc16)
  rw [hq]
  rfl
 refine R4 16 O (bQ O Y1 O ?_)
 refine lE z15 (Ko (by omega) (hS.str2 x.parent (by simp))) O O fun z20 _=>?_
 refine R3 4 O ?_
 refine iO O (fun hc21=>?_) (fun hc21=>?_)
 ·refine R4 4 O (iU (cs:=[_,_,_]) O (pM O O O O iP (R0 2 O (mN (rQ (.inl O) (rc3 O mem0 (rt O rn)) ?_)))))
  have hq:=bQp (x:=x) (by simpa using hc16) (by simpa using hc21)
  rw [hq]
  rfl
 refine R4 8 O (bQ O Y1 O (aS O g0 (lF O (bQ O Y1 O (aS O g9 (lF O (bQ O Y1 O (aS O g10 (lF O (bQ O Y1 O (aS O g11 ?_)))))))))))
 refine kO (cs:=(cE eN (L35 x))) (by kernel_rfl) fun b35=>?_
 refine uT z20 (p:=[]) O O O (fun _ h=>h) fun zfm35 _ m35=>?_
 have h35:=Ls.sz (size:=1) (R:=RN) (l:=L35 x) rfl (Nat.le_of_ble_eq_true rfl) m35
 refine R2 4 O ?_
 refine kO (cs:=(cE eN L36)) (by kernel_rfl) fun b36=>?_
 refine uT zfm35 (p:=[]) O O O (fun _ h=>h) fun zfm36 _ m36=>?_
 have h36:=Ls.sz (size:=1) (R:=RN) (l:=L36) rfl (Nat.le_of_ble_eq_true rfl) m36
 refine R3 16 O ?_
 refine aT (aQ ?_)
 refine eA (fun n fs=>∃ (p:Nat),LI zfm36 [.blk b2 (.cells 54 [Cu 0,Ci 0,Ci 0]),.blk b1 (.cells 47 (kF x c0 c1 c2 c3 c4 c5 c6 c7 c8 c9 c10 c11))] [(1,Ap b1),(2,Ap b2),(4,Aw b35 7),(5,Aw b36 7),(6,Az p)] fs∧n=7 - p∧(2≤p)∧(p≤7)∧(eT (pE x)=eT ((pE x).drop (p - 1)))) ?_ _ ⟨2,LI.m [] O,rfl,Nat.le_refl _,by decide,bQh (by simpa using hc16) (by simpa using hc21)⟩ (kK (by omega))
 intro n fs ⟨p,hL0,hmz0,hp2,hp7,hfs⟩
 refine hL0.open fun e zl0 _=>?_
 refine R5 32 O ?_
 refine xD O (fun hc38=>?_) (fun hc38=>?_)
 ·refine dA ?_
  refine aT (aQ ?_)
  refine R4 32 O ?_
  refine iW 43 O (fun hg43=>?_) (fun hg43=>?_)
  ·refine lD O (Aa O Y1 O (lD O ?_))
   refine lE zl0 (aD2 (x:=x) (by omega) g0.m g1.m g2.m g3.m g4.m g5.m g6.m g7.m g8.m g9.m g10.m g11.m ⟨hS.threshold,hS.cap,hS.interest,hS.floor⟩) O O fun z45 _=>?_
   refine R3 8 O ?_
   refine xD O (fun hc47=>?_) (fun hc47=>?_)
   ·refine R4 4 O (Aa O Y1 O ?_)
    refine lE z45 (aD2 (x:=x) (by omega) g0.m g1.m g2.m g3.m g4.m g5.m g6.m g7.m g8.m g9.m g10.m g11.m ⟨hS.threshold,hS.cap,hS.interest,hS.floor⟩) O O fun z49 _=>?_
    refine iU (cs:=[_,_,_]) O (pM O O O O iP (R0 2 O (mN (lS (B8 (lS (rQ (.inl O) (rc3 O mem0 (rt O rn)) ?_)))))))
    have hq:=bAD (x:=x) (p:=p) (by omega) hfs (by omega)
    rw [hq]
    rfl
   refine R5 8 O (aQ ?_)
   refine eA (fun n fs=>∃ (i:Nat),LI z45 [.blk b2 (.cells 54 [Cu 0,Ci 0,Ci 0]),.blk b1 (.cells 47 (kF x c0 c1 c2 c3 c4 c5 c6 c7 c8 c9 c10 c11))] [(1,Ap b1),(2,Ap b2),(4,Aw b35 7),(5,Aw b36 7),(6,Az p),(7,Az i)] fs∧n=dX (L35 x) p - i∧(i≤dX (L35 x) p)∧(aXX x p=lR (dX L36 p) (aXi x p) i ((List.range (dX (L35 x) p)).drop i))) ?_ _ ⟨0,LI.m [] O,rfl,Nat.zero_le _,rfl⟩ (by have:=hcl p;show _<18446744073709551616;omega)
   intro n fs ⟨i,hL1,hmz1,hi,hw⟩
   refine hL1.open fun e zl1 hzl1=>?_
   refine R4 32 O ?_
   refine wC (zz:=zl1) O O h35.m (p) (O) (by show p<7;omega) fun p54 hp54=>?_
   refine wF O hp54 (R3 4 O ?_)
   refine xD O (fun hc56=>?_) (fun hc56=>?_)
   ·exact absurd hc56 (bOa (by omega))
   refine dK (nQ (dN (xG (lC O (lB O O (eP (n:=p+1) (by omega) (by omega)) (R0 2 O ?_))))))
   exact lQ (by omega) ⟨p+1,LI.m [] O,rfl,by omega,by omega,aXF (by omega) hfs (by omega)⟩
  refine R3 512 O (aQ ?_)
  refine eA (fun n fs=>∃ (i:Nat),LI zl0 [.blk b2 (.cells 54 [Cu 0,Ci 0,Ci 0]),.blk b1 (.cells 47 (kF x c0 c1 c2 c3 c4 c5 c6 c7 c8 c9 c10 c11))] [(1,Ap b1),(2,Ap b2),(4,Aw b35 7),(5,Aw b36 7),(6,Az p),(7,Az i)] fs∧n=dX (L35 x) p - i∧(i≤dX (L35 x) p)∧(aXX x p=lR (dX L36 p) (aXi x p) i ((List.range (dX (L35 x) p)).drop i))) ?_ _ ⟨0,LI.m [] O,rfl,Nat.zero_le _,rfl⟩ (by have:=hcl p;show _<18446744073709551616;omega)
  intro n fs ⟨i,hL1,hmz1,hi,hw⟩
  refine hL1.open fun e zl1 hzl1=>?_
  refine R4 32 O ?_
  refine wC (zz:=zl1) O O h35.m (p) (O) (by show p<7;omega) fun p54 hp54=>?_
  refine wF O hp54 (R3 4 O ?_)
  refine xD O (fun hc56=>?_) (fun hc56=>?_)
  ·refine dA ?_
   refine aT (aQ ?_)
   refine R4 32 O ?_
   refine wC (zz:=zl1) O O h36.m (p) (O) (by show p<7;omega) fun p62 hp62=>?_
   refine wF O hp62 (R3 4 O ?_)
   refine xD O (fun hc64=>?_) (fun hc64=>?_)
   ·refine R4 8 O ?_
    refine mB O (wu8 ⟨by omega,by omega⟩) ?_
    refine lC O (iU (cs:=[_,_,_]) O (pM O O O O iP (R0 2 O (mN (lS (B8 (lS (B8 (lS (rQ (.inl O) (rc3 O mem0 (rt O rn)) ?_))))))))))
    have hq:=aU0 hp2 (by omega) (by omega) hfs (hw.trans (aZ2 (by omega) (by omega)))
    rw [hq]
    rfl
   refine R4 4 O (Aa O Y1 O (R1 4 O ?_))
   refine lE zl1 (bNV (x:=x) (by omega) g0.m g1.m g2.m g3.m g4.m g5.m g6.m g7.m g8.m g9.m g10.m g11.m hS (m:=p) (i:=i) (by omega) (by omega)) O O fun z72 _=>?_
   refine R0 2 O ?_
   refine iO O (fun hc73=>?_) (fun hc73=>?_)
   ·refine R4 4 O ?_
    refine mB O (wu8 ⟨by omega,by omega⟩) ?_
    refine lC O (iU (cs:=[_,_,_]) O (pM O O O O iP (R0 2 O (xT (lS (B8 (lS (B8 (lS (rQ (.inl O) (rc3 O mem0 (rt O rn)) ?_))))))))))
    have hq:=aU0 hp2 (by omega) (by omega) hfs (hw.trans (bGj (by omega) (by omega) (by simpa using hc73)))
    rw [hq]
    rfl
   refine iF (dN (xG ?_))
   have hcp:=hcl p
   refine lC O (lB O O (eP (n:=i+1) (by omega) (by omega)) (R0 2 O ?_))
   exact lQ (by omega) ⟨i+1,LI.m [] O,rfl,by omega,hw.trans (aZr (by omega) (by omega) (by simpa using hc73))⟩
  refine dK (nQ (dN (xG (lC O (lB O O (eP (n:=p+1) (by omega) (by omega)) (R0 2 O ?_))))))
  exact lQ (by omega) ⟨p+1,LI.m [] O,rfl,by omega,by omega,aYM hp2 (by omega) (by omega) hfs (hw.trans (bDQ (by omega)))⟩
 refine dK (nQ (dN (R5 8 O ?_)))
 refine aT (aQ ?_)
 refine eA (fun n fs=>∃ (m:Nat),LI zl0 [.blk b2 (.cells 54 [Cu 0,Ci 0,Ci 0]),.blk b1 (.cells 47 (kF x c0 c1 c2 c3 c4 c5 c6 c7 c8 c9 c10 c11))] [(1,Ap b1),(2,Ap b2),(8,Az m)] fs∧n=x.years.length - m∧(m≤x.years.length)∧(A7 0 x.years=A7 m (x.years.drop m))) ?_ _ ⟨0,LI.m [] O,rfl,Nat.zero_le _,rfl⟩ (by have:=g11.le;show _<18446744073709551616;omega)
 intro n fs ⟨m,hL2,hmz2,hm,hyw⟩
 refine hL2.open fun e zl2 _=>?_
 refine R4 16 O (bQ O Y1 O (aS O g11 (R3 4 O ?_)))
 refine xD O (fun hc82=>?_) (fun hc82=>?_)
 ·refine dA ?_
  refine aT (aQ ?_)
  refine R4 4 O (bQ O Y1 O (lC O ?_))
  have hml:m<x.years.length:=by omega
  refine dH (zz:=zl2) O O g11.m m O _ (List.getElem?_eq_getElem hml) fun b88 p88 cs at88 hR=>?_
  obtain ⟨y0,y1,y2,y3,y4,hcs,q0,q1,q2,q3,q4⟩:=hR
  subst hcs
  refine aVf O at88 O ?_
  refine mR fun b9=>?_
  refine pM O O O O iP (lN (R4 4 O (bQ O mem0 O (aS O q0 (lF O (bQ O mem0 O (aS O q1 (lF O (bQ O mem0 O (aS O q2 (lF O (bQ O mem0 O (aS O q3 (lF O (bQ O mem0 O ?_)))))))))))))))
  refine aS O q4 ?_
  refine kO (cs:=(cE eN (L12 x.years[m]))) (by kernel_rfl) fun b105=>?_
  refine uT zl2 (p:=[]) O O O (fun _ h=>h) fun zfm105 _ m105=>?_
  have h105:=Ls.sz (size:=1) (R:=RN) (l:=L12 x.years[m]) rfl (Nat.le_of_ble_eq_true rfl) m105
  refine R3 8 O (aQ ?_)
  refine eA (fun n fs=>∃ (u:Nat),LI zfm105 [.blk b9 (.cells 111 [Ci x.years[m].number,y0,y1,y2,y3,y4]),.blk b2 (.cells 54 [Cu 0,Ci 0,Ci 0]),.blk b1 (.cells 47 (kF x c0 c1 c2 c3 c4 c5 c6 c7 c8 c9 c10 c11))] [(1,Ap b1),(2,Ap b2),(8,Az m),(9,Ap b9),(10,Aw b105 12),(11,Az u)] fs∧n=12 - u∧(7≤u)∧(u≤12)∧(eT (Bw (m:Nat) x.years[m])=eT ((Bw (m:Nat) x.years[m]).drop (u - 7)))) ?_ _ ⟨7,LI.m [] O,rfl,Nat.le_refl _,by decide,rfl⟩ (kK (by omega))
  intro n fs ⟨u,hL3,hmz3,hu7,hu12,hfy⟩
  refine hL3.open fun e zl3 _=>?_
  refine R5 32 O ?_
  refine xD O (fun hc107=>?_) (fun hc107=>?_)
  ·refine dA ?_
   refine aT (aQ ?_)
   refine R5 4 O (aQ ?_)
   refine eA (fun n fs=>∃ (v:Nat),LI zl3 [.blk b9 (.cells 111 [Ci x.years[m].number,y0,y1,y2,y3,y4]),.blk b2 (.cells 54 [Cu 0,Ci 0,Ci 0]),.blk b1 (.cells 47 (kF x c0 c1 c2 c3 c4 c5 c6 c7 c8 c9 c10 c11))] [(1,Ap b1),(2,Ap b2),(8,Az m),(9,Ap b9),(10,Aw b105 12),(11,Az u),(12,Az v)] fs∧n=dX (L12 x.years[m]) u - v∧(v≤dX (L12 x.years[m]) u)∧(aZR x.years[m] u=lR 4096 (aSC x.years[m] u) v ((List.range (dX (L12 x.years[m]) u)).drop v))) ?_ _ ⟨0,LI.m [] O,rfl,Nat.zero_le _,rfl⟩ (by have:=bLS q0.le q1.le q2.le q3.le q4.le u;show _<18446744073709551616;omega)
   intro n fs ⟨v,hL4,hmz4,hv_,hwy⟩
   refine hL4.open fun e zl4 _=>?_
   refine R4 32 O ?_
   refine wC (zz:=zl4) O O h105.m (u) (O) (by show u<12;omega) fun p113 hp113=>?_
   refine wF O hp113 (R3 4 O ?_)
   refine xD O (fun hc115=>?_) (fun hc115=>?_)
   ·refine dA ?_
    refine aT (aQ ?_)
    refine R5 32 O ?_
    refine xD O (fun hc119=>?_) (fun hc119=>?_)
    ·refine R4 8 O ?_
     refine mB O (wu8 ⟨by omega,by omega⟩) ?_
     refine R1 4 O (iU (cs:=[_,_,_]) O (pM O O O O P1 (R0 2 O (mN (lS (B8 (lS (B8 (lS (B8 (lS (rQ (.inl O) (rc3 O Y1 (rt O rn)) ?_))))))))))))
     have hq:=aT0 (aO7 hfs (by omega)) hyw hml (aWV hu7 (by omega) hfy (hwy.trans (aZ2 (by omega) (by omega))))
     rw [hq]
     rfl
    refine R4 4 O (Aa O mem0 O (R1 4 O ?_))
    refine lE zl4 (bKl (x:=x.years[m]) (by omega) q0.m q1.m q2.m q3.m q4.m (hS.years _ (List.getElem_mem hml)) (m:=u) (i:=v) hu7 (by omega) (by omega)) O O fun z128 _=>?_
    refine R0 2 O ?_
    refine iO O (fun hc129=>?_) (fun hc129=>?_)
    ·refine R4 4 O ?_
     refine mB O (wu8 ⟨by omega,by omega⟩) ?_
     refine R1 4 O (iU (cs:=[_,_,_]) O (pM O O O O P1 (R0 2 O (xT (lS (B8 (lS (B8 (lS (B8 (lS (rQ (.inl O) (rc3 O Y1 (rt O rn)) ?_))))))))))))
     have hq:=aT0 (aO7 hfs (by omega)) hyw hml (aWV hu7 (by omega) hfy (hwy.trans (bGj (by omega) (by omega) (by simpa using hc129))))
     rw [hq]
     rfl
    refine iF (dN (xG ?_))
    have hcq:=bLS q0.le q1.le q2.le q3.le q4.le u
    refine lC O (lB O O (eP (n:=v+1) (by omega) (by omega)) (R0 2 O ?_))
    exact lQ (by omega) ⟨v+1,LI.m [] O,rfl,by omega,hwy.trans (aZr (by omega) (by omega) (by simpa using hc129))⟩
   refine dK (nQ (dN (xG (lC O (lB O O (eP (n:=u+1) (by omega) (by omega)) (R0 2 O ?_))))))
   exact lQ (by omega) ⟨u+1,LI.m [] O,rfl,by omega,by omega,bCJ hu7 (by omega) hfy (hwy.trans (bDQ (by omega)))⟩
  refine dK (nQ (dN (xG ?_)))
  have hly:=g11.le
  refine lC O (lB O O (eP (n:=m+1) (by omega) (by omega)) (R0 2 O ?_))
  exact lQ (by omega) ⟨m+1,LI.m [_] O,rfl,by omega,hyw.trans (aZG hml (by rw [hfy,aTL (show (Bw (m:Nat) x.years[m]).length≤u - 7 by show 5≤u - 7;omega)];rfl))⟩
 refine dK (nQ (dN (xR (iU (cs:=[_,_,_]) O (pM O O O O iP (R0 2 O (xT (rQ (.inl O) (rc3 O mem0 (rt O rn)) ?_))))))))
 have hq:=aBU (aO7 hfs (by omega)) hyw (by omega)
 rw [hq]
 rfl
open Go.CE Go.RowKit Go.Num
open Go.Eng (oH)
theorem aQ6 {k:Nat} (hk:20≤k) {z:dE} {x:kM} {c0 c1 c2 c3 c4 c5 c6 c7 c8 c9 c10 c11:C} (g0:CZ 8 pS z c0 x.brackets) (g1:CZ 1 RW z c1 x.threshold.nm) (g2:CZ 1 RW z c2 x.threshold.dm) (g3:CZ 1 RW z c3 x.cap.nm) (g4:CZ 1 RW z c4 x.cap.dm) (g5:CZ 1 RW z c5 x.interest.nm) (g6:CZ 1 RW z c6 x.interest.dm) (g7:CZ 1 RW z c7 x.floor.nm) (g8:CZ 1 RW z c8 x.floor.dm) (g9:CZ 6 xP z c9 x.classes) (g10:CZ 1 RS z c10 x.entities) (g11:CZ 6 Ak z c11 x.years):FC (E k) 4 [.agg (kF x c0 c1 c2 c3 c4 c5 c6 c7 c8 c9 c10 c11)] z fun v _=>v=Ab true:=by
 refine cX (bJO) (by omega) (aU O) fun B j hj=>?_
 refine xR ?_
 refine iJ O fun b1=>?_
 refine R2 8 O (Aa O mem0 O ?_)
 refine lZ z (Few (by omega) ⟨_,O,Ju g0 g1 g2 g3 g4 g5 g6 g7 g8 g9 g10 g11⟩) O O fun v9 z9 _ ⟨r9,hv9,hf9⟩=>?_
 subst hv9
 refine R3 4 O ?_
 refine iO O (fun hc10=>?_) (fun hc10=>?_)
 ·refine R4 4 O ?_
  refine lE z9 (aG8 (by omega)) O O fun z11 _=>?_
  refine R0 3 O (mN (rI O ?_))
  first | rfl | (exfalso;omega)
 refine R4 4 O ?_
 obtain ⟨hSm,hSk⟩:=hf9 (by simpa using hc10)
 refine Aa O mem0 O ?_
 refine lZ z9 (aTd (by omega) ⟨_,O,Ju g0.m g1.m g2.m g3.m g4.m g5.m g6.m g7.m g8.m g9.m g10.m g11.m⟩ hSm) O O fun v13 z13 _ ⟨cs13,hv13,hR13⟩=>?_
 obtain ⟨d0,d1,d2,d3,d4,d5,d6,d7,d8,d9,d10,d11,hcs,r0,r1,r2,r3,r4,r5,r6,r7,r8,r9,r10,r11⟩:=hR13
 subst hcs
 subst hv13
 refine mR fun b3=>?_
 refine pM O O O O iP (lN (xR (Aa O Y1 O ?_)))
 refine lZ z13 (aSG (x:=x) (by omega) g0.m g1.m g2.m g3.m g4.m g5.m g6.m g7.m g8.m g9.m g10.m g11.m hSk) O O fun v16 z16 _ hv16=>?_
 rw [bMa] at hv16
 subst hv16
 refine R1 9 O ?_
 refine mR fun b4=>?_
 refine pM O O O O iP (R2 5 O (Aa O Y1 O ?_))
 refine lZ z16 (aUa (x:=x) (by omega) r0.m r1.m r2.m r3.m r4.m r5.m r6.m r7.m r8.m r9.m r10.m r11.m hSk) O O fun v21 z21 _ hv21=>?_
 rw [bMa] at hv21
 subst hv21
 refine R1 9 O ?_
 refine mR fun b6=>?_
 refine pM O O O O iP (R0 3 O (gX (G1 2 O (wH O O (.inr Y1) O (G1 2 O (wH O O Ht O (G1 4 O ?_)))))))
 refine uW 29 O (fun hg29=>?_) (fun hg29=>?_)
 ·refine G1 2 O (wH O O (.inr Y1) O (G1 2 O (wH O O Ht O (G1 12 O ?_))))
  refine uW 36 O (fun hg36=>?_) (fun hg36=>?_)
  ·refine G1 2 O (wH O O (.inr Y1) O (G1 2 O (wH O O Ht O (G1 12 O ?_))))
   refine uW 43 O (fun hg43=>?_) (fun hg43=>?_)
   ·refine G1 51 O ?_
    refine uW 48 O (fun hg48=>?_) (fun hg48=>?_)
    ·refine aTx (i:=⟨_,_,.load _ _ _⟩) O O O O (.inr Y3) O sR ?_
     refine gC z21 (aTd (by omega) ⟨_,O,Ju g0.m g1.m g2.m g3.m g4.m g5.m g6.m g7.m g8.m g9.m g10.m g11.m⟩ hSm) O O O O fun v50 z50 _ ⟨cs50,hv50,hR50⟩=>?_
     obtain ⟨f0,f1,f2,f3,f4,f5,f6,f7,f8,f9,f10,f11,hcs,s0,s1,s2,s3,s4,s5,s6,s7,s8,s9,s10,s11⟩:=hR50
     subst hcs
     subst hv50
     refine aTx (i:=⟨_,_,.load _ _ _⟩) O O O O (.inr Y2) O sR ?_
     refine gE z50 (bE2 (x:=x) (by omega) s0 s1 s2 s3 s4 s5 s6 s7 s8 s9 s10 s11 r0.m r1.m r2.m r3.m r4.m r5.m r6.m r7.m r8.m r9.m r10.m r11.m) O O O O fun z52 _=>?_
     refine G1 6 O ?_
     refine gE z52 (aG8 (by omega)) O O O O fun z55 _=>?_
     refine G0 6 O (xT (rI O ?_))
     first | rfl | (exfalso;omega)
    refine G0 800 O (xT (rI O ?_))
    first | rfl | (exfalso;omega)
   refine G0 25616 O (xT (rI O ?_))
   first | rfl | (exfalso;omega)
  refine G0 3278912 O (xT (rI O ?_))
  first | rfl | (exfalso;omega)
 refine G0 419700800 O (xT (rI O ?_))
 first | rfl | (exfalso;omega)
end Go.Proofs.YtcnpoojdochapaaGreatDoor
