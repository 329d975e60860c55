/- Pairs, and the law, walked. -/
import Derived.WalkKit
import Derived.Orders
import Derived.Test.YtlceligcgelbdaaGreatBD4
set_option linter.unusedVariables false
set_option linter.unusedSimpArgs false
set_option maxRecDepth 100000
set_option maxHeartbeats 1000000
namespace Go.Proofs.YtlceligcgelbdaaGreat
open Go.CE Go.RowKit Go.Num
open Go.Eng (setL)
def isB (e:Int) (l:List Bool):Bool:=decide (0≤e) && l.getD e.toNat false
theorem isB_t {e:Int} {l:List Bool} (h1:0≤e) (h2:e.toNat<l.length):isB e l=l[e.toNat]:=by simp [isB,h1,h2]
theorem isB_g {e:Int} {l:List Bool} (h:(l.length:Int)≤e):isB e l=false:=by
 have h2:l.length≤e.toNat:=by omega
 simp [isB,h2]
theorem isB_f {e:Int} {l:List Bool} (h:e<0):isB e l=false:=by
 have h2:¬ 0≤e:=by omega
 simp [isB,h2]
theorem both1 {x y:Bool} (h:x=false∨False):false=(x && y):=by rcases h with h | h;rw [h];rfl;exact h.elim
theorem both2 {x y:Bool} (h:x=true) (g:y=false∨False):false=(x && y):=by rcases g with g | g;rw [h,g];rfl;exact g.elim
theorem both3 {x y w:Bool} (h:x=true) (g:y=w):w=(x && y):=by rw [h,g];rfl
abbrev PT:=List UInt8×Int×Int×Int×Int×Int×Rat
def sameP (a b:PT):Bool:=decide (a=b)
theorem sameP_t {s1 s2:List UInt8} {k1 p1 q1 i1 o1 k2 p2 q2 i2 o2:Int} {x y:Rat} (h1:s1=s2) (h2:k1=k2) (h3:p1=p2) (h4:q1=q2) (h5:i1=i2) (h6:o1=o2):decide (x=y)=sameP (s1,k1,p1,q1,i1,o1,x) (s2,k2,p2,q2,i2,o2,y):=by
 subst h1 h2 h3 h4 h5 h6
 simp [sameP]
theorem sameP_f {s1 s2:List UInt8} {k1 p1 q1 i1 o1 k2 p2 q2 i2 o2:Int} {x y:Rat} (h:¬ (s1=s2∧k1=k2∧p1=p2∧q1=q2∧i1=i2∧o1=o2∧x=y)):false=sameP (s1,k1,p1,q1,i1,o1,x) (s2,k2,p2,q2,i2,o2,y):=by
 simp only [sameP,Prod.mk.injEq,h,decide_false]
theorem at1 {z:Mem} {b ty:Nat} {c:C} (h:z b (.cells ty [c])):At z b 0 [c]:=⟨_,[c],h,rfl,by simp,rfl⟩
theorem eqlBB (a b:Bool):Go.Eng.binBV .eql (.bool a) (.bool b)=some (.bool (a == b)):=by cases a<;>cases b<;>rfl
theorem sub_sign {p q:Rat}:(p - q).num.sign=0↔p=q:=by
 rw [Int.sign_eq_zero_iff_zero,Rat.num_eq_zero]
 exact ⟨fun h=>by rw [← Rat.sub_add_cancel (a:=p) (b:=q),h,Rat.zero_add],fun h=>by rw [h];exact Rat.sub_self⟩
theorem eqF {a:Bool} {P:Prop} (h:(a == a)=false):P:=absurd h (by simp)
theorem eqF2 {a:PT} {P:Prop} (h:sameP a a=false):P:=absurd h (by simp [sameP])
theorem fg_ldAll {call:Call'} {B:Base} {an:List Nat} {j:Nat} {l:List CE.D} {fs:Sf} {T:Mem} {tag last:Nat} {pj lj:List Nat} {Q:Sf→Prop} {i:I} {d size:Nat} {x:Go.Eng.Od} {af:List Nat} {b ty:Nat} {cs:List C} (hi:i.o=.load true size x) (hd:i.d=some d) (hg:GK fs i) (hx:fs.ev x=Ap b) (hT:T b (.cells ty cs)) (h:cs.length=size) (hs:sameA (.agg cs) (.agg cs)=true) (hw:FG call B an (j+1) l (fs.put d (.agg cs)) T tag last pj (j::lj) Q):FG call B an j (⟨i,af⟩::l) fs T tag last pj lj Q:=
 fg_load (v:=.agg cs) hi hd hg hx hT rfl (by omega) (by rw [List.drop_zero,List.take_of_length_le (by omega)];rfl) hs hw
theorem rcAll {fs:Sf} {i b ty size:Nat} {cs:List C} {rs:List RR} {vs:List AV} (hp:fs.e i=Ap b) (hm:HA.blk b (.cells ty cs)∈fs.H) (hs:cs.length=size) (t:ResL fs rs vs):ResL fs (.c i true size::rs) (.agg cs::vs):=rc hp hm (by omega) (by rw [List.drop_zero,List.take_of_length_le (by omega)];rfl) t
instance:RMono (RE Value.bool):=⟨fun _ h=>h⟩
theorem getW:(mkT tS).get 42=none:=by kernel_rfl
theorem handW (mem:Tr Blk) (nx:Nat):(handG 321 117 (handL [e331] noHand)) 42 [] mem nx=some (Ab true,mem,nx):=rfl
theorem works_fc {k:Nat} (hk:1≤k) {z:Mem}:FC (E k) 42 [] z fun v _=>v=Ab true:=fun mem nx hh=>by
 obtain ⟨j,rfl⟩:∃ j,k=j+1:=⟨k - 1,by omega⟩
 refine ⟨_,mem,nx,z,[],?_,Nat.le_refl _,fun _ _ _=>rfl,hh,zle.refl _,fun b k h=>.inl h,fun b h=>(by simp [fps] at h),rfl,rfl⟩
 show evF (mkT tS) (handG 321 117 (handL [e331] noHand)) K0 (j+1) 42 [] mem nx=_
 rw [evF,getW]
 exact handW mem nx
theorem c_pairs_Both_1 {k:Nat} (hk:1≤k) {z:Mem} {e:Int} {b:Nat} {c:C} {ms:List Bool} (hb:At z b 0 [c]) (hv:CZ 1 (RE Value.bool) z c ms):FC (E k) 111 [Ai e,Ap b] z fun u _=>u=Ab (isB e ms):=by
 refine fc_of (tS_get111) (by omega) (len1 rfl) fun B j hj=>?_
 refine R4 64 O ?_
 refine fl_splitD 6 rfl (fun hg6=>?_) (fun hg6=>?_)
 ·refine lD rfl ?_
  refine lC rfl ?_
  refine lD rfl ?_
  refine fl_ldA1 rfl hb ?_
  refine lD rfl ?_
  refine fl_lenS rfl hv ?_
  refine R1 12 O ?_
  refine fl_splitD 12 rfl (fun hg12=>?_) (fun hg12=>?_)
  ·refine lD rfl ?_
   refine fl_ldA1 rfl hb ?_
   refine lD rfl ?_
   refine lC rfl ?_
   refine lD rfl ?_
   refine fl_iadE rfl rfl hv (e.toNat) (by omega) (by omega) fun p15 hp15=>?_
   refine lD rfl ?_
   refine fl_ldP rfl hp15 ?_
   refine R0 6 O ?_
   refine xT ?_
   exact rI O (cQ (isB_t (by omega) (by omega)).symm)
  refine R0 96 O ?_
  refine xT ?_
  exact rI O (cQ (isB_g (by omega)).symm)
 refine R0 6176 O ?_
 refine xT ?_
 exact rI O (cQ (isB_f (by omega)).symm)
theorem c_pairs_Both {k:Nat} (hk:2≤k) {z:Mem} {s1:List UInt8} {k1 p1 q1 i1 o1:Int} {n1 m1:Bool} {c1 d1:C} {cm:C} {ms:List Bool} (hv:CZ 1 (RE Value.bool) z cm ms):FC (E k) 48 [.agg [Cs (bs s1),Cu k1,Ci p1,Ci q1,Ci i1,Ci o1,Cb n1,c1,Cb m1,d1],.c cm] z fun u _=>u=Ab (isB p1 ms && isB q1 ms):=by
 refine fc_of (tS_get48) (by omega) (len1 rfl) fun B j hj=>?_
 refine xR ?_
 refine fl_bx rfl fun b2=>?_
 refine fl_box rfl rfl fun b3=>?_
 refine R2 4 O ?_
 refine fl_frzZ z (p:=[]) rfl rfl rfl (fun _ h=>h) fun zffb _ fb=>?_
 refine fl_mkf rfl rfl ?_
 refine R2 21 O ?_
 refine fl_ld1 rfl mem0 rfl ?_
 refine fl_callvZ zffb rfl (c_pairs_Both_1 (by omega) (at1 fb) hv.m) rfl rfl fun v10 z10 _ hv10=>?_
 subst hv10
 refine lM rfl ?_
 refine fl_splitB 11 rfl (fun hg11=>?_) (fun hg11=>?_)
 ·refine R1 5 O ?_
  refine lD rfl ?_
  refine fl_ld1 rfl mem0 rfl ?_
  refine lD rfl ?_
  refine fl_callvZ z10 rfl (c_pairs_Both_1 (by omega) (at1 (zI _ _ fb)) hv.m) rfl rfl fun v15 z15 _ hv15=>?_
  subst hv15
  refine R0 6 O ?_
  refine xT ?_
  refine rI O ?_
  rw [hg11];rfl
 refine R0 96 O ?_
 refine xT ?_
 refine rI O ?_
 rw [hg11];rfl
theorem c_ref20_Both {k:Nat} (hk:1≤k) {z:Mem} {s1:List UInt8} {k1 p1 q1 i1 o1:Int} {n1 m1:Bool} {c1 d1:C} {cm:C} {ms:List Bool} (hv:CZ 1 (RE Value.bool) z cm ms):FC (E k) 49 [.agg [Cs (bs s1),Cu k1,Ci p1,Ci q1,Ci i1,Ci o1,Cb n1,c1,Cb m1,d1],.c cm] z fun u _=>u=Ab (isB p1 ms && isB q1 ms):=by
 refine fc_of (tS_get49) (by omega) (len1 rfl) fun B j hj=>?_
 refine xR ?_
 refine fl_bx rfl fun b2=>?_
 refine R2 8 O ?_
 refine fl_ld1 rfl mem0 rfl ?_
 refine R1 4 O ?_
 refine fl_splitD 8 rfl (fun hg8=>?_) (fun hg8=>?_)
 ·refine lD rfl ?_
  refine lF rfl ?_
  refine lD rfl ?_
  refine fl_ld1 rfl mem0 rfl ?_
  refine lD rfl ?_
  refine lC rfl ?_
  refine lD rfl ?_
  refine fl_lenS rfl hv ?_
  refine R1 12 O ?_
  refine fl_splitD 15 rfl (fun hg15=>?_) (fun hg15=>?_)
  ·refine R1 4 O ?_
   refine lD rfl ?_
   refine fl_ld1 rfl mem0 rfl ?_
   refine lD rfl ?_
   refine fl_iadE rfl rfl hv (p1.toNat) (by omega) (by omega) fun p19 hp19=>?_
   refine lD rfl ?_
   refine fl_ldP rfl hp19 ?_
   refine R1 6 O ?_
   refine fl_splitB 22 rfl (fun hg22=>?_) (fun hg22=>?_)
   ·refine lD rfl ?_
    refine lF rfl ?_
    refine lD rfl ?_
    refine fl_ld1 rfl mem0 rfl ?_
    refine R1 12 O ?_
    refine fl_splitD 27 rfl (fun hg27=>?_) (fun hg27=>?_)
    ·refine lD rfl ?_
     refine lF rfl ?_
     refine lD rfl ?_
     refine fl_ld1 rfl mem0 rfl ?_
     refine lD rfl ?_
     refine lC rfl ?_
     refine lD rfl ?_
     refine fl_lenS rfl hv ?_
     refine R1 12 O ?_
     refine fl_splitD 34 rfl (fun hg34=>?_) (fun hg34=>?_)
     ·refine R1 4 O ?_
      refine lD rfl ?_
      refine fl_ld1 rfl mem0 rfl ?_
      refine lD rfl ?_
      refine fl_iadE rfl rfl hv (q1.toNat) (by omega) (by omega) fun p38 hp38=>?_
      refine lD rfl ?_
      refine fl_ldP rfl hp38 ?_
      refine R0 6 O ?_
      refine xT ?_
      refine rI O ?_
      first | exact cQ (both1 (.inl (isB_f (e:=p1) (l:=ms) (by omega)))) | exact cQ (both1 (.inl (isB_g (e:=p1) (l:=ms) (by omega)))) | exact cQ (both1 (.inl ((isB_t (e:=p1) (l:=ms) (by omega) (by omega)).trans (by assumption)))) | exact cQ (both2 ((isB_t (e:=p1) (l:=ms) (by omega) (by omega)).trans (by assumption)) (.inl (isB_f (e:=q1) (l:=ms) (by omega)))) | exact cQ (both2 ((isB_t (e:=p1) (l:=ms) (by omega) (by omega)).trans (by assumption)) (.inl (isB_g (e:=q1) (l:=ms) (by omega)))) | exact cQ (both3 ((isB_t (e:=p1) (l:=ms) (by omega) (by omega)).trans (by assumption)) (isB_t (e:=q1) (l:=ms) (by omega) (by omega)))
     refine R0 192 O ?_
     refine xT ?_
     refine rI O ?_
     first | exact cQ (both1 (.inl (isB_f (e:=p1) (l:=ms) (by omega)))) | exact cQ (both1 (.inl (isB_g (e:=p1) (l:=ms) (by omega)))) | exact cQ (both1 (.inl ((isB_t (e:=p1) (l:=ms) (by omega) (by omega)).trans (by assumption)))) | exact cQ (both2 ((isB_t (e:=p1) (l:=ms) (by omega) (by omega)).trans (by assumption)) (.inl (isB_f (e:=q1) (l:=ms) (by omega)))) | exact cQ (both2 ((isB_t (e:=p1) (l:=ms) (by omega) (by omega)).trans (by assumption)) (.inl (isB_g (e:=q1) (l:=ms) (by omega)))) | exact cQ (both3 ((isB_t (e:=p1) (l:=ms) (by omega) (by omega)).trans (by assumption)) (isB_t (e:=q1) (l:=ms) (by omega) (by omega)))
    refine R0 24640 O ?_
    refine xT ?_
    refine rI O ?_
    first | exact cQ (both1 (.inl (isB_f (e:=p1) (l:=ms) (by omega)))) | exact cQ (both1 (.inl (isB_g (e:=p1) (l:=ms) (by omega)))) | exact cQ (both1 (.inl ((isB_t (e:=p1) (l:=ms) (by omega) (by omega)).trans (by assumption)))) | exact cQ (both2 ((isB_t (e:=p1) (l:=ms) (by omega) (by omega)).trans (by assumption)) (.inl (isB_f (e:=q1) (l:=ms) (by omega)))) | exact cQ (both2 ((isB_t (e:=p1) (l:=ms) (by omega) (by omega)).trans (by assumption)) (.inl (isB_g (e:=q1) (l:=ms) (by omega)))) | exact cQ (both3 ((isB_t (e:=p1) (l:=ms) (by omega) (by omega)).trans (by assumption)) (isB_t (e:=q1) (l:=ms) (by omega) (by omega)))
   refine R0 788496 O ?_
   refine xT ?_
   refine rI O ?_
   first | exact cQ (both1 (.inl (isB_f (e:=p1) (l:=ms) (by omega)))) | exact cQ (both1 (.inl (isB_g (e:=p1) (l:=ms) (by omega)))) | exact cQ (both1 (.inl ((isB_t (e:=p1) (l:=ms) (by omega) (by omega)).trans (by assumption)))) | exact cQ (both2 ((isB_t (e:=p1) (l:=ms) (by omega) (by omega)).trans (by assumption)) (.inl (isB_f (e:=q1) (l:=ms) (by omega)))) | exact cQ (both2 ((isB_t (e:=p1) (l:=ms) (by omega) (by omega)).trans (by assumption)) (.inl (isB_g (e:=q1) (l:=ms) (by omega)))) | exact cQ (both3 ((isB_t (e:=p1) (l:=ms) (by omega) (by omega)).trans (by assumption)) (isB_t (e:=q1) (l:=ms) (by omega) (by omega)))
  refine R0 100927552 O ?_
  refine xT ?_
  refine rI O ?_
  first | exact cQ (both1 (.inl (isB_f (e:=p1) (l:=ms) (by omega)))) | exact cQ (both1 (.inl (isB_g (e:=p1) (l:=ms) (by omega)))) | exact cQ (both1 (.inl ((isB_t (e:=p1) (l:=ms) (by omega) (by omega)).trans (by assumption)))) | exact cQ (both2 ((isB_t (e:=p1) (l:=ms) (by omega) (by omega)).trans (by assumption)) (.inl (isB_f (e:=q1) (l:=ms) (by omega)))) | exact cQ (both2 ((isB_t (e:=p1) (l:=ms) (by omega) (by omega)).trans (by assumption)) (.inl (isB_g (e:=q1) (l:=ms) (by omega)))) | exact cQ (both3 ((isB_t (e:=p1) (l:=ms) (by omega) (by omega)).trans (by assumption)) (isB_t (e:=q1) (l:=ms) (by omega) (by omega)))
 refine R0 12918726720 O ?_
 refine xT ?_
 refine rI O ?_
 first | exact cQ (both1 (.inl (isB_f (e:=p1) (l:=ms) (by omega)))) | exact cQ (both1 (.inl (isB_g (e:=p1) (l:=ms) (by omega)))) | exact cQ (both1 (.inl ((isB_t (e:=p1) (l:=ms) (by omega) (by omega)).trans (by assumption)))) | exact cQ (both2 ((isB_t (e:=p1) (l:=ms) (by omega) (by omega)).trans (by assumption)) (.inl (isB_f (e:=q1) (l:=ms) (by omega)))) | exact cQ (both2 ((isB_t (e:=p1) (l:=ms) (by omega) (by omega)).trans (by assumption)) (.inl (isB_g (e:=q1) (l:=ms) (by omega)))) | exact cQ (both3 ((isB_t (e:=p1) (l:=ms) (by omega) (by omega)).trans (by assumption)) (isB_t (e:=q1) (l:=ms) (by omega) (by omega)))
theorem c_ref04_Same {k:Nat} (hk:12≤k) {z:Mem} {n1 n2:Bool} {c1 c2:C} {l1 l2:List UInt32} (hx:CZ 1 RW z c1 l1) (hy:CZ 1 RW z c2 l2) (h1:l1.length≤19000000) (h2:l2.length≤19000000) {n3 n4:Bool} {c3 c4:C} {l3 l4:List UInt32} (hu:CZ 1 RW z c3 l3) (hw:CZ 1 RW z c4 l4) (h3:l3.length≤19000000) (h4:l4.length≤19000000):FC (E k) 112 [.agg [Cb n1,c1,Cb n2,c2],.agg [Cb n3,c3,Cb n4,c4]] z fun v _=>v=Ab (decide ((valR ((n1,l1),(n2,l2)))=(valR ((n3,l3),(n4,l4))))):=by
 refine fc_of (tS_get112) (by omega) (len1 rfl) fun B j hj=>?_
 refine xR ?_
 refine fl_bx rfl fun b2=>?_
 refine fl_bx rfl fun b3=>?_
 refine R2 4 O ?_
 refine fl_ld4 rfl Y1 rfl ?_
 refine fl_ld4 rfl mem0 rfl ?_
 refine lE z (c_ref04_Cmp (by omega) hx hy h1 h2 hu hw h3 h4) O O fun z7 _=>?_
 refine R0 4 O ?_
 refine xT ?_
 exact rI O (cQ (decide_eq_decide.2 sub_sign))
theorem c_pairs_Same {k:Nat} (hk:11≤k) {z:Mem} {s1:List UInt8} {k1 p1 q1 i1 o1:Int} {n1 m1:Bool} {c1 d1:C} {s2:List UInt8} {k2 p2 q2 i2 o2:Int} {n2 m2:Bool} {c2 d2:C} {l1 r1:List UInt32} (hx1:CZ 1 RW z c1 l1) (hy1:CZ 1 RW z d1 r1) (hl1:l1.length≤9000000) (hr1:r1.length≤9000000) {l2 r2:List UInt32} (hx2:CZ 1 RW z c2 l2) (hy2:CZ 1 RW z d2 r2) (hl2:l2.length≤9000000) (hr2:r2.length≤9000000):FC (E k) 51 [.agg [Cs (bs s1),Cu k1,Ci p1,Ci q1,Ci i1,Ci o1,Cb n1,c1,Cb m1,d1],.agg [Cs (bs s2),Cu k2,Ci p2,Ci q2,Ci i2,Ci o2,Cb n2,c2,Cb m2,d2]] z fun u _=>u=Ab (sameP (s1,k1,p1,q1,i1,o1,(valR ((n1,l1),(m1,r1)))) (s2,k2,p2,q2,i2,o2,(valR ((n2,l2),(m2,r2))))):=by
 refine fc_of (tS_get51) (by omega) (len1 rfl) fun B j hj=>?_
 refine xR ?_
 refine fl_bx rfl fun b2=>?_
 refine fl_bx rfl fun b3=>?_
 refine R2 8 O ?_
 refine fl_ld1 rfl Y1 rfl ?_
 refine lF rfl ?_
 refine fl_ld1 rfl mem0 rfl ?_
 refine lB rfl rfl (bS_eql _ _) ?_
 refine lC rfl ?_
 refine fl_splitD 10 rfl (fun hg10=>?_) (fun hg10=>?_)
 ·refine lD rfl ?_
  refine lF rfl ?_
  refine lD rfl ?_
  refine fl_ld1 rfl Y1 rfl ?_
  refine lD rfl ?_
  refine lF rfl ?_
  refine lD rfl ?_
  refine fl_ld1 rfl mem0 rfl ?_
  refine R1 12 O ?_
  refine fl_splitD 17 rfl (fun hg17=>?_) (fun hg17=>?_)
  ·refine lD rfl ?_
   refine lF rfl ?_
   refine lD rfl ?_
   refine fl_ld1 rfl Y1 rfl ?_
   refine lD rfl ?_
   refine lF rfl ?_
   refine lD rfl ?_
   refine fl_ld1 rfl mem0 rfl ?_
   refine R1 12 O ?_
   refine fl_splitD 24 rfl (fun hg24=>?_) (fun hg24=>?_)
   ·refine lD rfl ?_
    refine lF rfl ?_
    refine lD rfl ?_
    refine fl_ld1 rfl Y1 rfl ?_
    refine lD rfl ?_
    refine lF rfl ?_
    refine lD rfl ?_
    refine fl_ld1 rfl mem0 rfl ?_
    refine R1 12 O ?_
    refine fl_splitD 31 rfl (fun hg31=>?_) (fun hg31=>?_)
    ·refine lD rfl ?_
     refine lF rfl ?_
     refine lD rfl ?_
     refine fl_ld1 rfl Y1 rfl ?_
     refine lD rfl ?_
     refine lF rfl ?_
     refine lD rfl ?_
     refine fl_ld1 rfl mem0 rfl ?_
     refine R1 12 O ?_
     refine fl_splitD 38 rfl (fun hg38=>?_) (fun hg38=>?_)
     ·refine lD rfl ?_
      refine lF rfl ?_
      refine lD rfl ?_
      refine fl_ld1 rfl Y1 rfl ?_
      refine lD rfl ?_
      refine lF rfl ?_
      refine lD rfl ?_
      refine fl_ld1 rfl mem0 rfl ?_
      refine R1 12 O ?_
      refine fl_splitD 45 rfl (fun hg45=>?_) (fun hg45=>?_)
      ·refine lD rfl ?_
       refine lF rfl ?_
       refine lD rfl ?_
       refine fl_ld4 rfl Y1 rfl ?_
       refine lD rfl ?_
       refine lF rfl ?_
       refine lD rfl ?_
       refine fl_ld4 rfl mem0 rfl ?_
       refine lD rfl ?_
       refine lE z (c_rat_Same (by omega) hx1 hy1 hl1 hr1 hx2 hy2 hl2 hr2) O O fun z50 _=>?_
       refine R0 6 O ?_
       refine xT ?_
       exact rI O (cQ (sameP_t hg10 hg17 hg24 hg31 hg38 hg45))
      refine R0 192 O ?_
      refine xT ?_
      exact rI O (cQ (sameP_f fun h=>hg45 h.2.2.2.2.2.1))
     refine R0 24640 O ?_
     refine xT ?_
     exact rI O (cQ (sameP_f fun h=>hg38 h.2.2.2.2.1))
    refine R0 3153984 O ?_
    refine xT ?_
    exact rI O (cQ (sameP_f fun h=>hg31 h.2.2.2.1))
   refine R0 403710016 O ?_
   refine xT ?_
   exact rI O (cQ (sameP_f fun h=>hg24 h.2.2.1))
  refine R0 51674882112 O ?_
  refine xT ?_
  exact rI O (cQ (sameP_f fun h=>hg17 h.2.1))
 refine R0 6614384910400 O ?_
 refine xT ?_
 exact rI O (cQ (sameP_f fun h=>hg10 h.1))
theorem c_ref20_Same {k:Nat} (hk:13≤k) {z:Mem} {s1:List UInt8} {k1 p1 q1 i1 o1:Int} {n1 m1:Bool} {c1 d1:C} {s2:List UInt8} {k2 p2 q2 i2 o2:Int} {n2 m2:Bool} {c2 d2:C} {l1 r1:List UInt32} (hx1:CZ 1 RW z c1 l1) (hy1:CZ 1 RW z d1 r1) (hl1:l1.length≤9000000) (hr1:r1.length≤9000000) {l2 r2:List UInt32} (hx2:CZ 1 RW z c2 l2) (hy2:CZ 1 RW z d2 r2) (hl2:l2.length≤9000000) (hr2:r2.length≤9000000):FC (E k) 52 [.agg [Cs (bs s1),Cu k1,Ci p1,Ci q1,Ci i1,Ci o1,Cb n1,c1,Cb m1,d1],.agg [Cs (bs s2),Cu k2,Ci p2,Ci q2,Ci i2,Ci o2,Cb n2,c2,Cb m2,d2]] z fun u _=>u=Ab (sameP (s1,k1,p1,q1,i1,o1,(valR ((n1,l1),(m1,r1)))) (s2,k2,p2,q2,i2,o2,(valR ((n2,l2),(m2,r2))))):=by
 refine fc_of (tS_get52) (by omega) (len1 rfl) fun B j hj=>?_
 refine xR ?_
 refine fl_bx rfl fun b2=>?_
 refine fl_bx rfl fun b3=>?_
 refine R2 8 O ?_
 refine fl_ld1 rfl Y1 rfl ?_
 refine lF rfl ?_
 refine fl_ld1 rfl mem0 rfl ?_
 refine lB rfl rfl (bS_eql _ _) ?_
 refine lC rfl ?_
 refine fl_splitD 10 rfl (fun hg10=>?_) (fun hg10=>?_)
 ·refine lD rfl ?_
  refine lF rfl ?_
  refine lD rfl ?_
  refine fl_ld1 rfl Y1 rfl ?_
  refine lD rfl ?_
  refine lF rfl ?_
  refine lD rfl ?_
  refine fl_ld1 rfl mem0 rfl ?_
  refine R1 12 O ?_
  refine fl_splitD 17 rfl (fun hg17=>?_) (fun hg17=>?_)
  ·refine lD rfl ?_
   refine lF rfl ?_
   refine lD rfl ?_
   refine fl_ld1 rfl Y1 rfl ?_
   refine lD rfl ?_
   refine lF rfl ?_
   refine lD rfl ?_
   refine fl_ld1 rfl mem0 rfl ?_
   refine R1 12 O ?_
   refine fl_splitD 24 rfl (fun hg24=>?_) (fun hg24=>?_)
   ·refine lD rfl ?_
    refine lF rfl ?_
    refine lD rfl ?_
    refine fl_ld1 rfl Y1 rfl ?_
    refine lD rfl ?_
    refine lF rfl ?_
    refine lD rfl ?_
    refine fl_ld1 rfl mem0 rfl ?_
    refine R1 12 O ?_
    refine fl_splitD 31 rfl (fun hg31=>?_) (fun hg31=>?_)
    ·refine lD rfl ?_
     refine lF rfl ?_
     refine lD rfl ?_
     refine fl_ld1 rfl Y1 rfl ?_
     refine lD rfl ?_
     refine lF rfl ?_
     refine lD rfl ?_
     refine fl_ld1 rfl mem0 rfl ?_
     refine R1 12 O ?_
     refine fl_splitD 38 rfl (fun hg38=>?_) (fun hg38=>?_)
     ·refine lD rfl ?_
      refine lF rfl ?_
      refine lD rfl ?_
      refine fl_ld1 rfl Y1 rfl ?_
      refine lD rfl ?_
      refine lF rfl ?_
      refine lD rfl ?_
      refine fl_ld1 rfl mem0 rfl ?_
      refine R1 12 O ?_
      refine fl_splitD 45 rfl (fun hg45=>?_) (fun hg45=>?_)
      ·refine lD rfl ?_
       refine lF rfl ?_
       refine lD rfl ?_
       refine fl_ld4 rfl Y1 rfl ?_
       refine lD rfl ?_
       refine lF rfl ?_
       refine lD rfl ?_
       refine fl_ld4 rfl mem0 rfl ?_
       refine lD rfl ?_
       refine lE z (c_ref04_Same (by omega) hx1 hy1 (Nat.le_trans hl1 (by decide)) (Nat.le_trans hr1 (by decide)) hx2 hy2 (Nat.le_trans hl2 (by decide)) (Nat.le_trans hr2 (by decide))) O O fun z50 _=>?_
       refine R0 6 O ?_
       refine xT ?_
       exact rI O (cQ (sameP_t hg10 hg17 hg24 hg31 hg38 hg45))
      refine R0 192 O ?_
      refine xT ?_
      exact rI O (cQ (sameP_f fun h=>hg45 h.2.2.2.2.2.1))
     refine R0 24640 O ?_
     refine xT ?_
     exact rI O (cQ (sameP_f fun h=>hg38 h.2.2.2.2.1))
    refine R0 3153984 O ?_
    refine xT ?_
    exact rI O (cQ (sameP_f fun h=>hg31 h.2.2.2.1))
   refine R0 403710016 O ?_
   refine xT ?_
   exact rI O (cQ (sameP_f fun h=>hg24 h.2.2.1))
  refine R0 51674882112 O ?_
  refine xT ?_
  exact rI O (cQ (sameP_f fun h=>hg17 h.2.1))
 refine R0 6614384910400 O ?_
 refine xT ?_
 exact rI O (cQ (sameP_f fun h=>hg10 h.1))
theorem c_law20_ref {k:Nat} (hk:3≤k) {z:Mem} {s1:List UInt8} {k1 p1 q1 i1 o1:Int} {n1 m1:Bool} {c1 d1:C} {l1 r1:List UInt32} (hx1:CZ 1 RW z c1 l1) (hy1:CZ 1 RW z d1 r1) (hl1:l1.length≤1000000000) (hr1:r1.length≤1000000000):FC (E k) 50 [.agg [Cs (bs s1),Cu k1,Ci p1,Ci q1,Ci i1,Ci o1,Cb n1,c1,Cb m1,d1]] z fun u z'=>∃ c d,u=.agg [Cs (bs s1),Cu k1,Ci p1,Ci q1,Ci i1,Ci o1,Cb n1,c,Cb m1,d]∧CZ 1 RW (zd z z') c l1∧CZ 1 RW (zd z z') d r1:=by
 refine fc_of (tS_get50) (by omega) (len1 rfl) fun B j hj=>?_
 refine xR ?_
 refine fl_bx rfl fun b1=>?_
 refine fl_alloc fun b2=>?_
 refine lN ?_
 refine fx_drwS ?_
 refine G1 2 O ?_
 refine gl1 O O (.inr Y1) O ?_
 refine G1 2 O ?_
 refine gl1 O O (.inr Y1) O ?_
 refine G1 2 O ?_
 refine gl1 O O (.inr Y1) O ?_
 refine G1 2 O ?_
 refine gl1 O O (.inr Y1) O ?_
 refine G1 2 O ?_
 refine gl1 O O (.inr Y1) O ?_
 refine G1 2 O ?_
 refine gl1 O O (.inr Y1) O ?_
 refine G1 2 O ?_
 refine gl4 O O (.inr Y1) O ?_
 refine gC z (c_fil_RefRat (by omega) hx1 hy1 hl1 hr1) O O O O fun v17 z17 _ hv17=>?_
 obtain ⟨c17,d17,hq,hm17,hn17⟩:=hv17
 subst hq
 refine gP rfl rfl trivial ?_
 refine fl_bd (cs:=[Cs (bs s1),Cu k1,Ci p1,Ci q1,Ci i1,Ci o1,Cb n1,c17,Cb m1,d17]) (by kernel_rfl) (lN ?_)
 refine gS O O O ?_
 refine fl_stAll rfl rfl rfl rfl rep0 ?_
 refine lN ?_
 refine fg_nil ?_
 refine xT ?_
 refine rQ (.inl rfl) (rcAll rfl mem0 rfl rn) ?_
 exact ⟨_,_,rfl,hm17,hn17⟩
theorem c_law20_PairsBoth {k:Nat} (hk:16≤k) {z:Mem} {s1:List UInt8} {k1 p1 q1 i1 o1:Int} {n1 m1:Bool} {c1 d1:C} {s2:List UInt8} {k2 p2 q2 i2 o2:Int} {n2 m2:Bool} {c2 d2:C} {l1 r1:List UInt32} (hx1:CZ 1 RW z c1 l1) (hy1:CZ 1 RW z d1 r1) {l2 r2:List UInt32} (hx2:CZ 1 RW z c2 l2) (hy2:CZ 1 RW z d2 r2) {cm:C} {ms:List Bool} (hv:CZ 1 (RE Value.bool) z cm ms):FC (E k) 8 [.agg [Cs (bs s1),Cu k1,Ci p1,Ci q1,Ci i1,Ci o1,Cb n1,c1,Cb m1,d1],.agg [Cs (bs s2),Cu k2,Ci p2,Ci q2,Ci i2,Ci o2,Cb n2,c2,Cb m2,d2],.c cm] z fun u _=>u=Ab true:=by
 refine fc_of (tS_get8) (by omega) (len1 rfl) fun B j hj=>?_
 refine xR ?_
 refine fl_bx rfl fun b3=>?_
 refine fl_bx rfl fun b4=>?_
 refine R2 16 O ?_
 refine fl_lenS rfl hv ?_
 refine R1 4 O ?_
 refine fl_splitD 10 rfl (fun hg10=>?_) (fun hg10=>?_)
 ·refine R2 140771982837792 O ?_
  refine lE z (works_fc (by omega)) O O fun z54 hz54=>?_
  refine R0 3 O ?_
  refine fx_rseq ?_
  refine rI O ?_
  first | rfl | exact eqF hg63 | exact eqF hg74 | exact eqF2 hg79
 refine lD rfl ?_
 refine lF rfl ?_
 refine lD rfl ?_
 refine fl_ld1 rfl Y1 rfl ?_
 refine lD rfl ?_
 refine fl_lenT rfl ?_
 refine R1 12 O ?_
 refine fl_splitD 16 rfl (fun hg16=>?_) (fun hg16=>?_)
 ·refine R2 2199562231840 O ?_
  refine lE z (works_fc (by omega)) O O fun z54 hz54=>?_
  refine R0 3 O ?_
  refine fx_rseq ?_
  refine rI O ?_
  first | rfl | exact eqF hg63 | exact eqF hg74 | exact eqF2 hg79
 refine lD rfl ?_
 refine lF rfl ?_
 refine lD rfl ?_
 refine fl_ld1 rfl mem0 rfl ?_
 refine lD rfl ?_
 refine fl_lenT rfl ?_
 refine R1 12 O ?_
 refine fl_splitD 22 rfl (fun hg22=>?_) (fun hg22=>?_)
 ·refine R2 34368159872 O ?_
  refine lE z (works_fc (by omega)) O O fun z54 hz54=>?_
  refine R0 3 O ?_
  refine fx_rseq ?_
  refine rI O ?_
  first | rfl | exact eqF hg63 | exact eqF hg74 | exact eqF2 hg79
 refine R1 8 O ?_
 refine lD rfl ?_
 refine fl_ld1 rfl Y1 rfl ?_
 refine lD rfl ?_
 refine fl_lenS rfl hx1 ?_
 refine R1 12 O ?_
 refine fl_splitD 30 rfl (fun hg30=>?_) (fun hg30=>?_)
 ·refine R2 134250624 O ?_
  refine lE z (works_fc (by omega)) O O fun z54 hz54=>?_
  refine R0 3 O ?_
  refine fx_rseq ?_
  refine rI O ?_
  first | rfl | exact eqF hg63 | exact eqF hg74 | exact eqF2 hg79
 refine R1 8 O ?_
 refine lD rfl ?_
 refine fl_ld1 rfl Y1 rfl ?_
 refine lD rfl ?_
 refine fl_lenS rfl hy1 ?_
 refine R1 12 O ?_
 refine fl_splitD 38 rfl (fun hg38=>?_) (fun hg38=>?_)
 ·refine R2 524416 O ?_
  refine lE z (works_fc (by omega)) O O fun z54 hz54=>?_
  refine R0 3 O ?_
  refine fx_rseq ?_
  refine rI O ?_
  first | rfl | exact eqF hg63 | exact eqF hg74 | exact eqF2 hg79
 refine R1 8 O ?_
 refine lD rfl ?_
 refine fl_ld1 rfl mem0 rfl ?_
 refine lD rfl ?_
 refine fl_lenS rfl hx2 ?_
 refine R1 12 O ?_
 refine fl_splitD 46 rfl (fun hg46=>?_) (fun hg46=>?_)
 ·refine R2 2048 O ?_
  refine lE z (works_fc (by omega)) O O fun z54 hz54=>?_
  refine R0 3 O ?_
  refine fx_rseq ?_
  refine rI O ?_
  first | rfl | exact eqF hg63 | exact eqF hg74 | exact eqF2 hg79
 refine R1 8 O ?_
 refine lD rfl ?_
 refine fl_ld1 rfl mem0 rfl ?_
 refine lD rfl ?_
 refine fl_lenS rfl hy2 ?_
 refine R3 8 O ?_
 refine xD rfl (fun hc53=>?_) (fun hc53=>?_)
 ·refine R4 4 O ?_
  refine lE z (works_fc (by omega)) O O fun z54 hz54=>?_
  refine R0 3 O ?_
  refine fx_rseq ?_
  refine rI O ?_
  first | rfl | exact eqF hg63 | exact eqF hg74 | exact eqF2 hg79
 refine fx_kseq ?_
 refine fx_drwS ?_
 refine fg_ldAll (i:=⟨_,_,.load _ _ _⟩) rfl rfl trivial rfl (.inr Y1) rfl sR ?_
 refine G1 2 O ?_
 have hb1:l1.length≤4:=by omega
 have ha1:r1.length≤4:=by omega
 have hb2:l2.length≤4:=by omega
 have ha2:r2.length≤4:=by omega
 refine gE z (c_pairs_Both (by omega) hv) O O O O fun z57 hz57=>?_
 refine fg_ldAll (i:=⟨_,_,.load _ _ _⟩) rfl rfl trivial rfl (.inr Y1) rfl sR ?_
 refine gC z57 (c_law20_ref (by omega) hx1.m hy1.m (Nat.le_trans hb1 (by decide)) (Nat.le_trans ha1 (by decide))) O O O O fun v59 z59 hz59 hv59=>?_
 obtain ⟨c59,d59,hq,hm59,hn59⟩:=hv59
 subst hq
 have hm59:=hm59.mono (zA (hz57))
 have hn59:=hn59.mono (zA (hz57))
 refine G1 2 O ?_
 refine gE z59 (c_ref20_Both (by omega) hv.m) O O O O fun z61 hz61=>?_
 refine gP rfl rfl trivial ?_
 refine fl_binB rfl rfl (eqlBB _ _) (lN ?_)
 refine G1 2 O ?_
 refine fg_splitB 63 rfl (fun hg63=>?_) (fun hg63=>?_)
 ·refine fg_ldAll (i:=⟨_,_,.load _ _ _⟩) rfl rfl rfl rfl (.inr Y1) rfl sR ?_
  refine fg_ldAll (i:=⟨_,_,.load _ _ _⟩) rfl rfl rfl rfl (.inr mem0) rfl sR ?_
  refine gE z61 (c_pairs_Same (by omega) hx1.m hy1.m (Nat.le_trans hb1 (by decide)) (Nat.le_trans ha1 (by decide)) hx2.m hy2.m (Nat.le_trans hb2 (by decide)) (Nat.le_trans ha2 (by decide))) O O O O fun z66 hz66=>?_
  refine fg_ldAll (i:=⟨_,_,.load _ _ _⟩) rfl rfl rfl rfl (.inr Y1) rfl sR ?_
  refine gC z66 (c_law20_ref (by omega) hx1.m hy1.m (Nat.le_trans hb1 (by decide)) (Nat.le_trans ha1 (by decide))) O O O O fun v68 z68 hz68 hv68=>?_
  obtain ⟨c68,d68,hq,hm68,hn68⟩:=hv68
  subst hq
  have hm68:=hm68.mono (zA (hz57.trans (hz59.trans (hz61.trans hz66))))
  have hn68:=hn68.mono (zA (hz57.trans (hz59.trans (hz61.trans hz66))))
  refine fg_ldAll (i:=⟨_,_,.load _ _ _⟩) rfl rfl rfl rfl (.inr mem0) rfl sR ?_
  refine gC z68 (c_law20_ref (by omega) hx2.m hy2.m (Nat.le_trans hb2 (by decide)) (Nat.le_trans ha2 (by decide))) O O O O fun v70 z70 _ hv70=>?_
  obtain ⟨c70,d70,hq,hm70,hn70⟩:=hv70
  subst hq
  have hm70:=hm70.mono (zA (hz57.trans (hz59.trans (hz61.trans (hz66.trans hz68)))))
  have hn70:=hn70.mono (zA (hz57.trans (hz59.trans (hz61.trans (hz66.trans hz68)))))
  refine gE z70 (c_ref20_Same (by omega) hm68.m hn68.m (Nat.le_trans hb1 (by decide)) (Nat.le_trans ha1 (by decide)) (hm70.mono zd_le) (hn70.mono zd_le) (Nat.le_trans hb2 (by decide)) (Nat.le_trans ha2 (by decide))) O O O O fun z71 _=>?_
  refine gP rfl rfl rfl ?_
  refine fl_binB rfl rfl (eqlBB _ _) (lN ?_)
  refine G1 6 O ?_
  refine fg_splitB 74 rfl (fun hg74=>?_) (fun hg74=>?_)
  ·refine fg_ldAll (i:=⟨_,_,.load _ _ _⟩) rfl rfl rfl rfl (.inr Y1) rfl sR ?_
   refine fg_ldAll (i:=⟨_,_,.load _ _ _⟩) rfl rfl rfl rfl (.inr Y1) rfl sR ?_
   refine gE z71 (c_pairs_Same (by omega) hx1.m hy1.m (Nat.le_trans hb1 (by decide)) (Nat.le_trans ha1 (by decide)) hx1.m hy1.m (Nat.le_trans hb1 (by decide)) (Nat.le_trans ha1 (by decide))) O O O O fun z77 _=>?_
   refine G1 6 O ?_
   refine fg_splitB 79 rfl (fun hg79=>?_) (fun hg79=>?_)
   ·refine gE z77 (works_fc (by omega)) O O O O fun z80 _=>?_
    refine G0 6 O ?_
    refine xT ?_
    refine rI O ?_
    first | rfl | exact eqF hg63 | exact eqF hg74 | exact eqF2 hg79
   refine G0 12 O ?_
   refine xT ?_
   refine rI O ?_
   first | rfl | exact eqF hg63 | exact eqF hg74 | exact eqF2 hg79
  refine G0 400 O ?_
  refine xT ?_
  refine rI O ?_
  first | rfl | exact eqF hg63 | exact eqF hg74 | exact eqF2 hg79
 refine G0 820224 O ?_
 refine xT ?_
 refine rI O ?_
 first | rfl | exact eqF hg63 | exact eqF hg74 | exact eqF2 hg79
end Go.Proofs.YtlceligcgelbdaaGreat
