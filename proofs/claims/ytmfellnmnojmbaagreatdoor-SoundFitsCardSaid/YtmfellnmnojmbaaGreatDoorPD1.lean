/- The law, walked. -/
import Derived.WalkKit
import Derived.Orders
import Init
import Derived.Test.YtmfellnmnojmbaaGreatDoorPK4
set_option linter.unusedVariables false
set_option maxRecDepth 100000
set_option maxHeartbeats 4000000
set_option linter.unusedSimpArgs false
set_option maxHeartbeats 1000000
namespace Go.Proofs.YtmfellnmnojmbaaGreatDoor
open Go.CE Go.RowKit
abbrev K0:Nat:=18446744073709551616
theorem all_c1 {P:Program} {f:Nat} {e:FE} {l:List (Nat×FE)} (h:FOk P f e) (g:∀ p,p∈l→FOk P p.1 p.2):∀ p,p∈(f,e)::l→FOk P p.1 p.2:=by
 intro p hp
 rcases List.mem_cons.1 hp with rfl | hp
 ·exact h
 ·exact g p hp
def ge3:Fc Tryz.prog Tryz.f3:=.m _
theorem oks3:FOk Tryz.prog 3 ge3.e:=ge3.ok Tryz.func3
def ge4:Fc Tryz.prog Tryz.f4:=.m _
theorem oks4:FOk Tryz.prog 4 ge4.e:=ge4.ok Tryz.func4
def ge5:Fc Tryz.prog Tryz.f5:=.m _
theorem oks5:FOk Tryz.prog 5 ge5.e:=ge5.ok Tryz.func5
def ge7:Fc Tryz.prog Tryz.f7:=.m _
theorem oks7:FOk Tryz.prog 7 ge7.e:=ge7.ok Tryz.func7
def ge10:Fc Tryz.prog Tryz.f10:=.m _
theorem oks10:FOk Tryz.prog 10 ge10.e:=ge10.ok Tryz.func10
def tS:List (Nat×FE):=[(3,ge3.e),(4,ge4.e),(5,ge5.e),(7,ge7.e),(10,ge10.e)]
theorem tS_ok:TblOk Tryz.prog (mkT tS):=mkT_ok (all_c1 oks3 (all_c1 oks4 (all_c1 oks5 (all_c1 oks7 (all_c1 oks10 (fun p hp=>absurd hp List.not_mem_nil))))))
theorem tS_get3:(mkT tS).get 3=some ge3.e:=by kernel_rfl
theorem tS_get4:(mkT tS).get 4=some ge4.e:=by kernel_rfl
theorem tS_get5:(mkT tS).get 5=some ge5.e:=by kernel_rfl
theorem tS_get7:(mkT tS).get 7=some ge7.e:=by kernel_rfl
theorem tS_get10:(mkT tS).get 10=some ge10.e:=by kernel_rfl
theorem hS_ok:CallSnd Tryz.prog (handL [e305] noHand):=handL_snd noHand_snd (all_m m305 (fun p hp=>absurd hp List.not_mem_nil))
abbrev E (k:Nat):Call':=evF (mkT tS) (handL [e305] noHand) K0 k
open Go.CE Go.RowKit
open Go.Eng (setL)
def eB (n:Int):Value:=.int .u8 n
instance:RMono (RE eB):=⟨⟨fun _ h=>h,fun h=>by rw [h];simp [sameL,sameC,eB,sameV_int]⟩⟩
theorem ne_step {l:List Int} {c x:Int} {i:Nat} (hp:∀ q,q<i→l[q]?≠some c) (hx:l[i]? = some x) (h:¬ c=x):∀ q,q<i+1→l[q]?≠some c:=fun q hq e=>by
 by_cases hqi:q=i
 ·subst hqi;rw [hx] at e;injection e with e;exact h e.symm
 ·exact hp q (by omega) e
theorem no_mem {l:List Int} {c:Int} {i:Nat} {P:Prop} (hp:∀ q,q<i→l[q]?≠some c) (hi:l.length≤i) (h:c∈l):P:=by
 obtain ⟨q,hq⟩:=List.mem_iff_getElem?.1 h
 exact absurd hq (hp q (by have:=(List.getElem?_eq_some_iff.1 hq).1;omega))
theorem get6:(mkT tS).get 6=none:=by kernel_rfl
theorem hand6 (mem:Tr Blk) (nx:Nat):handL [e305] noHand 6 [] mem nx=some (.c (.v (.bool true)),mem,nx):=rfl
theorem works_fc {k:Nat} (hk:1≤k) {z:Mem}:FC (E k) 6 [] z fun v _=>v=.c (.v (.bool true)):=fun mem nx hh=>by
 obtain ⟨j,rfl⟩:∃ j,k=j+1:=⟨k - 1,by omega⟩
 refine ⟨_,mem,nx,z,[],?_,Nat.le_refl _,fun _ _ _=>rfl,hh,zle.refl _,fun b k h=>.inl h,fun b h=>(by simp [fps] at h),rfl,rfl⟩
 show evF (mkT tS) (handL [e305] noHand) K0 (j+1) 6 [] mem nx=_
 rw [evF,get6]
 exact hand6 mem nx
theorem c_slices_Index___uint8_uint8_ {k:Nat} (hk:1≤k) {z:Mem} {v:AV} {l:List Int} {c:Int} (hx:SZ 1 (RE eB) z v l):FC (E k) 10 [v,.c (.v (.int .u8 c))] z fun u _=>∃ n:Int,u=.c (.v (.int .i64 n))∧(0≤n↔c∈l):=by
 have hxl:=hx.le
 refine fc_of (tS_get10) (by omega) (len1 rfl) fun B j hj=>?_
 refine fx_sr ?_
 refine fl_mvc rfl ?_
 refine fl_nil ?_
 refine fx_ss ?_
 refine fx_sr ?_
 refine fl_mv rfl ?_
 refine fl_lenS rfl hx ?_
 refine fl_mvc rfl ?_
 refine fl_nil ?_
 refine fx_seq (fx_block ?_)
 refine fx_loop (fun n fs=>∃ (i:Nat),LI z [] [(0,v),(1,.c (.v (.int .u8 c))),(7,.c (.v (.int .i64 ((l.length:Nat):Int)))),(8,.c (.v (.int .i64 ((i:Nat):Int))))] fs∧n=l.length - i∧(i≤l.length)∧(∀ q,q<i→l[q]?≠some c)) ?_ _ ⟨0,LI.mk [] (zle.refl _) (atc rfl (atc rfl (atc rfl (atc rfl atn)))),rfl,Nat.zero_le _,fun q hq=>absurd hq (Nat.not_lt_zero _)⟩ (by show _<18446744073709551616;omega)
 intro n fs hI
 obtain ⟨i,hL0,hmz0,hi,hp⟩:=hI
 refine hL0.open fun e zl0 hzl0=>?_
 refine fx_sr ?_
 refine fl_bin rfl rfl (b_lss _ _ _) ?_
 refine fl_nil ?_
 refine fx_cseq ?_
 refine fx_condD rfl (fun hc9=>?_) (fun hc9=>?_)
 ·refine fx_kseq ?_
  refine fx_seq (fx_block ?_)
  refine fx_sr ?_
  refine fl_mvc rfl ?_
  refine fl_mvc rfl ?_
  refine fl_nil ?_
  refine fx_sr ?_
  refine fl_mvc rfl ?_
  refine fl_mv rfl ?_
  refine fl_mvc rfl ?_
  refine fl_iadE rfl rfl (hx.mono (hzl0)) (i) (rfl) (by omega) fun p14 hp14=>?_
  refine fl_ldP rfl hp14 ?_
  refine fl_bin rfl rfl (b_eql _ _ _) ?_
  refine fl_nil ?_
  refine fx_condD rfl (fun hc16=>?_) (fun hc16=>?_)
  ·refine fx_sr ?_
   refine fl_mvc rfl ?_
   refine fl_mvc rfl ?_
   refine fl_nil ?_
   refine fx_ret ?_
   refine sq_r ?_
   refine lq_r ?_
   refine sq_r ?_
   refine ret_q (.inl rfl) (rt rfl rn) ?_
   exact ⟨_,rfl,⟨fun _=>by rw [hc16];exact List.getElem_mem _,fun _=>by omega⟩⟩
  ·refine fx_skip ?_
   refine sq_n ?_
   refine fx_region ?_
   refine fl_bin rfl rfl (bI_add (n:=i+1) (by omega) (by omega)) ?_
   refine fl_mvc rfl ?_
   refine fl_nil ?_
   exact lq_n (by omega) ⟨i+1,LI.mk [] (hzl0) (atc rfl (atc rfl (atc rfl (atc rfl atn)))),rfl,by omega,ne_step hp (List.getElem?_eq_getElem (by omega)) hc16⟩
 ·refine fx_eseq ?_
  refine lq_e ?_
  refine sq_n ?_
  refine fx_sr ?_
  refine fl_mvc rfl ?_
  refine fl_nil ?_
  refine fx_ret ?_
  refine ret_q (.inl rfl) (rt rfl rn) ?_
  exact ⟨_,rfl,⟨fun h=>absurd h (by decide),fun h=>no_mem hp (by omega) h⟩⟩
theorem c_slices_Contains___uint8_uint8_ {k:Nat} (hk:2≤k) {z:Mem} {v:AV} {l:List Int} {c:Int} (hx:SZ 1 (RE eB) z v l):FC (E k) 7 [v,.c (.v (.int .u8 c))] z fun u _=>u=.c (.v (.bool (decide (c∈l)))):=by
 refine fc_of (tS_get7) (by omega) (len1 rfl) fun B j hj=>?_
 refine fx_sr ?_
 refine fl_mvc rfl ?_
 refine fl_nil ?_
 refine fx_sr ?_
 refine fl_mv rfl ?_
 refine fl_mvc rfl ?_
 refine fl_callZ z (c_slices_Index___uint8_uint8_ (by omega) hx) rfl rfl fun v7 z7 hz7 ⟨n7,hv7,hn7⟩=>?_
 subst hv7
 refine fl_bin rfl rfl (b_geq _ _ _) ?_
 refine fl_mvc rfl ?_
 refine fl_nil ?_
 refine fx_ret ?_
 refine ret_q (.inl rfl) (rt rfl rn) ?_
 exact congrArg (fun b=>AV.c (.v (.bool b))) (by by_cases h:c∈l<;>simp_all)
open Go.CE Go.RowKit
open Go.Eng (setL)
def rowS (k:Int) (g:Bool):List Int:=if k=1∨k=2 then (if g=true then [1] else [2,4,5,6,7]) else if k=3 then (if g=true then [8] else [9]) else if k=4 then (if g=true then [10] else [11]) else []
theorem c_ref11_Fits {k:Nat} (hk:1≤k) {z:Mem} {k0 c:Int} {g:Bool}:FC (E k) 5 [.c (.v (.int .u8 k0)),.c (.v (.bool g)),.c (.v (.int .u8 c))] z fun u _=>u=.c (.v (.bool (decide (c∈rowS k0 g)))):=by
 refine fc_of (tS_get5) (by omega) (len1 rfl) fun B j hj=>?_
 refine fx_sr ?_
 refine fl_mvc rfl ?_
 refine fl_nil ?_
 refine fx_seq (fx_block ?_)
 refine fx_sr ?_
 refine fl_mvc rfl ?_
 refine fl_bin rfl rfl (b_eql _ _ _) ?_
 refine fl_mvc rfl ?_
 refine fl_splitD 10 rfl (fun hg10=>?_) (fun hg10=>?_)
 ·refine fl_gx rfl ?_
  refine fl_gx rfl ?_
  refine fl_pick rfl rfl ?_
  refine fl_mv rfl ?_
  refine fl_nil ?_
  refine fx_condT rfl ?_
  refine fx_sr ?_
  refine fl_mvc rfl ?_
  refine fl_mvc rfl ?_
  refine fl_splitB 15 rfl (fun hg15=>?_) (fun hg15=>?_)
  ·refine fl_gd rfl ?_
   refine fl_mvc rfl ?_
   refine fl_gd rfl ?_
   refine fl_bin rfl rfl (b_eql _ _ _) ?_
   refine fl_pick rfl rfl ?_
   refine fl_mv rfl ?_
   refine fl_splitD 19 rfl (fun hg19=>?_) (fun hg19=>?_)
   ·refine fl_gx rfl ?_
    refine fl_gx rfl ?_
    refine fl_gx rfl ?_
    refine fl_gt rfl ?_
    refine fl_gt rfl ?_
    refine fl_gt rfl ?_
    refine fl_gt rfl ?_
    refine fl_gt rfl ?_
    refine fl_gt rfl ?_
    refine fl_gt rfl ?_
    refine fl_gt rfl ?_
    refine fl_gt rfl ?_
    refine fl_gt rfl ?_
    refine fl_gt rfl ?_
    refine fl_gt rfl ?_
    refine fl_gt rfl ?_
    refine fl_gt rfl ?_
    refine fl_gt rfl ?_
    refine fl_gt rfl ?_
    refine fl_gt rfl ?_
    refine fl_gt rfl ?_
    refine fl_gx rfl ?_
    refine fl_pick rfl rfl ?_
    refine fl_mv rfl ?_
    refine fl_nil ?_
    refine fx_ret ?_
    refine sq_r ?_
    refine ret_q (.inl rfl) (rt rfl rn) ?_
    exact congrArg (fun b=>AV.c (.v (.bool b))) (by simp_all [rowS])
   ·refine fl_gd rfl ?_
    refine fl_mvc rfl ?_
    refine fl_gd rfl ?_
    refine fl_un rfl (u_not _) ?_
    refine fl_gd rfl ?_
    refine fl_mvc rfl ?_
    refine fl_splitB 22 rfl (fun hg22=>?_) (fun hg22=>?_)
    ·refine fl_gd rfl ?_
     refine fl_mvc rfl ?_
     refine fl_gd rfl ?_
     refine fl_bin rfl rfl (b_eql _ _ _) ?_
     refine fl_gd rfl ?_
     refine fl_mvc rfl ?_
     refine fl_splitD 25 rfl (fun hg25=>?_) (fun hg25=>?_)
     ·refine fl_gx rfl ?_
      refine fl_gx rfl ?_
      refine fl_gd rfl ?_
      refine fl_pick rfl rfl ?_
      refine fl_gd rfl ?_
      refine fl_mv rfl ?_
      refine fl_gx rfl ?_
      refine fl_gx rfl ?_
      refine fl_gd rfl ?_
      refine fl_pick rfl rfl ?_
      refine fl_gd rfl ?_
      refine fl_mv rfl ?_
      refine fl_gx rfl ?_
      refine fl_gx rfl ?_
      refine fl_gd rfl ?_
      refine fl_pick rfl rfl ?_
      refine fl_gd rfl ?_
      refine fl_mv rfl ?_
      refine fl_gx rfl ?_
      refine fl_gx rfl ?_
      refine fl_gd rfl ?_
      refine fl_pick rfl rfl ?_
      refine fl_gd rfl ?_
      refine fl_pick rfl rfl ?_
      refine fl_pick rfl rfl ?_
      refine fl_mv rfl ?_
      refine fl_nil ?_
      refine fx_ret ?_
      refine sq_r ?_
      refine ret_q (.inl rfl) (rt rfl rn) ?_
      exact congrArg (fun b=>AV.c (.v (.bool b))) (by simp_all [rowS])
     ·refine fl_gd rfl ?_
      refine fl_mvc rfl ?_
      refine fl_gd rfl ?_
      refine fl_bin rfl rfl (b_eql _ _ _) ?_
      refine fl_gd rfl ?_
      refine fl_pick rfl rfl ?_
      refine fl_gd rfl ?_
      refine fl_mv rfl ?_
      refine fl_splitD 29 rfl (fun hg29=>?_) (fun hg29=>?_)
      ·refine fl_gx rfl ?_
       refine fl_gx rfl ?_
       refine fl_gd rfl ?_
       refine fl_pick rfl rfl ?_
       refine fl_gd rfl ?_
       refine fl_mv rfl ?_
       refine fl_gx rfl ?_
       refine fl_gx rfl ?_
       refine fl_gd rfl ?_
       refine fl_pick rfl rfl ?_
       refine fl_gd rfl ?_
       refine fl_mv rfl ?_
       refine fl_gx rfl ?_
       refine fl_gx rfl ?_
       refine fl_gd rfl ?_
       refine fl_pick rfl rfl ?_
       refine fl_gd rfl ?_
       refine fl_pick rfl rfl ?_
       refine fl_pick rfl rfl ?_
       refine fl_mv rfl ?_
       refine fl_nil ?_
       refine fx_ret ?_
       refine sq_r ?_
       refine ret_q (.inl rfl) (rt rfl rn) ?_
       exact congrArg (fun b=>AV.c (.v (.bool b))) (by simp_all [rowS])
      ·refine fl_gd rfl ?_
       refine fl_mvc rfl ?_
       refine fl_gd rfl ?_
       refine fl_bin rfl rfl (b_eql _ _ _) ?_
       refine fl_gd rfl ?_
       refine fl_pick rfl rfl ?_
       refine fl_gd rfl ?_
       refine fl_mv rfl ?_
       refine fl_splitD 33 rfl (fun hg33=>?_) (fun hg33=>?_)
       ·refine fl_gx rfl ?_
        refine fl_gx rfl ?_
        refine fl_gd rfl ?_
        refine fl_pick rfl rfl ?_
        refine fl_gd rfl ?_
        refine fl_mv rfl ?_
        refine fl_gx rfl ?_
        refine fl_gx rfl ?_
        refine fl_gd rfl ?_
        refine fl_pick rfl rfl ?_
        refine fl_gd rfl ?_
        refine fl_pick rfl rfl ?_
        refine fl_pick rfl rfl ?_
        refine fl_mv rfl ?_
        refine fl_nil ?_
        refine fx_ret ?_
        refine sq_r ?_
        refine ret_q (.inl rfl) (rt rfl rn) ?_
        exact congrArg (fun b=>AV.c (.v (.bool b))) (by simp_all [rowS])
       ·refine fl_gd rfl ?_
        refine fl_mvc rfl ?_
        refine fl_gd rfl ?_
        refine fl_bin rfl rfl (b_eql _ _ _) ?_
        refine fl_gd rfl ?_
        refine fl_pick rfl rfl ?_
        refine fl_gd rfl ?_
        refine fl_mv rfl ?_
        refine fl_splitD 37 rfl (fun hg37=>?_) (fun hg37=>?_)
        ·refine fl_gx rfl ?_
         refine fl_gx rfl ?_
         refine fl_gd rfl ?_
         refine fl_pick rfl rfl ?_
         refine fl_gd rfl ?_
         refine fl_pick rfl rfl ?_
         refine fl_pick rfl rfl ?_
         refine fl_mv rfl ?_
         refine fl_nil ?_
         refine fx_ret ?_
         refine sq_r ?_
         refine ret_q (.inl rfl) (rt rfl rn) ?_
         exact congrArg (fun b=>AV.c (.v (.bool b))) (by simp_all [rowS])
        ·refine fl_gd rfl ?_
         refine fl_mvc rfl ?_
         refine fl_gd rfl ?_
         refine fl_bin rfl rfl (b_eql _ _ _) ?_
         refine fl_gd rfl ?_
         refine fl_pick rfl rfl ?_
         refine fl_gd rfl ?_
         refine fl_pick rfl rfl ?_
         refine fl_pick rfl rfl ?_
         refine fl_mv rfl ?_
         refine fl_nil ?_
         refine fx_ret ?_
         refine sq_r ?_
         refine ret_q (.inl rfl) (rt rfl rn) ?_
         exact congrArg (fun b=>AV.c (.v (.bool b))) (by simp_all [rowS])
    ·refine fl_gx rfl ?_
     refine fl_gx rfl ?_
     refine fl_gx rfl ?_
     refine fl_gt rfl ?_
     refine fl_gt rfl ?_
     refine fl_gx rfl ?_
     refine fl_gx rfl ?_
     refine fl_gt rfl ?_
     refine fl_gt rfl ?_
     refine fl_gx rfl ?_
     refine fl_gx rfl ?_
     refine fl_gt rfl ?_
     refine fl_gt rfl ?_
     refine fl_gx rfl ?_
     refine fl_gx rfl ?_
     refine fl_gt rfl ?_
     refine fl_gt rfl ?_
     refine fl_gx rfl ?_
     refine fl_gd rfl ?_
     refine fl_pick rfl rfl ?_
     refine fl_pick rfl rfl ?_
     refine fl_mv rfl ?_
     refine fl_nil ?_
     refine fx_ret ?_
     refine sq_r ?_
     refine ret_q (.inl rfl) (rt rfl rn) ?_
     exact congrArg (fun b=>AV.c (.v (.bool b))) (by simp_all [rowS])
  ·refine fl_gx rfl ?_
   refine fl_gx rfl ?_
   refine fl_pick rfl rfl ?_
   refine fl_mv rfl ?_
   refine fl_gd rfl ?_
   refine fl_mvc rfl ?_
   refine fl_gd rfl ?_
   refine fl_un rfl (u_not _) ?_
   refine fl_gd rfl ?_
   refine fl_mvc rfl ?_
   refine fl_splitB 22 rfl (fun hg22=>?_) (fun hg22=>?_)
   ·refine fl_gd rfl ?_
    refine fl_mvc rfl ?_
    refine fl_gd rfl ?_
    refine fl_bin rfl rfl (b_eql _ _ _) ?_
    refine fl_gd rfl ?_
    refine fl_mvc rfl ?_
    refine fl_splitD 25 rfl (fun hg25=>?_) (fun hg25=>?_)
    ·refine fl_gx rfl ?_
     refine fl_gx rfl ?_
     refine fl_gd rfl ?_
     refine fl_pick rfl rfl ?_
     refine fl_gd rfl ?_
     refine fl_mv rfl ?_
     refine fl_gx rfl ?_
     refine fl_gx rfl ?_
     refine fl_gd rfl ?_
     refine fl_pick rfl rfl ?_
     refine fl_gd rfl ?_
     refine fl_mv rfl ?_
     refine fl_gx rfl ?_
     refine fl_gx rfl ?_
     refine fl_gd rfl ?_
     refine fl_pick rfl rfl ?_
     refine fl_gd rfl ?_
     refine fl_mv rfl ?_
     refine fl_gx rfl ?_
     refine fl_gx rfl ?_
     refine fl_gd rfl ?_
     refine fl_pick rfl rfl ?_
     refine fl_gd rfl ?_
     refine fl_pick rfl rfl ?_
     refine fl_pick rfl rfl ?_
     refine fl_mv rfl ?_
     refine fl_nil ?_
     refine fx_ret ?_
     refine sq_r ?_
     refine ret_q (.inl rfl) (rt rfl rn) ?_
     exact congrArg (fun b=>AV.c (.v (.bool b))) (by simp_all [rowS])
    ·refine fl_gd rfl ?_
     refine fl_mvc rfl ?_
     refine fl_gd rfl ?_
     refine fl_bin rfl rfl (b_eql _ _ _) ?_
     refine fl_gd rfl ?_
     refine fl_pick rfl rfl ?_
     refine fl_gd rfl ?_
     refine fl_mv rfl ?_
     refine fl_splitD 29 rfl (fun hg29=>?_) (fun hg29=>?_)
     ·refine fl_gx rfl ?_
      refine fl_gx rfl ?_
      refine fl_gd rfl ?_
      refine fl_pick rfl rfl ?_
      refine fl_gd rfl ?_
      refine fl_mv rfl ?_
      refine fl_gx rfl ?_
      refine fl_gx rfl ?_
      refine fl_gd rfl ?_
      refine fl_pick rfl rfl ?_
      refine fl_gd rfl ?_
      refine fl_mv rfl ?_
      refine fl_gx rfl ?_
      refine fl_gx rfl ?_
      refine fl_gd rfl ?_
      refine fl_pick rfl rfl ?_
      refine fl_gd rfl ?_
      refine fl_pick rfl rfl ?_
      refine fl_pick rfl rfl ?_
      refine fl_mv rfl ?_
      refine fl_nil ?_
      refine fx_ret ?_
      refine sq_r ?_
      refine ret_q (.inl rfl) (rt rfl rn) ?_
      exact congrArg (fun b=>AV.c (.v (.bool b))) (by simp_all [rowS])
     ·refine fl_gd rfl ?_
      refine fl_mvc rfl ?_
      refine fl_gd rfl ?_
      refine fl_bin rfl rfl (b_eql _ _ _) ?_
      refine fl_gd rfl ?_
      refine fl_pick rfl rfl ?_
      refine fl_gd rfl ?_
      refine fl_mv rfl ?_
      refine fl_splitD 33 rfl (fun hg33=>?_) (fun hg33=>?_)
      ·refine fl_gx rfl ?_
       refine fl_gx rfl ?_
       refine fl_gd rfl ?_
       refine fl_pick rfl rfl ?_
       refine fl_gd rfl ?_
       refine fl_mv rfl ?_
       refine fl_gx rfl ?_
       refine fl_gx rfl ?_
       refine fl_gd rfl ?_
       refine fl_pick rfl rfl ?_
       refine fl_gd rfl ?_
       refine fl_pick rfl rfl ?_
       refine fl_pick rfl rfl ?_
       refine fl_mv rfl ?_
       refine fl_nil ?_
       refine fx_ret ?_
       refine sq_r ?_
       refine ret_q (.inl rfl) (rt rfl rn) ?_
       exact congrArg (fun b=>AV.c (.v (.bool b))) (by simp_all [rowS])
      ·refine fl_gd rfl ?_
       refine fl_mvc rfl ?_
       refine fl_gd rfl ?_
       refine fl_bin rfl rfl (b_eql _ _ _) ?_
       refine fl_gd rfl ?_
       refine fl_pick rfl rfl ?_
       refine fl_gd rfl ?_
       refine fl_mv rfl ?_
       refine fl_splitD 37 rfl (fun hg37=>?_) (fun hg37=>?_)
       ·refine fl_gx rfl ?_
        refine fl_gx rfl ?_
        refine fl_gd rfl ?_
        refine fl_pick rfl rfl ?_
        refine fl_gd rfl ?_
        refine fl_pick rfl rfl ?_
        refine fl_pick rfl rfl ?_
        refine fl_mv rfl ?_
        refine fl_nil ?_
        refine fx_ret ?_
        refine sq_r ?_
        refine ret_q (.inl rfl) (rt rfl rn) ?_
        exact congrArg (fun b=>AV.c (.v (.bool b))) (by simp_all [rowS])
       ·refine fl_gd rfl ?_
        refine fl_mvc rfl ?_
        refine fl_gd rfl ?_
        refine fl_bin rfl rfl (b_eql _ _ _) ?_
        refine fl_gd rfl ?_
        refine fl_pick rfl rfl ?_
        refine fl_gd rfl ?_
        refine fl_pick rfl rfl ?_
        refine fl_pick rfl rfl ?_
        refine fl_mv rfl ?_
        refine fl_nil ?_
        refine fx_ret ?_
        refine sq_r ?_
        refine ret_q (.inl rfl) (rt rfl rn) ?_
        exact congrArg (fun b=>AV.c (.v (.bool b))) (by simp_all [rowS])
   ·refine fl_gx rfl ?_
    refine fl_gx rfl ?_
    refine fl_gx rfl ?_
    refine fl_gt rfl ?_
    refine fl_gt rfl ?_
    refine fl_gx rfl ?_
    refine fl_gx rfl ?_
    refine fl_gt rfl ?_
    refine fl_gt rfl ?_
    refine fl_gx rfl ?_
    refine fl_gx rfl ?_
    refine fl_gt rfl ?_
    refine fl_gt rfl ?_
    refine fl_gx rfl ?_
    refine fl_gx rfl ?_
    refine fl_gt rfl ?_
    refine fl_gt rfl ?_
    refine fl_gx rfl ?_
    refine fl_gd rfl ?_
    refine fl_pick rfl rfl ?_
    refine fl_pick rfl rfl ?_
    refine fl_mv rfl ?_
    refine fl_nil ?_
    refine fx_ret ?_
    refine sq_r ?_
    refine ret_q (.inl rfl) (rt rfl rn) ?_
    exact congrArg (fun b=>AV.c (.v (.bool b))) (by simp_all [rowS])
 ·refine fl_gd rfl ?_
  refine fl_mvc rfl ?_
  refine fl_gd rfl ?_
  refine fl_bin rfl rfl (b_eql _ _ _) ?_
  refine fl_pick rfl rfl ?_
  refine fl_mv rfl ?_
  refine fl_nil ?_
  refine fx_condD rfl (fun hc7=>?_) (fun hc7=>?_)
  ·refine fx_sr ?_
   refine fl_mvc rfl ?_
   refine fl_mvc rfl ?_
   refine fl_splitB 15 rfl (fun hg15=>?_) (fun hg15=>?_)
   ·refine fl_gd rfl ?_
    refine fl_mvc rfl ?_
    refine fl_gd rfl ?_
    refine fl_bin rfl rfl (b_eql _ _ _) ?_
    refine fl_pick rfl rfl ?_
    refine fl_mv rfl ?_
    refine fl_splitD 19 rfl (fun hg19=>?_) (fun hg19=>?_)
    ·refine fl_gx rfl ?_
     refine fl_gx rfl ?_
     refine fl_gx rfl ?_
     refine fl_gt rfl ?_
     refine fl_gt rfl ?_
     refine fl_gt rfl ?_
     refine fl_gt rfl ?_
     refine fl_gt rfl ?_
     refine fl_gt rfl ?_
     refine fl_gt rfl ?_
     refine fl_gt rfl ?_
     refine fl_gt rfl ?_
     refine fl_gt rfl ?_
     refine fl_gt rfl ?_
     refine fl_gt rfl ?_
     refine fl_gt rfl ?_
     refine fl_gt rfl ?_
     refine fl_gt rfl ?_
     refine fl_gt rfl ?_
     refine fl_gt rfl ?_
     refine fl_gt rfl ?_
     refine fl_gx rfl ?_
     refine fl_pick rfl rfl ?_
     refine fl_mv rfl ?_
     refine fl_nil ?_
     refine fx_ret ?_
     refine sq_r ?_
     refine ret_q (.inl rfl) (rt rfl rn) ?_
     exact congrArg (fun b=>AV.c (.v (.bool b))) (by simp_all [rowS])
    ·refine fl_gd rfl ?_
     refine fl_mvc rfl ?_
     refine fl_gd rfl ?_
     refine fl_un rfl (u_not _) ?_
     refine fl_gd rfl ?_
     refine fl_mvc rfl ?_
     refine fl_splitB 22 rfl (fun hg22=>?_) (fun hg22=>?_)
     ·refine fl_gd rfl ?_
      refine fl_mvc rfl ?_
      refine fl_gd rfl ?_
      refine fl_bin rfl rfl (b_eql _ _ _) ?_
      refine fl_gd rfl ?_
      refine fl_mvc rfl ?_
      refine fl_splitD 25 rfl (fun hg25=>?_) (fun hg25=>?_)
      ·refine fl_gx rfl ?_
       refine fl_gx rfl ?_
       refine fl_gd rfl ?_
       refine fl_pick rfl rfl ?_
       refine fl_gd rfl ?_
       refine fl_mv rfl ?_
       refine fl_gx rfl ?_
       refine fl_gx rfl ?_
       refine fl_gd rfl ?_
       refine fl_pick rfl rfl ?_
       refine fl_gd rfl ?_
       refine fl_mv rfl ?_
       refine fl_gx rfl ?_
       refine fl_gx rfl ?_
       refine fl_gd rfl ?_
       refine fl_pick rfl rfl ?_
       refine fl_gd rfl ?_
       refine fl_mv rfl ?_
       refine fl_gx rfl ?_
       refine fl_gx rfl ?_
       refine fl_gd rfl ?_
       refine fl_pick rfl rfl ?_
       refine fl_gd rfl ?_
       refine fl_pick rfl rfl ?_
       refine fl_pick rfl rfl ?_
       refine fl_mv rfl ?_
       refine fl_nil ?_
       refine fx_ret ?_
       refine sq_r ?_
       refine ret_q (.inl rfl) (rt rfl rn) ?_
       exact congrArg (fun b=>AV.c (.v (.bool b))) (by simp_all [rowS])
      ·refine fl_gd rfl ?_
       refine fl_mvc rfl ?_
       refine fl_gd rfl ?_
       refine fl_bin rfl rfl (b_eql _ _ _) ?_
       refine fl_gd rfl ?_
       refine fl_pick rfl rfl ?_
       refine fl_gd rfl ?_
       refine fl_mv rfl ?_
       refine fl_splitD 29 rfl (fun hg29=>?_) (fun hg29=>?_)
       ·refine fl_gx rfl ?_
        refine fl_gx rfl ?_
        refine fl_gd rfl ?_
        refine fl_pick rfl rfl ?_
        refine fl_gd rfl ?_
        refine fl_mv rfl ?_
        refine fl_gx rfl ?_
        refine fl_gx rfl ?_
        refine fl_gd rfl ?_
        refine fl_pick rfl rfl ?_
        refine fl_gd rfl ?_
        refine fl_mv rfl ?_
        refine fl_gx rfl ?_
        refine fl_gx rfl ?_
        refine fl_gd rfl ?_
        refine fl_pick rfl rfl ?_
        refine fl_gd rfl ?_
        refine fl_pick rfl rfl ?_
        refine fl_pick rfl rfl ?_
        refine fl_mv rfl ?_
        refine fl_nil ?_
        refine fx_ret ?_
        refine sq_r ?_
        refine ret_q (.inl rfl) (rt rfl rn) ?_
        exact congrArg (fun b=>AV.c (.v (.bool b))) (by simp_all [rowS])
       ·refine fl_gd rfl ?_
        refine fl_mvc rfl ?_
        refine fl_gd rfl ?_
        refine fl_bin rfl rfl (b_eql _ _ _) ?_
        refine fl_gd rfl ?_
        refine fl_pick rfl rfl ?_
        refine fl_gd rfl ?_
        refine fl_mv rfl ?_
        refine fl_splitD 33 rfl (fun hg33=>?_) (fun hg33=>?_)
        ·refine fl_gx rfl ?_
         refine fl_gx rfl ?_
         refine fl_gd rfl ?_
         refine fl_pick rfl rfl ?_
         refine fl_gd rfl ?_
         refine fl_mv rfl ?_
         refine fl_gx rfl ?_
         refine fl_gx rfl ?_
         refine fl_gd rfl ?_
         refine fl_pick rfl rfl ?_
         refine fl_gd rfl ?_
         refine fl_pick rfl rfl ?_
         refine fl_pick rfl rfl ?_
         refine fl_mv rfl ?_
         refine fl_nil ?_
         refine fx_ret ?_
         refine sq_r ?_
         refine ret_q (.inl rfl) (rt rfl rn) ?_
         exact congrArg (fun b=>AV.c (.v (.bool b))) (by simp_all [rowS])
        ·refine fl_gd rfl ?_
         refine fl_mvc rfl ?_
         refine fl_gd rfl ?_
         refine fl_bin rfl rfl (b_eql _ _ _) ?_
         refine fl_gd rfl ?_
         refine fl_pick rfl rfl ?_
         refine fl_gd rfl ?_
         refine fl_mv rfl ?_
         refine fl_splitD 37 rfl (fun hg37=>?_) (fun hg37=>?_)
         ·refine fl_gx rfl ?_
          refine fl_gx rfl ?_
          refine fl_gd rfl ?_
          refine fl_pick rfl rfl ?_
          refine fl_gd rfl ?_
          refine fl_pick rfl rfl ?_
          refine fl_pick rfl rfl ?_
          refine fl_mv rfl ?_
          refine fl_nil ?_
          refine fx_ret ?_
          refine sq_r ?_
          refine ret_q (.inl rfl) (rt rfl rn) ?_
          exact congrArg (fun b=>AV.c (.v (.bool b))) (by simp_all [rowS])
         ·refine fl_gd rfl ?_
          refine fl_mvc rfl ?_
          refine fl_gd rfl ?_
          refine fl_bin rfl rfl (b_eql _ _ _) ?_
          refine fl_gd rfl ?_
          refine fl_pick rfl rfl ?_
          refine fl_gd rfl ?_
          refine fl_pick rfl rfl ?_
          refine fl_pick rfl rfl ?_
          refine fl_mv rfl ?_
          refine fl_nil ?_
          refine fx_ret ?_
          refine sq_r ?_
          refine ret_q (.inl rfl) (rt rfl rn) ?_
          exact congrArg (fun b=>AV.c (.v (.bool b))) (by simp_all [rowS])
     ·refine fl_gx rfl ?_
      refine fl_gx rfl ?_
      refine fl_gx rfl ?_
      refine fl_gt rfl ?_
      refine fl_gt rfl ?_
      refine fl_gx rfl ?_
      refine fl_gx rfl ?_
      refine fl_gt rfl ?_
      refine fl_gt rfl ?_
      refine fl_gx rfl ?_
      refine fl_gx rfl ?_
      refine fl_gt rfl ?_
      refine fl_gt rfl ?_
      refine fl_gx rfl ?_
      refine fl_gx rfl ?_
      refine fl_gt rfl ?_
      refine fl_gt rfl ?_
      refine fl_gx rfl ?_
      refine fl_gd rfl ?_
      refine fl_pick rfl rfl ?_
      refine fl_pick rfl rfl ?_
      refine fl_mv rfl ?_
      refine fl_nil ?_
      refine fx_ret ?_
      refine sq_r ?_
      refine ret_q (.inl rfl) (rt rfl rn) ?_
      exact congrArg (fun b=>AV.c (.v (.bool b))) (by simp_all [rowS])
   ·refine fl_gx rfl ?_
    refine fl_gx rfl ?_
    refine fl_pick rfl rfl ?_
    refine fl_mv rfl ?_
    refine fl_gd rfl ?_
    refine fl_mvc rfl ?_
    refine fl_gd rfl ?_
    refine fl_un rfl (u_not _) ?_
    refine fl_gd rfl ?_
    refine fl_mvc rfl ?_
    refine fl_splitB 22 rfl (fun hg22=>?_) (fun hg22=>?_)
    ·refine fl_gd rfl ?_
     refine fl_mvc rfl ?_
     refine fl_gd rfl ?_
     refine fl_bin rfl rfl (b_eql _ _ _) ?_
     refine fl_gd rfl ?_
     refine fl_mvc rfl ?_
     refine fl_splitD 25 rfl (fun hg25=>?_) (fun hg25=>?_)
     ·refine fl_gx rfl ?_
      refine fl_gx rfl ?_
      refine fl_gd rfl ?_
      refine fl_pick rfl rfl ?_
      refine fl_gd rfl ?_
      refine fl_mv rfl ?_
      refine fl_gx rfl ?_
      refine fl_gx rfl ?_
      refine fl_gd rfl ?_
      refine fl_pick rfl rfl ?_
      refine fl_gd rfl ?_
      refine fl_mv rfl ?_
      refine fl_gx rfl ?_
      refine fl_gx rfl ?_
      refine fl_gd rfl ?_
      refine fl_pick rfl rfl ?_
      refine fl_gd rfl ?_
      refine fl_mv rfl ?_
      refine fl_gx rfl ?_
      refine fl_gx rfl ?_
      refine fl_gd rfl ?_
      refine fl_pick rfl rfl ?_
      refine fl_gd rfl ?_
      refine fl_pick rfl rfl ?_
      refine fl_pick rfl rfl ?_
      refine fl_mv rfl ?_
      refine fl_nil ?_
      refine fx_ret ?_
      refine sq_r ?_
      refine ret_q (.inl rfl) (rt rfl rn) ?_
      exact congrArg (fun b=>AV.c (.v (.bool b))) (by simp_all [rowS])
     ·refine fl_gd rfl ?_
      refine fl_mvc rfl ?_
      refine fl_gd rfl ?_
      refine fl_bin rfl rfl (b_eql _ _ _) ?_
      refine fl_gd rfl ?_
      refine fl_pick rfl rfl ?_
      refine fl_gd rfl ?_
      refine fl_mv rfl ?_
      refine fl_splitD 29 rfl (fun hg29=>?_) (fun hg29=>?_)
      ·refine fl_gx rfl ?_
       refine fl_gx rfl ?_
       refine fl_gd rfl ?_
       refine fl_pick rfl rfl ?_
       refine fl_gd rfl ?_
       refine fl_mv rfl ?_
       refine fl_gx rfl ?_
       refine fl_gx rfl ?_
       refine fl_gd rfl ?_
       refine fl_pick rfl rfl ?_
       refine fl_gd rfl ?_
       refine fl_mv rfl ?_
       refine fl_gx rfl ?_
       refine fl_gx rfl ?_
       refine fl_gd rfl ?_
       refine fl_pick rfl rfl ?_
       refine fl_gd rfl ?_
       refine fl_pick rfl rfl ?_
       refine fl_pick rfl rfl ?_
       refine fl_mv rfl ?_
       refine fl_nil ?_
       refine fx_ret ?_
       refine sq_r ?_
       refine ret_q (.inl rfl) (rt rfl rn) ?_
       exact congrArg (fun b=>AV.c (.v (.bool b))) (by simp_all [rowS])
      ·refine fl_gd rfl ?_
       refine fl_mvc rfl ?_
       refine fl_gd rfl ?_
       refine fl_bin rfl rfl (b_eql _ _ _) ?_
       refine fl_gd rfl ?_
       refine fl_pick rfl rfl ?_
       refine fl_gd rfl ?_
       refine fl_mv rfl ?_
       refine fl_splitD 33 rfl (fun hg33=>?_) (fun hg33=>?_)
       ·refine fl_gx rfl ?_
        refine fl_gx rfl ?_
        refine fl_gd rfl ?_
        refine fl_pick rfl rfl ?_
        refine fl_gd rfl ?_
        refine fl_mv rfl ?_
        refine fl_gx rfl ?_
        refine fl_gx rfl ?_
        refine fl_gd rfl ?_
        refine fl_pick rfl rfl ?_
        refine fl_gd rfl ?_
        refine fl_pick rfl rfl ?_
        refine fl_pick rfl rfl ?_
        refine fl_mv rfl ?_
        refine fl_nil ?_
        refine fx_ret ?_
        refine sq_r ?_
        refine ret_q (.inl rfl) (rt rfl rn) ?_
        exact congrArg (fun b=>AV.c (.v (.bool b))) (by simp_all [rowS])
       ·refine fl_gd rfl ?_
        refine fl_mvc rfl ?_
        refine fl_gd rfl ?_
        refine fl_bin rfl rfl (b_eql _ _ _) ?_
        refine fl_gd rfl ?_
        refine fl_pick rfl rfl ?_
        refine fl_gd rfl ?_
        refine fl_mv rfl ?_
        refine fl_splitD 37 rfl (fun hg37=>?_) (fun hg37=>?_)
        ·refine fl_gx rfl ?_
         refine fl_gx rfl ?_
         refine fl_gd rfl ?_
         refine fl_pick rfl rfl ?_
         refine fl_gd rfl ?_
         refine fl_pick rfl rfl ?_
         refine fl_pick rfl rfl ?_
         refine fl_mv rfl ?_
         refine fl_nil ?_
         refine fx_ret ?_
         refine sq_r ?_
         refine ret_q (.inl rfl) (rt rfl rn) ?_
         exact congrArg (fun b=>AV.c (.v (.bool b))) (by simp_all [rowS])
        ·refine fl_gd rfl ?_
         refine fl_mvc rfl ?_
         refine fl_gd rfl ?_
         refine fl_bin rfl rfl (b_eql _ _ _) ?_
         refine fl_gd rfl ?_
         refine fl_pick rfl rfl ?_
         refine fl_gd rfl ?_
         refine fl_pick rfl rfl ?_
         refine fl_pick rfl rfl ?_
         refine fl_mv rfl ?_
         refine fl_nil ?_
         refine fx_ret ?_
         refine sq_r ?_
         refine ret_q (.inl rfl) (rt rfl rn) ?_
         exact congrArg (fun b=>AV.c (.v (.bool b))) (by simp_all [rowS])
    ·refine fl_gx rfl ?_
     refine fl_gx rfl ?_
     refine fl_gx rfl ?_
     refine fl_gt rfl ?_
     refine fl_gt rfl ?_
     refine fl_gx rfl ?_
     refine fl_gx rfl ?_
     refine fl_gt rfl ?_
     refine fl_gt rfl ?_
     refine fl_gx rfl ?_
     refine fl_gx rfl ?_
     refine fl_gt rfl ?_
     refine fl_gt rfl ?_
     refine fl_gx rfl ?_
     refine fl_gx rfl ?_
     refine fl_gt rfl ?_
     refine fl_gt rfl ?_
     refine fl_gx rfl ?_
     refine fl_gd rfl ?_
     refine fl_pick rfl rfl ?_
     refine fl_pick rfl rfl ?_
     refine fl_mv rfl ?_
     refine fl_nil ?_
     refine fx_ret ?_
     refine sq_r ?_
     refine ret_q (.inl rfl) (rt rfl rn) ?_
     exact congrArg (fun b=>AV.c (.v (.bool b))) (by simp_all [rowS])
  ·refine fx_sr ?_
   refine fl_mvc rfl ?_
   refine fl_bin rfl rfl (b_eql _ _ _) ?_
   refine fl_mvc rfl ?_
   refine fl_nil ?_
   refine fx_condD rfl (fun hc43=>?_) (fun hc43=>?_)
   ·refine fx_sr ?_
    refine fl_mvc rfl ?_
    refine fl_mvc rfl ?_
    refine fl_splitB 47 rfl (fun hg47=>?_) (fun hg47=>?_)
    ·refine fl_gd rfl ?_
     refine fl_mvc rfl ?_
     refine fl_gd rfl ?_
     refine fl_bin rfl rfl (b_eql _ _ _) ?_
     refine fl_pick rfl rfl ?_
     refine fl_mv rfl ?_
     refine fl_splitD 51 rfl (fun hg51=>?_) (fun hg51=>?_)
     ·refine fl_gx rfl ?_
      refine fl_gx rfl ?_
      refine fl_gx rfl ?_
      refine fl_gt rfl ?_
      refine fl_gt rfl ?_
      refine fl_gx rfl ?_
      refine fl_pick rfl rfl ?_
      refine fl_mv rfl ?_
      refine fl_nil ?_
      refine fx_ret ?_
      refine sq_r ?_
      refine ret_q (.inl rfl) (rt rfl rn) ?_
      exact congrArg (fun b=>AV.c (.v (.bool b))) (by simp_all [rowS])
     ·refine fl_gd rfl ?_
      refine fl_mvc rfl ?_
      refine fl_gd rfl ?_
      refine fl_un rfl (u_not _) ?_
      refine fl_gd rfl ?_
      refine fl_mvc rfl ?_
      refine fl_splitB 54 rfl (fun hg54=>?_) (fun hg54=>?_)
      ·refine fl_gd rfl ?_
       refine fl_mvc rfl ?_
       refine fl_gd rfl ?_
       refine fl_bin rfl rfl (b_eql _ _ _) ?_
       refine fl_gd rfl ?_
       refine fl_pick rfl rfl ?_
       refine fl_pick rfl rfl ?_
       refine fl_mv rfl ?_
       refine fl_nil ?_
       refine fx_ret ?_
       refine sq_r ?_
       refine ret_q (.inl rfl) (rt rfl rn) ?_
       exact congrArg (fun b=>AV.c (.v (.bool b))) (by simp_all [rowS])
      ·refine fl_gx rfl ?_
       refine fl_gx rfl ?_
       refine fl_gd rfl ?_
       refine fl_pick rfl rfl ?_
       refine fl_pick rfl rfl ?_
       refine fl_mv rfl ?_
       refine fl_nil ?_
       refine fx_ret ?_
       refine sq_r ?_
       refine ret_q (.inl rfl) (rt rfl rn) ?_
       exact congrArg (fun b=>AV.c (.v (.bool b))) (by simp_all [rowS])
    ·refine fl_gx rfl ?_
     refine fl_gx rfl ?_
     refine fl_pick rfl rfl ?_
     refine fl_mv rfl ?_
     refine fl_gd rfl ?_
     refine fl_mvc rfl ?_
     refine fl_gd rfl ?_
     refine fl_un rfl (u_not _) ?_
     refine fl_gd rfl ?_
     refine fl_mvc rfl ?_
     refine fl_splitB 54 rfl (fun hg54=>?_) (fun hg54=>?_)
     ·refine fl_gd rfl ?_
      refine fl_mvc rfl ?_
      refine fl_gd rfl ?_
      refine fl_bin rfl rfl (b_eql _ _ _) ?_
      refine fl_gd rfl ?_
      refine fl_pick rfl rfl ?_
      refine fl_pick rfl rfl ?_
      refine fl_mv rfl ?_
      refine fl_nil ?_
      refine fx_ret ?_
      refine sq_r ?_
      refine ret_q (.inl rfl) (rt rfl rn) ?_
      exact congrArg (fun b=>AV.c (.v (.bool b))) (by simp_all [rowS])
     ·refine fl_gx rfl ?_
      refine fl_gx rfl ?_
      refine fl_gd rfl ?_
      refine fl_pick rfl rfl ?_
      refine fl_pick rfl rfl ?_
      refine fl_mv rfl ?_
      refine fl_nil ?_
      refine fx_ret ?_
      refine sq_r ?_
      refine ret_q (.inl rfl) (rt rfl rn) ?_
      exact congrArg (fun b=>AV.c (.v (.bool b))) (by simp_all [rowS])
   ·refine fx_sr ?_
    refine fl_mvc rfl ?_
    refine fl_bin rfl rfl (b_eql _ _ _) ?_
    refine fl_mvc rfl ?_
    refine fl_nil ?_
    refine fx_condD rfl (fun hc59=>?_) (fun hc59=>?_)
    ·refine fx_sr ?_
     refine fl_mvc rfl ?_
     refine fl_mvc rfl ?_
     refine fl_splitB 63 rfl (fun hg63=>?_) (fun hg63=>?_)
     ·refine fl_gd rfl ?_
      refine fl_mvc rfl ?_
      refine fl_gd rfl ?_
      refine fl_bin rfl rfl (b_eql _ _ _) ?_
      refine fl_pick rfl rfl ?_
      refine fl_mv rfl ?_
      refine fl_splitD 67 rfl (fun hg67=>?_) (fun hg67=>?_)
      ·refine fl_gx rfl ?_
       refine fl_gx rfl ?_
       refine fl_gx rfl ?_
       refine fl_gt rfl ?_
       refine fl_gt rfl ?_
       refine fl_gx rfl ?_
       refine fl_pick rfl rfl ?_
       refine fl_mv rfl ?_
       refine fl_nil ?_
       refine fx_ret ?_
       refine sq_r ?_
       refine ret_q (.inl rfl) (rt rfl rn) ?_
       exact congrArg (fun b=>AV.c (.v (.bool b))) (by simp_all [rowS])
      ·refine fl_gd rfl ?_
       refine fl_mvc rfl ?_
       refine fl_gd rfl ?_
       refine fl_un rfl (u_not _) ?_
       refine fl_gd rfl ?_
       refine fl_mvc rfl ?_
       refine fl_splitB 70 rfl (fun hg70=>?_) (fun hg70=>?_)
       ·refine fl_gd rfl ?_
        refine fl_mvc rfl ?_
        refine fl_gd rfl ?_
        refine fl_bin rfl rfl (b_eql _ _ _) ?_
        refine fl_gd rfl ?_
        refine fl_pick rfl rfl ?_
        refine fl_pick rfl rfl ?_
        refine fl_mv rfl ?_
        refine fl_nil ?_
        refine fx_ret ?_
        refine sq_r ?_
        refine ret_q (.inl rfl) (rt rfl rn) ?_
        exact congrArg (fun b=>AV.c (.v (.bool b))) (by simp_all [rowS])
       ·refine fl_gx rfl ?_
        refine fl_gx rfl ?_
        refine fl_gd rfl ?_
        refine fl_pick rfl rfl ?_
        refine fl_pick rfl rfl ?_
        refine fl_mv rfl ?_
        refine fl_nil ?_
        refine fx_ret ?_
        refine sq_r ?_
        refine ret_q (.inl rfl) (rt rfl rn) ?_
        exact congrArg (fun b=>AV.c (.v (.bool b))) (by simp_all [rowS])
     ·refine fl_gx rfl ?_
      refine fl_gx rfl ?_
      refine fl_pick rfl rfl ?_
      refine fl_mv rfl ?_
      refine fl_gd rfl ?_
      refine fl_mvc rfl ?_
      refine fl_gd rfl ?_
      refine fl_un rfl (u_not _) ?_
      refine fl_gd rfl ?_
      refine fl_mvc rfl ?_
      refine fl_splitB 70 rfl (fun hg70=>?_) (fun hg70=>?_)
      ·refine fl_gd rfl ?_
       refine fl_mvc rfl ?_
       refine fl_gd rfl ?_
       refine fl_bin rfl rfl (b_eql _ _ _) ?_
       refine fl_gd rfl ?_
       refine fl_pick rfl rfl ?_
       refine fl_pick rfl rfl ?_
       refine fl_mv rfl ?_
       refine fl_nil ?_
       refine fx_ret ?_
       refine sq_r ?_
       refine ret_q (.inl rfl) (rt rfl rn) ?_
       exact congrArg (fun b=>AV.c (.v (.bool b))) (by simp_all [rowS])
      ·refine fl_gx rfl ?_
       refine fl_gx rfl ?_
       refine fl_gd rfl ?_
       refine fl_pick rfl rfl ?_
       refine fl_pick rfl rfl ?_
       refine fl_mv rfl ?_
       refine fl_nil ?_
       refine fx_ret ?_
       refine sq_r ?_
       refine ret_q (.inl rfl) (rt rfl rn) ?_
       exact congrArg (fun b=>AV.c (.v (.bool b))) (by simp_all [rowS])
    ·refine fx_skip ?_
     refine sq_n ?_
     refine fx_sr ?_
     refine fl_mvc rfl ?_
     refine fl_nil ?_
     refine fx_ret ?_
     refine ret_q (.inl rfl) (rt rfl rn) ?_
     exact congrArg (fun b=>AV.c (.v (.bool b))) (by simp_all [rowS])
open Go.CE Go.RowKit
open Go.Eng (setL Od need_pos)
section
variable {call:Call'} {B:Base} {fs:Sf} {l:List I} {Q:Sf→Prop} {d:Nat}
theorem fl_mkm (hw:∀ b,FL call B l (fs.own d (.c (.mp b)) (.blk b (.mp [] 0))) Q):FL call B (⟨some d,none,.mkm⟩::l) fs Q:=fl_new (w:=fun b=>.c (.mp b)) (fun _=>rfl) (fun _=>rfl) (fun st r=>rfl) hw
theorem fl_mupd {str:Bool} {x k v:Od} {b n n':Nat} {key:Value} {u:AV} {es es':List (Value×AV×Nat)} {H':List HA} (hx:fs.ev x=.c (.mp b)) (hk:fs.ev k=.c (.v key)) (hv:fs.ev v=u) (hs:setM str key u n es=some (es',n')) (hr:Rep1 fs.H (.blk b (.mp es n)) (.blk b (.mp es' n')) H')
  (hw:FL call B l (fs.heap H') Q):FL call B (⟨none,none,.mupd str x k v⟩::l) fs Q:=fun st r=>by
 have hm:st.mem.get b=some (.mp es n):=r.hold.h _ hr.mem
 refine w_of (i_e0 (st':=st.setB b (.mp es' n')) (v:=.any) rfl rfl (by simp only [stepE,r.ev,hx,hk,hv,AV.val?,hm,hs])) ?_
 exact hw _ (r.rep hr (Nat.le_refl _) (by show (st.setB b _).mem.get b=_;rw [setB_mem,if_pos rfl]) (fun c hc=>.inl hc) (by simp [HA.fp]) (fun c _ hc=>by show (st.setB b _).mem.get c=_;rw [setB_mem,if_neg fun e=>hc (by simp [HA.fp,e])]))
theorem fl_look {str agg:Bool} {zero:List Value} {x k:Od} {b n:Nat} {key:Value} {es:List (Value×AV×Nat)} {r:Option AV} {v:AV} (hx:fs.ev x=.c (.mp b)) (hk:fs.ev k=.c (.v key)) (hm:HA.blk b (.mp es n)∈fs.H) (hf:findV str key es=some r) (hv:r.getD (mkAV agg (zero.map fun v=>.v v))=v)
  (hw:FL call B l (fs.put d v) Q):FL call B (⟨some d,none,.look str zero agg x k false⟩::l) fs Q:=fun st rf=>by
 have hmm:st.mem.get b=some (.mp es n):=rf.hold.h _ hm
 refine w_of (i_e (st':=st) (v:=v) rfl rfl ?_) (hw _ (rf.put _ _))
 simp only [stepE,lookS,rf.ev,hk,hx,AV.val?,AS.ment,hmm,hf]
 subst hv
 cases r<;>rfl
theorem fl_ixa {len size:Nat} {agg:Bool} {x i:Od} {cs:List C} {kd:IntKind} {z:Int} {v:AV} (hx:fs.ev x=.agg cs) (hi:fs.ev i=.c (.v (.int kd z))) (j:Nat) (hj:z=(j:Int)) (h:j<len) (hl:len * size=cs.length) (hv:mkAV agg ((cs.drop (j * size)).take size)=v)
    (hw:FL call B l (fs.put d v) Q):FL call B (⟨some d,none,.ixa len agg size x i⟩::l) fs Q:=
  fl_q (fun _ => rfl) (fun st rf => by
    simp only [stepQ,rf.ev,hx,hi,AV.int?,hj]
    rw [need_pos ⟨by omega,by omega,hl⟩,Int.toNat_natCast,hv]) hw
end
theorem fv_ne {k0 n:Int} {v:AV} {m:Nat} {es:List (Value×AV×Nat)} {r:Option (Option AV)} (h:¬ k0=n) (t:findV false (.int .u8 k0) es=r):findV false (.int .u8 k0) ((.int .u8 n,v,m)::es)=r:=by
 have:sameK false (.int .u8 k0) (.int .u8 n)=some false:=by simp [sameK,h]
 simp only [findV,this]
 exact t
open Go.CE Go.RowKit
open Go.Eng (setL)
theorem eqlBB (a b:Bool):Go.Eng.binBV .eql (.bool a) (.bool b)=some (.bool (a == b)):=by cases a<;>cases b<;>rfl
theorem c_Fits_1 {k:Nat} (hk:3≤k) {z:Mem} {c:Int} {g:Bool}:FC (E k) 4 [.c (.v (.int .u8 1)),.c (.v (.bool g)),.c (.v (.int .u8 c))] z fun u _=>u=.c (.v (.bool (decide (c∈rowS 1 g)))):=by
 refine fc_of (tS_get4) (by omega) (len1 rfl) fun B j hj=>?_
 refine fx_sr ?_
 refine fl_mvc rfl ?_
 refine fl_nil ?_
 refine fx_sr ?_
 refine fl_mkm fun b9=>?_
 refine fl_bslice rfl fun b10=>?_
 refine fl_bslice rfl fun b11=>?_
 refine fl_bd (cs:=[_,_]) rfl ?_
 refine fl_mupd rfl rfl rfl rfl (repS (repS rep0)) ?_
 refine fl_bslice rfl fun b13=>?_
 refine fl_bslice rfl fun b14=>?_
 refine fl_bd (cs:=[_,_]) rfl ?_
 refine fl_mupd rfl rfl rfl rfl (repS (repS (repS (repS rep0)))) ?_
 refine fl_bslice rfl fun b16=>?_
 refine fl_bslice rfl fun b17=>?_
 refine fl_bd (cs:=[_,_]) rfl ?_
 refine fl_mupd rfl rfl rfl rfl (repS (repS (repS (repS (repS (repS rep0)))))) ?_
 refine fl_bslice rfl fun b19=>?_
 refine fl_bslice rfl fun b20=>?_
 refine fl_bd (cs:=[_,_]) rfl ?_
 refine fl_mupd rfl rfl rfl rfl (repS (repS (repS (repS (repS (repS (repS (repS rep0)))))))) ?_
 refine fl_mv rfl ?_
 refine fl_mv rfl ?_
 refine fl_nil ?_
 refine fx_sr ?_
 refine fl_mvc rfl ?_
 refine fl_nil ?_
 refine fx_ss ?_
 refine fx_sr ?_
 refine fl_mvc rfl ?_
 refine fl_nil ?_
 refine fx_cseq ?_
 refine fx_condB rfl (fun hc23=>?_) (fun hc23=>?_)
 ·refine fx_sr ?_
  refine fl_mvc rfl ?_
  refine fl_nil ?_
  refine fx_sr ?_
  refine fl_mv rfl ?_
  refine fl_mvc rfl ?_
  refine fl_look (r:=some _) rfl rfl (memS (memS (memS (memS (memS (memS (memS (memS mem0)))))))) rfl rfl ?_
  refine fl_mvc rfl ?_
  refine fl_ixa rfl rfl 1 rfl (by omega) rfl rfl ?_
  refine fl_mvc rfl ?_
  refine fl_frzZ z (p:=[_,_,_,_,_,_]) rfl rfl rfl (fun _ h=>h) fun zffb hzffb fb=>?_
  refine fl_callZ zffb (c_slices_Contains___uint8_uint8_ (by omega) (l:=[1]) ((cE_cl (e:=eB)).sz rfl (by decide) fb)) rfl rfl fun v30 z30 hz30 hv30=>?_
  subst hv30
  refine fl_mv rfl ?_
  refine fl_nil ?_
  refine fx_ret ?_
  refine ret_q (.inl rfl) (rt rfl rn) ?_
  exact congrArg (fun b=>AV.c (.v (.bool b))) (by simp [rowS,hc23])
 ·refine fx_kseq ?_
  refine fx_sr ?_
  refine fl_mv rfl ?_
  refine fl_mvc rfl ?_
  refine fl_look (r:=some _) rfl rfl (memS (memS (memS (memS (memS (memS (memS (memS mem0)))))))) rfl rfl ?_
  refine fl_mvc rfl ?_
  refine fl_ixa rfl rfl 0 rfl (by omega) rfl rfl ?_
  refine fl_mvc rfl ?_
  refine fl_frzZ z (p:=[_,_,_,_,_,_,_]) rfl rfl rfl (fun _ h=>h) fun zffb hzffb fb=>?_
  refine fl_callZ zffb (c_slices_Contains___uint8_uint8_ (by omega) (l:=[2,4,5,6,7]) ((cE_cl (e:=eB)).sz rfl (by decide) fb)) rfl rfl fun v30 z30 hz30 hv30=>?_
  subst hv30
  refine fl_mv rfl ?_
  refine fl_nil ?_
  refine fx_ret ?_
  refine ret_q (.inl rfl) (rt rfl rn) ?_
  exact congrArg (fun b=>AV.c (.v (.bool b))) (by simp [rowS,hc23])
theorem c_Fits_2 {k:Nat} (hk:3≤k) {z:Mem} {c:Int} {g:Bool}:FC (E k) 4 [.c (.v (.int .u8 2)),.c (.v (.bool g)),.c (.v (.int .u8 c))] z fun u _=>u=.c (.v (.bool (decide (c∈rowS 2 g)))):=by
 refine fc_of (tS_get4) (by omega) (len1 rfl) fun B j hj=>?_
 refine fx_sr ?_
 refine fl_mvc rfl ?_
 refine fl_nil ?_
 refine fx_sr ?_
 refine fl_mkm fun b9=>?_
 refine fl_bslice rfl fun b10=>?_
 refine fl_bslice rfl fun b11=>?_
 refine fl_bd (cs:=[_,_]) rfl ?_
 refine fl_mupd rfl rfl rfl rfl (repS (repS rep0)) ?_
 refine fl_bslice rfl fun b13=>?_
 refine fl_bslice rfl fun b14=>?_
 refine fl_bd (cs:=[_,_]) rfl ?_
 refine fl_mupd rfl rfl rfl rfl (repS (repS (repS (repS rep0)))) ?_
 refine fl_bslice rfl fun b16=>?_
 refine fl_bslice rfl fun b17=>?_
 refine fl_bd (cs:=[_,_]) rfl ?_
 refine fl_mupd rfl rfl rfl rfl (repS (repS (repS (repS (repS (repS rep0)))))) ?_
 refine fl_bslice rfl fun b19=>?_
 refine fl_bslice rfl fun b20=>?_
 refine fl_bd (cs:=[_,_]) rfl ?_
 refine fl_mupd rfl rfl rfl rfl (repS (repS (repS (repS (repS (repS (repS (repS rep0)))))))) ?_
 refine fl_mv rfl ?_
 refine fl_mv rfl ?_
 refine fl_nil ?_
 refine fx_sr ?_
 refine fl_mvc rfl ?_
 refine fl_nil ?_
 refine fx_ss ?_
 refine fx_sr ?_
 refine fl_mvc rfl ?_
 refine fl_nil ?_
 refine fx_cseq ?_
 refine fx_condB rfl (fun hc23=>?_) (fun hc23=>?_)
 ·refine fx_sr ?_
  refine fl_mvc rfl ?_
  refine fl_nil ?_
  refine fx_sr ?_
  refine fl_mv rfl ?_
  refine fl_mvc rfl ?_
  refine fl_look (r:=some _) rfl rfl (memS (memS (memS (memS (memS (memS (memS (memS mem0)))))))) rfl rfl ?_
  refine fl_mvc rfl ?_
  refine fl_ixa rfl rfl 1 rfl (by omega) rfl rfl ?_
  refine fl_mvc rfl ?_
  refine fl_frzZ z (p:=[_,_,_,_]) rfl rfl rfl (fun _ h=>h) fun zffb hzffb fb=>?_
  refine fl_callZ zffb (c_slices_Contains___uint8_uint8_ (by omega) (l:=[1]) ((cE_cl (e:=eB)).sz rfl (by decide) fb)) rfl rfl fun v30 z30 hz30 hv30=>?_
  subst hv30
  refine fl_mv rfl ?_
  refine fl_nil ?_
  refine fx_ret ?_
  refine ret_q (.inl rfl) (rt rfl rn) ?_
  exact congrArg (fun b=>AV.c (.v (.bool b))) (by simp [rowS,hc23])
 ·refine fx_kseq ?_
  refine fx_sr ?_
  refine fl_mv rfl ?_
  refine fl_mvc rfl ?_
  refine fl_look (r:=some _) rfl rfl (memS (memS (memS (memS (memS (memS (memS (memS mem0)))))))) rfl rfl ?_
  refine fl_mvc rfl ?_
  refine fl_ixa rfl rfl 0 rfl (by omega) rfl rfl ?_
  refine fl_mvc rfl ?_
  refine fl_frzZ z (p:=[_,_,_,_,_]) rfl rfl rfl (fun _ h=>h) fun zffb hzffb fb=>?_
  refine fl_callZ zffb (c_slices_Contains___uint8_uint8_ (by omega) (l:=[2,4,5,6,7]) ((cE_cl (e:=eB)).sz rfl (by decide) fb)) rfl rfl fun v30 z30 hz30 hv30=>?_
  subst hv30
  refine fl_mv rfl ?_
  refine fl_nil ?_
  refine fx_ret ?_
  refine ret_q (.inl rfl) (rt rfl rn) ?_
  exact congrArg (fun b=>AV.c (.v (.bool b))) (by simp [rowS,hc23])
theorem c_Fits_3 {k:Nat} (hk:3≤k) {z:Mem} {c:Int} {g:Bool}:FC (E k) 4 [.c (.v (.int .u8 3)),.c (.v (.bool g)),.c (.v (.int .u8 c))] z fun u _=>u=.c (.v (.bool (decide (c∈rowS 3 g)))):=by
 refine fc_of (tS_get4) (by omega) (len1 rfl) fun B j hj=>?_
 refine fx_sr ?_
 refine fl_mvc rfl ?_
 refine fl_nil ?_
 refine fx_sr ?_
 refine fl_mkm fun b9=>?_
 refine fl_bslice rfl fun b10=>?_
 refine fl_bslice rfl fun b11=>?_
 refine fl_bd (cs:=[_,_]) rfl ?_
 refine fl_mupd rfl rfl rfl rfl (repS (repS rep0)) ?_
 refine fl_bslice rfl fun b13=>?_
 refine fl_bslice rfl fun b14=>?_
 refine fl_bd (cs:=[_,_]) rfl ?_
 refine fl_mupd rfl rfl rfl rfl (repS (repS (repS (repS rep0)))) ?_
 refine fl_bslice rfl fun b16=>?_
 refine fl_bslice rfl fun b17=>?_
 refine fl_bd (cs:=[_,_]) rfl ?_
 refine fl_mupd rfl rfl rfl rfl (repS (repS (repS (repS (repS (repS rep0)))))) ?_
 refine fl_bslice rfl fun b19=>?_
 refine fl_bslice rfl fun b20=>?_
 refine fl_bd (cs:=[_,_]) rfl ?_
 refine fl_mupd rfl rfl rfl rfl (repS (repS (repS (repS (repS (repS (repS (repS rep0)))))))) ?_
 refine fl_mv rfl ?_
 refine fl_mv rfl ?_
 refine fl_nil ?_
 refine fx_sr ?_
 refine fl_mvc rfl ?_
 refine fl_nil ?_
 refine fx_ss ?_
 refine fx_sr ?_
 refine fl_mvc rfl ?_
 refine fl_nil ?_
 refine fx_cseq ?_
 refine fx_condB rfl (fun hc23=>?_) (fun hc23=>?_)
 ·refine fx_sr ?_
  refine fl_mvc rfl ?_
  refine fl_nil ?_
  refine fx_sr ?_
  refine fl_mv rfl ?_
  refine fl_mvc rfl ?_
  refine fl_look (r:=some _) rfl rfl (memS (memS (memS (memS (memS (memS (memS (memS mem0)))))))) rfl rfl ?_
  refine fl_mvc rfl ?_
  refine fl_ixa rfl rfl 1 rfl (by omega) rfl rfl ?_
  refine fl_mvc rfl ?_
  refine fl_frzZ z (p:=[_,_]) rfl rfl rfl (fun _ h=>h) fun zffb hzffb fb=>?_
  refine fl_callZ zffb (c_slices_Contains___uint8_uint8_ (by omega) (l:=[8]) ((cE_cl (e:=eB)).sz rfl (by decide) fb)) rfl rfl fun v30 z30 hz30 hv30=>?_
  subst hv30
  refine fl_mv rfl ?_
  refine fl_nil ?_
  refine fx_ret ?_
  refine ret_q (.inl rfl) (rt rfl rn) ?_
  exact congrArg (fun b=>AV.c (.v (.bool b))) (by simp [rowS,hc23])
 ·refine fx_kseq ?_
  refine fx_sr ?_
  refine fl_mv rfl ?_
  refine fl_mvc rfl ?_
  refine fl_look (r:=some _) rfl rfl (memS (memS (memS (memS (memS (memS (memS (memS mem0)))))))) rfl rfl ?_
  refine fl_mvc rfl ?_
  refine fl_ixa rfl rfl 0 rfl (by omega) rfl rfl ?_
  refine fl_mvc rfl ?_
  refine fl_frzZ z (p:=[_,_,_]) rfl rfl rfl (fun _ h=>h) fun zffb hzffb fb=>?_
  refine fl_callZ zffb (c_slices_Contains___uint8_uint8_ (by omega) (l:=[9]) ((cE_cl (e:=eB)).sz rfl (by decide) fb)) rfl rfl fun v30 z30 hz30 hv30=>?_
  subst hv30
  refine fl_mv rfl ?_
  refine fl_nil ?_
  refine fx_ret ?_
  refine ret_q (.inl rfl) (rt rfl rn) ?_
  exact congrArg (fun b=>AV.c (.v (.bool b))) (by simp [rowS,hc23])
theorem c_Fits_4 {k:Nat} (hk:3≤k) {z:Mem} {c:Int} {g:Bool}:FC (E k) 4 [.c (.v (.int .u8 4)),.c (.v (.bool g)),.c (.v (.int .u8 c))] z fun u _=>u=.c (.v (.bool (decide (c∈rowS 4 g)))):=by
 refine fc_of (tS_get4) (by omega) (len1 rfl) fun B j hj=>?_
 refine fx_sr ?_
 refine fl_mvc rfl ?_
 refine fl_nil ?_
 refine fx_sr ?_
 refine fl_mkm fun b9=>?_
 refine fl_bslice rfl fun b10=>?_
 refine fl_bslice rfl fun b11=>?_
 refine fl_bd (cs:=[_,_]) rfl ?_
 refine fl_mupd rfl rfl rfl rfl (repS (repS rep0)) ?_
 refine fl_bslice rfl fun b13=>?_
 refine fl_bslice rfl fun b14=>?_
 refine fl_bd (cs:=[_,_]) rfl ?_
 refine fl_mupd rfl rfl rfl rfl (repS (repS (repS (repS rep0)))) ?_
 refine fl_bslice rfl fun b16=>?_
 refine fl_bslice rfl fun b17=>?_
 refine fl_bd (cs:=[_,_]) rfl ?_
 refine fl_mupd rfl rfl rfl rfl (repS (repS (repS (repS (repS (repS rep0)))))) ?_
 refine fl_bslice rfl fun b19=>?_
 refine fl_bslice rfl fun b20=>?_
 refine fl_bd (cs:=[_,_]) rfl ?_
 refine fl_mupd rfl rfl rfl rfl (repS (repS (repS (repS (repS (repS (repS (repS rep0)))))))) ?_
 refine fl_mv rfl ?_
 refine fl_mv rfl ?_
 refine fl_nil ?_
 refine fx_sr ?_
 refine fl_mvc rfl ?_
 refine fl_nil ?_
 refine fx_ss ?_
 refine fx_sr ?_
 refine fl_mvc rfl ?_
 refine fl_nil ?_
 refine fx_cseq ?_
 refine fx_condB rfl (fun hc23=>?_) (fun hc23=>?_)
 ·refine fx_sr ?_
  refine fl_mvc rfl ?_
  refine fl_nil ?_
  refine fx_sr ?_
  refine fl_mv rfl ?_
  refine fl_mvc rfl ?_
  refine fl_look (r:=some _) rfl rfl (memS (memS (memS (memS (memS (memS (memS (memS mem0)))))))) rfl rfl ?_
  refine fl_mvc rfl ?_
  refine fl_ixa rfl rfl 1 rfl (by omega) rfl rfl ?_
  refine fl_mvc rfl ?_
  refine fl_frzZ z (p:=[]) rfl rfl rfl (fun _ h=>h) fun zffb hzffb fb=>?_
  refine fl_callZ zffb (c_slices_Contains___uint8_uint8_ (by omega) (l:=[10]) ((cE_cl (e:=eB)).sz rfl (by decide) fb)) rfl rfl fun v30 z30 hz30 hv30=>?_
  subst hv30
  refine fl_mv rfl ?_
  refine fl_nil ?_
  refine fx_ret ?_
  refine ret_q (.inl rfl) (rt rfl rn) ?_
  exact congrArg (fun b=>AV.c (.v (.bool b))) (by simp [rowS,hc23])
 ·refine fx_kseq ?_
  refine fx_sr ?_
  refine fl_mv rfl ?_
  refine fl_mvc rfl ?_
  refine fl_look (r:=some _) rfl rfl (memS (memS (memS (memS (memS (memS (memS (memS mem0)))))))) rfl rfl ?_
  refine fl_mvc rfl ?_
  refine fl_ixa rfl rfl 0 rfl (by omega) rfl rfl ?_
  refine fl_mvc rfl ?_
  refine fl_frzZ z (p:=[_]) rfl rfl rfl (fun _ h=>h) fun zffb hzffb fb=>?_
  refine fl_callZ zffb (c_slices_Contains___uint8_uint8_ (by omega) (l:=[11]) ((cE_cl (e:=eB)).sz rfl (by decide) fb)) rfl rfl fun v30 z30 hz30 hv30=>?_
  subst hv30
  refine fl_mv rfl ?_
  refine fl_nil ?_
  refine fx_ret ?_
  refine ret_q (.inl rfl) (rt rfl rn) ?_
  exact congrArg (fun b=>AV.c (.v (.bool b))) (by simp [rowS,hc23])
theorem c_Fits_o {k:Nat} (hk:3≤k) {z:Mem} {k0 c:Int} {g:Bool} (h1:¬ k0=1) (h2:¬ k0=2) (h3:¬ k0=3) (h4:¬ k0=4):FC (E k) 4 [.c (.v (.int .u8 k0)),.c (.v (.bool g)),.c (.v (.int .u8 c))] z fun u _=>u=.c (.v (.bool (decide (c∈rowS k0 g)))):=by
 refine fc_of (tS_get4) (by omega) (len1 rfl) fun B j hj=>?_
 refine fx_sr ?_
 refine fl_mvc rfl ?_
 refine fl_nil ?_
 refine fx_sr ?_
 refine fl_mkm fun b9=>?_
 refine fl_bslice rfl fun b10=>?_
 refine fl_bslice rfl fun b11=>?_
 refine fl_bd (cs:=[_,_]) rfl ?_
 refine fl_mupd rfl rfl rfl rfl (repS (repS rep0)) ?_
 refine fl_bslice rfl fun b13=>?_
 refine fl_bslice rfl fun b14=>?_
 refine fl_bd (cs:=[_,_]) rfl ?_
 refine fl_mupd rfl rfl rfl rfl (repS (repS (repS (repS rep0)))) ?_
 refine fl_bslice rfl fun b16=>?_
 refine fl_bslice rfl fun b17=>?_
 refine fl_bd (cs:=[_,_]) rfl ?_
 refine fl_mupd rfl rfl rfl rfl (repS (repS (repS (repS (repS (repS rep0)))))) ?_
 refine fl_bslice rfl fun b19=>?_
 refine fl_bslice rfl fun b20=>?_
 refine fl_bd (cs:=[_,_]) rfl ?_
 refine fl_mupd rfl rfl rfl rfl (repS (repS (repS (repS (repS (repS (repS (repS rep0)))))))) ?_
 refine fl_mv rfl ?_
 refine fl_mv rfl ?_
 refine fl_nil ?_
 refine fx_sr ?_
 refine fl_mvc rfl ?_
 refine fl_nil ?_
 refine fx_ss ?_
 refine fx_sr ?_
 refine fl_mvc rfl ?_
 refine fl_nil ?_
 refine fx_cseq ?_
 refine fx_condB rfl (fun hc23=>?_) (fun hc23=>?_)
 ·refine fx_sr ?_
  refine fl_mvc rfl ?_
  refine fl_nil ?_
  refine fx_sr ?_
  refine fl_mv rfl ?_
  refine fl_mvc rfl ?_
  refine fl_look (r:=none) rfl rfl (memS (memS (memS (memS (memS (memS (memS (memS mem0)))))))) (fv_ne h1 (fv_ne h2 (fv_ne h3 (fv_ne h4 rfl)))) rfl ?_
  refine fl_mvc rfl ?_
  refine fl_ixa rfl rfl 1 rfl (by omega) rfl rfl ?_
  refine fl_mvc rfl ?_
  refine fl_callZ z (c_slices_Contains___uint8_uint8_ (by omega) (l:=[]) (.nil)) rfl rfl fun v30 z30 hz30 hv30=>?_
  subst hv30
  refine fl_mv rfl ?_
  refine fl_nil ?_
  refine fx_ret ?_
  refine ret_q (.inl rfl) (rt rfl rn) ?_
  exact congrArg (fun b=>AV.c (.v (.bool b))) (by simp [rowS,hc23,h1,h2,h3,h4])
 ·refine fx_kseq ?_
  refine fx_sr ?_
  refine fl_mv rfl ?_
  refine fl_mvc rfl ?_
  refine fl_look (r:=none) rfl rfl (memS (memS (memS (memS (memS (memS (memS (memS mem0)))))))) (fv_ne h1 (fv_ne h2 (fv_ne h3 (fv_ne h4 rfl)))) rfl ?_
  refine fl_mvc rfl ?_
  refine fl_ixa rfl rfl 0 rfl (by omega) rfl rfl ?_
  refine fl_mvc rfl ?_
  refine fl_callZ z (c_slices_Contains___uint8_uint8_ (by omega) (l:=[]) (.nil)) rfl rfl fun v30 z30 hz30 hv30=>?_
  subst hv30
  refine fl_mv rfl ?_
  refine fl_nil ?_
  refine fx_ret ?_
  refine ret_q (.inl rfl) (rt rfl rn) ?_
  exact congrArg (fun b=>AV.c (.v (.bool b))) (by simp [rowS,hc23,h1,h2,h3,h4])
theorem c_sound_Fits {k:Nat} (hk:3≤k) {z:Mem} {k0 c:Int} {g:Bool}:FC (E k) 4 [.c (.v (.int .u8 k0)),.c (.v (.bool g)),.c (.v (.int .u8 c))] z fun u _=>u=.c (.v (.bool (decide (c∈rowS k0 g)))):=by
 by_cases h1:k0=1
 ·subst h1;exact c_Fits_1 hk
 by_cases h2:k0=2
 ·subst h2;exact c_Fits_2 hk
 by_cases h3:k0=3
 ·subst h3;exact c_Fits_3 hk
 by_cases h4:k0=4
 ·subst h4;exact c_Fits_4 hk
 exact c_Fits_o hk h1 h2 h3 h4
theorem c_law11_SoundFits {k:Nat} (hk:22≤k) {z:Mem} {k0 c:Int} {g:Bool}:FC (E k) 3 [.c (.v (.int .u8 k0)),.c (.v (.bool g)),.c (.v (.int .u8 c))] z fun u _=>u=.c (.v (.bool true)):=by
 refine fc_of (tS_get3) (by omega) (len1 rfl) fun B j hj=>?_
 refine fx_sr ?_
 refine fl_mvc rfl ?_
 refine fl_nil ?_
 refine fx_sr ?_
 refine fl_mvc rfl ?_
 refine fl_mvc rfl ?_
 refine fl_mvc rfl ?_
 refine fl_callZ z (c_sound_Fits (by omega)) rfl rfl fun v10 z10 hz10 hv10=>?_
 subst hv10
 refine fl_mvc rfl ?_
 refine fl_mvc rfl ?_
 refine fl_mvc rfl ?_
 refine fl_callZ z10 (c_ref11_Fits (by omega)) rfl rfl fun v14 z14 hz14 hv14=>?_
 subst hv14
 refine fl_binB rfl rfl (eqlBB _ _) ?_
 refine fl_mvc rfl ?_
 refine fl_splitB 16 rfl (fun hg16=>?_) (fun hg16=>?_)
 ·refine fl_gd rfl ?_
  refine fl_callZ z14 (works_fc (by omega)) rfl rfl fun v17 z17 hz17 hv17=>?_
  subst hv17
  refine fl_pick rfl rfl ?_
  refine fl_mv rfl ?_
  refine fl_nil ?_
  refine fx_ret ?_
  refine ret_q (.inl rfl) (rt rfl rn) ?_
  exact congrArg (fun b=>AV.c (.v (.bool b))) (by simp_all)
 ·refine fl_gx rfl ?_
  refine fl_pick rfl rfl ?_
  refine fl_mv rfl ?_
  refine fl_nil ?_
  refine fx_ret ?_
  refine ret_q (.inl rfl) (rt rfl rn) ?_
  exact congrArg (fun b=>AV.c (.v (.bool b))) (by simp_all)
end Go.Proofs.YtmfellnmnojmbaaGreatDoor
