/- A copy of a filing, walked. -/
import Derived.WalkKit
import Derived.Orders
import Derived.Test.YtlceligcgelbdaaGreatKD2
set_option linter.unusedVariables false
set_option linter.unusedSimpArgs false
set_option maxRecDepth 100000
set_option maxHeartbeats 1000000
namespace Go.Proofs.YtlceligcgelbdaaGreat
open Go.CE Go.RowKit
open Go.Eng (setL)
theorem K0lt:9223372036854775807<K0:=by show _<18446744073709551616;omega
theorem clone_u {k:Nat} (hk:1≤k) {z:Mem} {v:AV} {l:List UInt32} (hv:SZ 1 RW z v l) (hb:l.length≤6):FC (E k) 192 [v] z fun v' z'=>SZ 1 RW (zd z z') v' l:=FCt.clone (clone_fc tS_get192 hk hv (by omega)) (fun h=>h) (by omega)
theorem clone_str {k:Nat} (hk:1≤k) {z:Mem} {v:AV} {l:List ByteArray} (hv:SZ 1 RS z v l) (hb:l.length≤1000):FC (E k) 118 [v] z fun v' z'=>SZ 1 RS (zd z z') v' l:=FCt.clone (clone_fc tS_get118 hk hv (by omega)) (fun h=>h) (by omega)
theorem own {k:Nat} (hk:2≤k) {z:Mem} {v:AV} {x:PRat} (hx:AZ RRat z v x) (hS:Sm x):FC (E k) 113 [v] z fun v z'=>AZ RRat (zd z z') v x:=by
 obtain ⟨hS0,hS1⟩:=hS
 obtain ⟨_,rfl,cx_0,cx_1,rfl,hx_0,hx_1⟩:=hx
 refine fc_of (tS_get113) (by omega) (len1 rfl) fun B j hj=>?_
 refine xR ?_
 refine fl_box rfl rfl fun b1=>?_
 refine fl_alloc fun b2=>?_
 refine lN ?_
 refine fx_drwS ?_
 refine gP rfl rfl trivial ?_
 refine R0 2 O ?_
 refine gP rfl rfl trivial ?_
 refine R0 2 O ?_
 refine glD (v:=.c (cx_0)) O O (.inr Y1) O (len1 O) O ?_
 refine fg_call (i:=⟨_,_,.call _ _⟩) rfl rfl trivial rfl rfl rfl (clone_u (by omega) hx_0 (by omega)) fun v6 z6 hz6 hs6=>?_
 obtain ⟨c6,hc6,hr6⟩:=SZ.one hs6
 subst hc6
 refine gP rfl rfl trivial ?_
 refine R0 2 O ?_
 refine gP rfl rfl trivial ?_
 refine R0 2 O ?_
 refine glD (v:=.c (cx_1)) O O (.inr Y1) O (len1 O) O ?_
 refine fg_call (i:=⟨_,_,.call _ _⟩) rfl rfl trivial rfl rfl rfl (clone_u (by omega) hx_1.m (by omega)) fun v10 z10 _ hs10=>?_
 obtain ⟨c10,hc10,hr10⟩:=SZ.one hs10
 subst hc10
 have hs10:=hs10.mono (zA (hz6))
 refine gP rfl rfl trivial ?_
 refine R0 2 O ?_
 refine gP rfl rfl trivial ?_
 refine R0 2 O ?_
 refine gS O O O ?_
 refine fl_stE (cs':=[Cb x.n,c6,Cb x.d,cx_1]) rfl rfl rfl P1 (by kernel_rfl) rfl (len1 rfl) ?_
 refine lN ?_
 refine gP rfl rfl trivial ?_
 refine R0 2 O ?_
 refine gP rfl rfl trivial ?_
 refine R0 2 O ?_
 refine gS O O O ?_
 refine fl_stE (cs':=[Cb x.n,c6,Cb x.d,c10]) rfl rfl rfl P1 (by kernel_rfl) rfl (len1 rfl) ?_
 refine lN ?_
 refine fg_nil ?_
 refine xR ?_
 refine fl_ld (v:=.agg [Cb x.n,c6,Cb x.d,c10]) rfl Y1 (len1 rfl) rfl ?_
 refine fl_stE (cs':=[Cb x.n,c6,Cb x.d,c10]) rfl rfl rfl rep0 (by kernel_rfl) rfl (len1 rfl) ?_
 refine lN ?_
 refine xT ?_
 refine rQ (.inl rfl) (rc rfl mem0 (len1 rfl) rfl rn) ?_
 exact ⟨_,rfl,mk_rat (hs6.mono (zd_mono zI)) hs10⟩
theorem cl_class {k:Nat} (hk:3≤k) {z:Mem} {b ty o:Nat} {cs ws:List C} {x:PClass} (hx:RClass z ws x) (hS:Sm x.arg) (hw:o+ws.length≤cs.length):FCt (E k) 117 [.c (.ptr b o)] z [.blk b (.cells ty (setL cs o ws))] (ElemPost RClass b ty o cs ws x z):=by
 obtain ⟨cx_0,cx_1,rfl,hx_0,hx_1⟩:=hx
 refine fct_of (tS_get117) (by omega) (len1 rfl) fun B j hj=>?_
 refine xG ?_
 refine R1 7 O ?_
 refine fl_nilck rfl ?_
 refine lF rfl ?_
 refine fl_ldW (v:=.agg [Cb x.arg.n,cx_0,Cb x.arg.d,cx_1]) (ws:=[Cs x.name,Cu x.kind,Cb x.arg.n,cx_0,Cb x.arg.d,cx_1]) rfl mem0 hw (len1 rfl) rfl ?_
 refine fl_call rfl (own (by omega) ⟨_,rfl,mk_rat hx_0 hx_1⟩ hS) fun v7 z7 _ ⟨_,hv7,c7_0,c7_1,hq7,h7_0,h7_1⟩=>?_
 subst hq7
 subst hv7
 refine fl_nilck rfl ?_
 refine lF rfl ?_
 refine fl_stW (ws':=[Cs x.name,Cu x.kind,Cb x.arg.n,c7_0,Cb x.arg.d,c7_1]) rfl rfl rfl rep0 hw (by kernel_rfl) rfl (len1 rfl) ?_
 refine lN ?_
 refine ret_h (.inr rfl) rn (List.Sublist.refl _) ?_
 exact ⟨_,rfl,rfl,mk_class h7_0 h7_1⟩
theorem cl_hold {k:Nat} (hk:3≤k) {z:Mem} {b ty o:Nat} {cs ws:List C} {x:PHold} (hx:RHold z ws x) (hS:Sm x.share) (hw:o+ws.length≤cs.length):FCt (E k) 197 [.c (.ptr b o)] z [.blk b (.cells ty (setL cs o ws))] (ElemPost RHold b ty o cs ws x z):=by
 obtain ⟨cx_0,cx_1,rfl,hx_0,hx_1⟩:=hx
 refine fct_of (tS_get197) (by omega) (len1 rfl) fun B j hj=>?_
 refine xG ?_
 refine R1 7 O ?_
 refine fl_nilck rfl ?_
 refine lF rfl ?_
 refine fl_ldW (v:=.agg [Cb x.share.n,cx_0,Cb x.share.d,cx_1]) (ws:=[Cs x.owner,Cs x.owned,Cb x.share.n,cx_0,Cb x.share.d,cx_1]) rfl mem0 hw (len1 rfl) rfl ?_
 refine fl_call rfl (own (by omega) ⟨_,rfl,mk_rat hx_0 hx_1⟩ hS) fun v7 z7 _ ⟨_,hv7,c7_0,c7_1,hq7,h7_0,h7_1⟩=>?_
 subst hq7
 subst hv7
 refine fl_nilck rfl ?_
 refine lF rfl ?_
 refine fl_stW (ws':=[Cs x.owner,Cs x.owned,Cb x.share.n,c7_0,Cb x.share.d,c7_1]) rfl rfl rfl rep0 hw (by kernel_rfl) rfl (len1 rfl) ?_
 refine lN ?_
 refine ret_h (.inr rfl) rn (List.Sublist.refl _) ?_
 exact ⟨_,rfl,rfl,mk_hold h7_0 h7_1⟩
theorem cl_book {k:Nat} (hk:3≤k) {z:Mem} {b ty o:Nat} {cs ws:List C} {x:PBook} (hx:RBook z ws x) (hS:Sm x.amount) (hw:o+ws.length≤cs.length):FCt (E k) 199 [.c (.ptr b o)] z [.blk b (.cells ty (setL cs o ws))] (ElemPost RBook b ty o cs ws x z):=by
 obtain ⟨cx_0,cx_1,rfl,hx_0,hx_1⟩:=hx
 refine fct_of (tS_get199) (by omega) (len1 rfl) fun B j hj=>?_
 refine xG ?_
 refine R1 7 O ?_
 refine fl_nilck rfl ?_
 refine lF rfl ?_
 refine fl_ldW (v:=.agg [Cb x.amount.n,cx_0,Cb x.amount.d,cx_1]) (ws:=[Cs x.entity,Cs x.cls,Cb x.amount.n,cx_0,Cb x.amount.d,cx_1]) rfl mem0 hw (len1 rfl) rfl ?_
 refine fl_call rfl (own (by omega) ⟨_,rfl,mk_rat hx_0 hx_1⟩ hS) fun v7 z7 _ ⟨_,hv7,c7_0,c7_1,hq7,h7_0,h7_1⟩=>?_
 subst hq7
 subst hv7
 refine fl_nilck rfl ?_
 refine lF rfl ?_
 refine fl_stW (ws':=[Cs x.entity,Cs x.cls,Cb x.amount.n,c7_0,Cb x.amount.d,c7_1]) rfl rfl rfl rep0 hw (by kernel_rfl) rfl (len1 rfl) ?_
 refine lN ?_
 refine ret_h (.inr rfl) rn (List.Sublist.refl _) ?_
 exact ⟨_,rfl,rfl,mk_book h7_0 h7_1⟩
theorem cl_deal {k:Nat} (hk:3≤k) {z:Mem} {b ty o:Nat} {cs ws:List C} {x:PDeal} (hx:RDeal z ws x) (hS:Sm x.amount) (hw:o+ws.length≤cs.length):FCt (E k) 201 [.c (.ptr b o)] z [.blk b (.cells ty (setL cs o ws))] (ElemPost RDeal b ty o cs ws x z):=by
 obtain ⟨cx_0,cx_1,rfl,hx_0,hx_1⟩:=hx
 refine fct_of (tS_get201) (by omega) (len1 rfl) fun B j hj=>?_
 refine xG ?_
 refine R1 7 O ?_
 refine fl_nilck rfl ?_
 refine lF rfl ?_
 refine fl_ldW (v:=.agg [Cb x.amount.n,cx_0,Cb x.amount.d,cx_1]) (ws:=[Cb x.give,Cs x.id,Cu x.kind,Cs x.payee,Cs x.payer,Cs x.cls,Cb x.amount.n,cx_0,Cb x.amount.d,cx_1]) rfl mem0 hw (len1 rfl) rfl ?_
 refine fl_call rfl (own (by omega) ⟨_,rfl,mk_rat hx_0 hx_1⟩ hS) fun v7 z7 _ ⟨_,hv7,c7_0,c7_1,hq7,h7_0,h7_1⟩=>?_
 subst hq7
 subst hv7
 refine fl_nilck rfl ?_
 refine lF rfl ?_
 refine fl_stW (ws':=[Cb x.give,Cs x.id,Cu x.kind,Cs x.payee,Cs x.payer,Cs x.cls,Cb x.amount.n,c7_0,Cb x.amount.d,c7_1]) rfl rfl rfl rep0 hw (by kernel_rfl) rfl (len1 rfl) ?_
 refine lN ?_
 refine ret_h (.inr rfl) rn (List.Sublist.refl _) ?_
 exact ⟨_,rfl,rfl,mk_deal h7_0 h7_1⟩
theorem cl_sold {k:Nat} (hk:3≤k) {z:Mem} {b ty o:Nat} {cs ws:List C} {x:PSold} (hx:RSold z ws x) (hS:Sm x.share) (hw:o+ws.length≤cs.length):FCt (E k) 205 [.c (.ptr b o)] z [.blk b (.cells ty (setL cs o ws))] (ElemPost RSold b ty o cs ws x z):=by
 obtain ⟨cx_0,cx_1,rfl,hx_0,hx_1⟩:=hx
 refine fct_of (tS_get205) (by omega) (len1 rfl) fun B j hj=>?_
 refine xG ?_
 refine R1 7 O ?_
 refine fl_nilck rfl ?_
 refine lF rfl ?_
 refine fl_ldW (v:=.agg [Cb x.share.n,cx_0,Cb x.share.d,cx_1]) (ws:=[Cs x.id,Cb x.share.n,cx_0,Cb x.share.d,cx_1]) rfl mem0 hw (len1 rfl) rfl ?_
 refine fl_call rfl (own (by omega) ⟨_,rfl,mk_rat hx_0 hx_1⟩ hS) fun v7 z7 _ ⟨_,hv7,c7_0,c7_1,hq7,h7_0,h7_1⟩=>?_
 subst hq7
 subst hv7
 refine fl_nilck rfl ?_
 refine lF rfl ?_
 refine fl_stW (ws':=[Cs x.id,Cb x.share.n,c7_0,Cb x.share.d,c7_1]) rfl rfl rfl rep0 hw (by kernel_rfl) rfl (len1 rfl) ?_
 refine lN ?_
 refine ret_h (.inr rfl) rn (List.Sublist.refl _) ?_
 exact ⟨_,rfl,rfl,mk_sold h7_0 h7_1⟩
theorem cl_bracket {k:Nat} (hk:3≤k) {z:Mem} {b ty o:Nat} {cs ws:List C} {x:PBracket} (hx:RBracket z ws x) (hS:Sm x.frm) (hS2:Sm x.rate) (hw:o+ws.length≤cs.length):FCt (E k) 115 [.c (.ptr b o)] z [.blk b (.cells ty (setL cs o ws))] (ElemPost RBracket b ty o cs ws x z):=by
 obtain ⟨cx_0,cx_1,cx_2,cx_3,rfl,hx_0,hx_1,hx_2,hx_3⟩:=hx
 refine fct_of (tS_get115) (by omega) (len1 rfl) fun B j hj=>?_
 refine fx_drw ?_
 refine gP rfl rfl trivial ?_
 refine R0 3 O ?_
 refine gP rfl rfl trivial ?_
 refine R0 3 O ?_
 refine gP rfl rfl trivial ?_
 refine R0 3 O ?_
 refine gP rfl rfl trivial ?_
 refine fl_nilck rfl ?_
 refine lN ?_
 refine gP rfl rfl trivial ?_
 refine R0 2 O ?_
 refine fg_ldW (v:=.agg [Cb x.frm.n,cx_0,Cb x.frm.d,cx_1]) (ws:=[Cb x.frm.n,cx_0,Cb x.frm.d,cx_1,Cb x.rate.n,cx_2,Cb x.rate.d,cx_3]) (i:=⟨_,_,.load _ _ _⟩) rfl rfl trivial rfl (.inr mem0) hw (len1 rfl) rfl sR ?_
 refine fg_call (i:=⟨_,_,.call _ _⟩) rfl rfl trivial rfl rfl rfl (own (by omega) ⟨_,rfl,mk_rat hx_0 hx_1⟩ hS) fun v8 z8 hz8 ⟨_,hv8,c8_0,c8_1,hq8,h8_0,h8_1⟩=>?_
 subst hq8
 subst hv8
 refine gP rfl rfl trivial ?_
 refine R0 3 O ?_
 refine gP rfl rfl trivial ?_
 refine fl_nilck rfl ?_
 refine lN ?_
 refine gP rfl rfl trivial ?_
 refine R0 2 O ?_
 refine fg_ldW (v:=.agg [Cb x.rate.n,cx_2,Cb x.rate.d,cx_3]) (ws:=[Cb x.frm.n,cx_0,Cb x.frm.d,cx_1,Cb x.rate.n,cx_2,Cb x.rate.d,cx_3]) (i:=⟨_,_,.load _ _ _⟩) rfl rfl trivial rfl (.inr mem0) hw (len1 rfl) rfl sR ?_
 refine fg_call (i:=⟨_,_,.call _ _⟩) rfl rfl trivial rfl rfl rfl (own (by omega) ⟨_,rfl,mk_rat hx_2.m hx_3.m⟩ hS2) fun v13 z13 _ ⟨_,hv13,c13_0,c13_1,hq13,h13_0,h13_1⟩=>?_
 subst hq13
 subst hv13
 have h13_0:=h13_0.mono (zA (hz8))
 have h13_1:=h13_1.mono (zA (hz8))
 refine gP rfl rfl trivial ?_
 refine fl_nilck rfl ?_
 refine lN ?_
 refine gP rfl rfl trivial ?_
 refine R0 2 O ?_
 refine gS O O O ?_
 refine fl_stW (ws':=[Cb x.frm.n,c8_0,Cb x.frm.d,c8_1,Cb x.rate.n,cx_2,Cb x.rate.d,cx_3]) rfl rfl rfl rep0 hw (by kernel_rfl) rfl (len1 rfl) ?_
 refine lN ?_
 refine gP rfl rfl trivial ?_
 refine fl_nilck rfl ?_
 refine lN ?_
 refine gP rfl rfl trivial ?_
 refine R0 2 O ?_
 refine gS O O O ?_
 refine fl_stW (ws':=[Cb x.frm.n,c8_0,Cb x.frm.d,c8_1,Cb x.rate.n,c13_0,Cb x.rate.d,c13_1]) rfl rfl rfl rep0 hw (by kernel_rfl) rfl (len1 rfl) ?_
 refine lN ?_
 refine fg_nil ?_
 refine ret_h (.inr rfl) rn (List.Sublist.refl _) ?_
 exact ⟨_,rfl,rfl,mk_bracket (h8_0.mono (zd_mono zI)) (h8_1.mono (zd_mono zI)) h13_0 h13_1⟩
theorem cl_stock {k:Nat} (hk:3≤k) {z:Mem} {b ty o:Nat} {cs ws:List C} {x:PStock} (hx:RStock z ws x) (hS:Sm x.margin) (hS2:Sm x.unsold) (hw:o+ws.length≤cs.length):FCt (E k) 203 [.c (.ptr b o)] z [.blk b (.cells ty (setL cs o ws))] (ElemPost RStock b ty o cs ws x z):=by
 obtain ⟨cx_0,cx_1,cx_2,cx_3,rfl,hx_0,hx_1,hx_2,hx_3⟩:=hx
 refine fct_of (tS_get203) (by omega) (len1 rfl) fun B j hj=>?_
 refine fx_drw ?_
 refine gP rfl rfl trivial ?_
 refine R0 3 O ?_
 refine gP rfl rfl trivial ?_
 refine R0 3 O ?_
 refine gP rfl rfl trivial ?_
 refine R0 3 O ?_
 refine gP rfl rfl trivial ?_
 refine fl_nilck rfl ?_
 refine lN ?_
 refine gP rfl rfl trivial ?_
 refine R0 2 O ?_
 refine fg_ldW (v:=.agg [Cb x.margin.n,cx_0,Cb x.margin.d,cx_1]) (ws:=[Cs x.id,Cb x.margin.n,cx_0,Cb x.margin.d,cx_1,Cb x.unsold.n,cx_2,Cb x.unsold.d,cx_3]) (i:=⟨_,_,.load _ _ _⟩) rfl rfl trivial rfl (.inr mem0) hw (len1 rfl) rfl sR ?_
 refine fg_call (i:=⟨_,_,.call _ _⟩) rfl rfl trivial rfl rfl rfl (own (by omega) ⟨_,rfl,mk_rat hx_0 hx_1⟩ hS) fun v8 z8 hz8 ⟨_,hv8,c8_0,c8_1,hq8,h8_0,h8_1⟩=>?_
 subst hq8
 subst hv8
 refine gP rfl rfl trivial ?_
 refine R0 3 O ?_
 refine gP rfl rfl trivial ?_
 refine fl_nilck rfl ?_
 refine lN ?_
 refine gP rfl rfl trivial ?_
 refine R0 2 O ?_
 refine fg_ldW (v:=.agg [Cb x.unsold.n,cx_2,Cb x.unsold.d,cx_3]) (ws:=[Cs x.id,Cb x.margin.n,cx_0,Cb x.margin.d,cx_1,Cb x.unsold.n,cx_2,Cb x.unsold.d,cx_3]) (i:=⟨_,_,.load _ _ _⟩) rfl rfl trivial rfl (.inr mem0) hw (len1 rfl) rfl sR ?_
 refine fg_call (i:=⟨_,_,.call _ _⟩) rfl rfl trivial rfl rfl rfl (own (by omega) ⟨_,rfl,mk_rat hx_2.m hx_3.m⟩ hS2) fun v13 z13 _ ⟨_,hv13,c13_0,c13_1,hq13,h13_0,h13_1⟩=>?_
 subst hq13
 subst hv13
 have h13_0:=h13_0.mono (zA (hz8))
 have h13_1:=h13_1.mono (zA (hz8))
 refine gP rfl rfl trivial ?_
 refine fl_nilck rfl ?_
 refine lN ?_
 refine gP rfl rfl trivial ?_
 refine R0 2 O ?_
 refine gS O O O ?_
 refine fl_stW (ws':=[Cs x.id,Cb x.margin.n,c8_0,Cb x.margin.d,c8_1,Cb x.unsold.n,cx_2,Cb x.unsold.d,cx_3]) rfl rfl rfl rep0 hw (by kernel_rfl) rfl (len1 rfl) ?_
 refine lN ?_
 refine gP rfl rfl trivial ?_
 refine fl_nilck rfl ?_
 refine lN ?_
 refine gP rfl rfl trivial ?_
 refine R0 2 O ?_
 refine gS O O O ?_
 refine fl_stW (ws':=[Cs x.id,Cb x.margin.n,c8_0,Cb x.margin.d,c8_1,Cb x.unsold.n,c13_0,Cb x.unsold.d,c13_1]) rfl rfl rfl rep0 hw (by kernel_rfl) rfl (len1 rfl) ?_
 refine lN ?_
 refine fg_nil ?_
 refine ret_h (.inr rfl) rn (List.Sublist.refl _) ?_
 exact ⟨_,rfl,rfl,mk_stock (h8_0.mono (zd_mono zI)) (h8_1.mono (zd_mono zI)) h13_0 h13_1⟩
theorem copied_class {k:Nat} (hk:4≤k) {z:Mem} {v:AV} {l:List PClass} (hv:SZ 6 RClass z v l) (hl:l.length≤1000) (hS:∀ a,a∈l→Sm a.arg):FC (E k) 116 [v,.c (.fn 117 [] [])] z fun v' z'=>SZ 6 RClass (zd z z') v' l:=
 copied_fc tS_get116 tS_get194 (by omega) K0lt hv (by omega) (by omega) fun j z' b o cs ws a e hz ha hR hw=>cl_class (by omega) (RMono.mono hz hR) (hS a ha) hw
theorem copied_hold {k:Nat} (hk:4≤k) {z:Mem} {v:AV} {l:List PHold} (hv:SZ 6 RHold z v l) (hl:l.length≤1000) (hS:∀ a,a∈l→Sm a.share):FC (E k) 196 [v,.c (.fn 197 [] [])] z fun v' z'=>SZ 6 RHold (zd z z') v' l:=
 copied_fc tS_get196 tS_get260 (by omega) K0lt hv (by omega) (by omega) fun j z' b o cs ws a e hz ha hR hw=>cl_hold (by omega) (RMono.mono hz hR) (hS a ha) hw
theorem copied_book {k:Nat} (hk:4≤k) {z:Mem} {v:AV} {l:List PBook} (hv:SZ 6 RBook z v l) (hl:l.length≤1000) (hS:∀ a,a∈l→Sm a.amount):FC (E k) 198 [v,.c (.fn 199 [] [])] z fun v' z'=>SZ 6 RBook (zd z z') v' l:=
 copied_fc tS_get198 tS_get261 (by omega) K0lt hv (by omega) (by omega) fun j z' b o cs ws a e hz ha hR hw=>cl_book (by omega) (RMono.mono hz hR) (hS a ha) hw
theorem copied_deal {k:Nat} (hk:4≤k) {z:Mem} {v:AV} {l:List PDeal} (hv:SZ 10 RDeal z v l) (hl:l.length≤1000) (hS:∀ a,a∈l→Sm a.amount):FC (E k) 200 [v,.c (.fn 201 [] [])] z fun v' z'=>SZ 10 RDeal (zd z z') v' l:=
 copied_fc tS_get200 tS_get262 (by omega) K0lt hv (by omega) (by omega) fun j z' b o cs ws a e hz ha hR hw=>cl_deal (by omega) (RMono.mono hz hR) (hS a ha) hw
theorem copied_sold {k:Nat} (hk:4≤k) {z:Mem} {v:AV} {l:List PSold} (hv:SZ 5 RSold z v l) (hl:l.length≤1000) (hS:∀ a,a∈l→Sm a.share):FC (E k) 204 [v,.c (.fn 205 [] [])] z fun v' z'=>SZ 5 RSold (zd z z') v' l:=
 copied_fc tS_get204 tS_get264 (by omega) K0lt hv (by omega) (by omega) fun j z' b o cs ws a e hz ha hR hw=>cl_sold (by omega) (RMono.mono hz hR) (hS a ha) hw
theorem copied_bracket {k:Nat} (hk:4≤k) {z:Mem} {v:AV} {l:List PBracket} (hv:SZ 8 RBracket z v l) (hl:l.length≤1000) (hS:∀ a,a∈l→Sm a.frm) (hS2:∀ a,a∈l→Sm a.rate):FC (E k) 114 [v,.c (.fn 115 [] [])] z fun v' z'=>SZ 8 RBracket (zd z z') v' l:=
 copied_fc tS_get114 tS_get193 (by omega) K0lt hv (by omega) (by omega) fun j z' b o cs ws a e hz ha hR hw=>cl_bracket (by omega) (RMono.mono hz hR) (hS a ha) (hS2 a ha) hw
theorem copied_stock {k:Nat} (hk:4≤k) {z:Mem} {v:AV} {l:List PStock} (hv:SZ 9 RStock z v l) (hl:l.length≤1000) (hS:∀ a,a∈l→Sm a.margin) (hS2:∀ a,a∈l→Sm a.unsold):FC (E k) 202 [v,.c (.fn 203 [] [])] z fun v' z'=>SZ 9 RStock (zd z z') v' l:=
 copied_fc tS_get202 tS_get263 (by omega) K0lt hv (by omega) (by omega) fun j z' b o cs ws a e hz ha hR hw=>cl_stock (by omega) (RMono.mono hz hR) (hS a ha) (hS2 a ha) hw
theorem cl_year {k:Nat} (hk:5≤k) {z:Mem} {b ty o:Nat} {cs ws:List C} {x:PYear} (hx:RYear z ws x) (hS:SmY x) (hw:o+ws.length≤cs.length):FCt (E k) 120 [.c (.ptr b o)] z [.blk b (.cells ty (setL cs o ws))] (ElemPost RYear b ty o cs ws x z):=by
 obtain ⟨cx_0,cx_1,cx_2,cx_3,cx_4,rfl,hx_0,hx_1,hx_2,hx_3,hx_4⟩:=hx
 refine fct_of (tS_get120) (by omega) (len1 rfl) fun B j hj=>?_
 refine R4 14 O ?_
 refine fl_nilck rfl ?_
 refine lF rfl ?_
 refine fl_ldW (v:=.c (cx_0)) (ws:=[Ci x.number,cx_0,cx_1,cx_2,cx_3,cx_4]) rfl mem0 hw (len1 rfl) rfl ?_
 refine fl_call rfl (copied_hold (by omega) hx_0 (by have:=hS.l0;omega) hS.r0) fun v7 z7 hz7 hs7=>?_
 obtain ⟨c7,hc7,hr7⟩:=SZ.one hs7
 subst hc7
 refine fl_nilck rfl ?_
 refine lF rfl ?_
 refine fl_stW (ws':=[Ci x.number,c7,cx_1,cx_2,cx_3,cx_4]) rfl rfl rfl rep0 hw (by kernel_rfl) rfl (len1 rfl) ?_
 refine lN ?_
 refine R4 14 O ?_
 refine fl_nilck rfl ?_
 refine lF rfl ?_
 refine fl_ldW (v:=.c (cx_1)) (ws:=[Ci x.number,c7,cx_1,cx_2,cx_3,cx_4]) rfl mem0 hw (len1 rfl) rfl ?_
 refine fl_call rfl (copied_book (by omega) hx_1.m (by have:=hS.l1;omega) hS.r1) fun v15 z15 hz15 hs15=>?_
 obtain ⟨c15,hc15,hr15⟩:=SZ.one hs15
 subst hc15
 have hs15:=hs15.mono (zA (hz7))
 refine fl_nilck rfl ?_
 refine lF rfl ?_
 refine fl_stW (ws':=[Ci x.number,c7,c15,cx_2,cx_3,cx_4]) rfl rfl rfl rep0 hw (by kernel_rfl) rfl (len1 rfl) ?_
 refine lN ?_
 refine R4 14 O ?_
 refine fl_nilck rfl ?_
 refine lF rfl ?_
 refine fl_ldW (v:=.c (cx_2)) (ws:=[Ci x.number,c7,c15,cx_2,cx_3,cx_4]) rfl mem0 hw (len1 rfl) rfl ?_
 refine fl_call rfl (copied_deal (by omega) hx_2.m (by have:=hS.l2;omega) hS.r2) fun v23 z23 hz23 hs23=>?_
 obtain ⟨c23,hc23,hr23⟩:=SZ.one hs23
 subst hc23
 have hs23:=hs23.mono (zA (hz7.trans hz15))
 refine fl_nilck rfl ?_
 refine lF rfl ?_
 refine fl_stW (ws':=[Ci x.number,c7,c15,c23,cx_3,cx_4]) rfl rfl rfl rep0 hw (by kernel_rfl) rfl (len1 rfl) ?_
 refine lN ?_
 refine R4 14 O ?_
 refine fl_nilck rfl ?_
 refine lF rfl ?_
 refine fl_ldW (v:=.c (cx_3)) (ws:=[Ci x.number,c7,c15,c23,cx_3,cx_4]) rfl mem0 hw (len1 rfl) rfl ?_
 refine fl_call rfl (copied_stock (by omega) hx_3.m (by have:=hS.l3;omega) hS.r3 hS.r3') fun v31 z31 hz31 hs31=>?_
 obtain ⟨c31,hc31,hr31⟩:=SZ.one hs31
 subst hc31
 have hs31:=hs31.mono (zA (hz7.trans (hz15.trans hz23)))
 refine fl_nilck rfl ?_
 refine lF rfl ?_
 refine fl_stW (ws':=[Ci x.number,c7,c15,c23,c31,cx_4]) rfl rfl rfl rep0 hw (by kernel_rfl) rfl (len1 rfl) ?_
 refine lN ?_
 refine xG ?_
 refine R1 7 O ?_
 refine fl_nilck rfl ?_
 refine lF rfl ?_
 refine fl_ldW (v:=.c (cx_4)) (ws:=[Ci x.number,c7,c15,c23,c31,cx_4]) rfl mem0 hw (len1 rfl) rfl ?_
 refine fl_call rfl (copied_sold (by omega) hx_4.m (by have:=hS.l4;omega) hS.r4) fun v39 z39 _ hs39=>?_
 obtain ⟨c39,hc39,hr39⟩:=SZ.one hs39
 subst hc39
 have hs39:=hs39.mono (zA (hz7.trans (hz15.trans (hz23.trans hz31))))
 refine fl_nilck rfl ?_
 refine lF rfl ?_
 refine fl_stW (ws':=[Ci x.number,c7,c15,c23,c31,c39]) rfl rfl rfl rep0 hw (by kernel_rfl) rfl (len1 rfl) ?_
 refine lN ?_
 refine ret_h (.inr rfl) rn (List.Sublist.refl _) ?_
 exact ⟨_,rfl,rfl,mk_year (hs7.mono (zd_mono zI)) (hs15.mono (zd_mono zI)) (hs23.mono (zd_mono zI)) (hs31.mono (zd_mono zI)) hs39⟩
theorem copied_year_o {k:Nat} (hk:6≤k) {z:Mem} {v:AV} {l:List PYear} (hv:SZ 6 RYear z v l) (hl:l.length≤1000) (hS:∀ a,a∈l→SmY a):FCt (E k) 119 [v,.c (.fn 120 [] [])] z [] fun v' z' H'=>∃ c cs,v'=.c c∧H'=[.row (.c c) 134 6 l.length cs]∧CL 6 RYear (zd z z') cs l∧sameC c c=true:=
 copied_fo tS_get119 tS_get195 (by omega) K0lt hv (by omega) (by omega) fun j z' b o cs ws a e hz ha hR hw=>cl_year (by omega) (RMono.mono hz hR) (hS a ha) hw
theorem copy_own {k:Nat} (hk:7≤k) {z:Mem} {v:AV} {x:PFiling} (hx:AZ RFiling z v x) (hS:SmF x):FCt (E k) 53 [v] z [] fun v z' H'=>∃ c0 c1 c2 c3 c4 c5 c6 c7 c8 c9 c10 c11 cs,v=.agg [Cs x.name,Cs x.parent,c0,Cb x.threshold.n,c1,Cb x.threshold.d,c2,Cb x.cap.n,c3,Cb x.cap.d,c4,Ci x.back,Ci x.forward,Cb x.interest.n,c5,Cb x.interest.d,c6,Cb x.floor.n,c7,Cb x.floor.d,c8,Ci x.keep,c9,c10,c11]∧H'=[.row (.c c11) 134 6 x.years.length cs]∧CL 6 RYear (zd z z') cs x.years∧CZ 8 RBracket (zd z z') c0 x.brackets∧CZ 1 RW (zd z z') c1 x.threshold.nm∧CZ 1 RW (zd z z') c2 x.threshold.dm∧CZ 1 RW (zd z z') c3 x.cap.nm∧CZ 1 RW (zd z z') c4 x.cap.dm∧CZ 1 RW (zd z z') c5 x.interest.nm∧CZ 1 RW (zd z z') c6 x.interest.dm∧CZ 1 RW (zd z z') c7 x.floor.nm∧CZ 1 RW (zd z z') c8 x.floor.dm∧CZ 6 RClass (zd z z') c9 x.classes∧CZ 1 RS (zd z z') c10 x.entities:=by
 obtain ⟨_,rfl,cx_0,cx_1,cx_2,cx_3,cx_4,cx_5,cx_6,cx_7,cx_8,cx_9,cx_10,cx_11,rfl,hx_0,hx_1,hx_2,hx_3,hx_4,hx_5,hx_6,hx_7,hx_8,hx_9,hx_10,hx_11⟩:=hx
 refine fct_of (tS_get53) (by omega) (len1 rfl) fun B j hj=>?_
 refine xR ?_
 refine fl_box rfl rfl fun b1=>?_
 refine fl_alloc fun b2=>?_
 refine lN ?_
 refine fx_drwS ?_
 refine gP rfl rfl trivial ?_
 refine R0 2 O ?_
 refine glD (v:=.agg [Cb x.threshold.n,cx_1,Cb x.threshold.d,cx_2]) O O (.inr Y1) O (len1 O) O ?_
 refine fg_call (i:=⟨_,_,.call _ _⟩) rfl rfl trivial rfl rfl rfl (own (by omega) ⟨_,rfl,mk_rat hx_1 hx_2⟩ hS.t) fun v5 z5 hz5 ⟨_,hv5,c5_0,c5_1,hq5,h5_0,h5_1⟩=>?_
 subst hq5
 subst hv5
 refine gP rfl rfl trivial ?_
 refine R0 2 O ?_
 refine glD (v:=.agg [Cb x.cap.n,cx_3,Cb x.cap.d,cx_4]) O O (.inr Y1) O (len1 O) O ?_
 refine fg_call (i:=⟨_,_,.call _ _⟩) rfl rfl trivial rfl rfl rfl (own (by omega) ⟨_,rfl,mk_rat hx_3.m hx_4.m⟩ hS.c) fun v8 z8 hz8 ⟨_,hv8,c8_0,c8_1,hq8,h8_0,h8_1⟩=>?_
 subst hq8
 subst hv8
 have h8_0:=h8_0.mono (zA (hz5))
 have h8_1:=h8_1.mono (zA (hz5))
 refine gP rfl rfl trivial ?_
 refine R0 2 O ?_
 refine glD (v:=.agg [Cb x.interest.n,cx_5,Cb x.interest.d,cx_6]) O O (.inr Y1) O (len1 O) O ?_
 refine fg_call (i:=⟨_,_,.call _ _⟩) rfl rfl trivial rfl rfl rfl (own (by omega) ⟨_,rfl,mk_rat hx_5.m hx_6.m⟩ hS.i) fun v11 z11 hz11 ⟨_,hv11,c11_0,c11_1,hq11,h11_0,h11_1⟩=>?_
 subst hq11
 subst hv11
 have h11_0:=h11_0.mono (zA (hz5.trans hz8))
 have h11_1:=h11_1.mono (zA (hz5.trans hz8))
 refine gP rfl rfl trivial ?_
 refine R0 2 O ?_
 refine glD (v:=.agg [Cb x.floor.n,cx_7,Cb x.floor.d,cx_8]) O O (.inr Y1) O (len1 O) O ?_
 refine fg_call (i:=⟨_,_,.call _ _⟩) rfl rfl trivial rfl rfl rfl (own (by omega) ⟨_,rfl,mk_rat hx_7.m hx_8.m⟩ hS.g) fun v14 z14 hz14 ⟨_,hv14,c14_0,c14_1,hq14,h14_0,h14_1⟩=>?_
 subst hq14
 subst hv14
 have h14_0:=h14_0.mono (zA (hz5.trans (hz8.trans hz11)))
 have h14_1:=h14_1.mono (zA (hz5.trans (hz8.trans hz11)))
 refine gP rfl rfl trivial ?_
 refine R0 2 O ?_
 refine gS O O O ?_
 refine fl_stE (cs':=[Cs x.name,Cs x.parent,cx_0,Cb x.threshold.n,c5_0,Cb x.threshold.d,c5_1,Cb x.cap.n,cx_3,Cb x.cap.d,cx_4,Ci x.back,Ci x.forward,Cb x.interest.n,cx_5,Cb x.interest.d,cx_6,Cb x.floor.n,cx_7,Cb x.floor.d,cx_8,Ci x.keep,cx_9,cx_10,cx_11]) rfl rfl rfl P1 (by kernel_rfl) rfl (len1 rfl) ?_
 refine lN ?_
 refine gP rfl rfl trivial ?_
 refine R0 2 O ?_
 refine gS O O O ?_
 refine fl_stE (cs':=[Cs x.name,Cs x.parent,cx_0,Cb x.threshold.n,c5_0,Cb x.threshold.d,c5_1,Cb x.cap.n,c8_0,Cb x.cap.d,c8_1,Ci x.back,Ci x.forward,Cb x.interest.n,cx_5,Cb x.interest.d,cx_6,Cb x.floor.n,cx_7,Cb x.floor.d,cx_8,Ci x.keep,cx_9,cx_10,cx_11]) rfl rfl rfl P1 (by kernel_rfl) rfl (len1 rfl) ?_
 refine lN ?_
 refine gP rfl rfl trivial ?_
 refine R0 2 O ?_
 refine gS O O O ?_
 refine fl_stE (cs':=[Cs x.name,Cs x.parent,cx_0,Cb x.threshold.n,c5_0,Cb x.threshold.d,c5_1,Cb x.cap.n,c8_0,Cb x.cap.d,c8_1,Ci x.back,Ci x.forward,Cb x.interest.n,c11_0,Cb x.interest.d,c11_1,Cb x.floor.n,cx_7,Cb x.floor.d,cx_8,Ci x.keep,cx_9,cx_10,cx_11]) rfl rfl rfl P1 (by kernel_rfl) rfl (len1 rfl) ?_
 refine lN ?_
 refine gP rfl rfl trivial ?_
 refine R0 2 O ?_
 refine gS O O O ?_
 refine fl_stE (cs':=[Cs x.name,Cs x.parent,cx_0,Cb x.threshold.n,c5_0,Cb x.threshold.d,c5_1,Cb x.cap.n,c8_0,Cb x.cap.d,c8_1,Ci x.back,Ci x.forward,Cb x.interest.n,c11_0,Cb x.interest.d,c11_1,Cb x.floor.n,c14_0,Cb x.floor.d,c14_1,Ci x.keep,cx_9,cx_10,cx_11]) rfl rfl rfl P1 (by kernel_rfl) rfl (len1 rfl) ?_
 refine lN ?_
 refine fg_nil ?_
 refine R4 4 O ?_
 refine fl_ld (v:=.c (cx_0)) rfl Y1 (len1 rfl) rfl ?_
 refine fl_call rfl (copied_bracket (by omega) hx_0.m (by have:=hS.l0;omega) hS.r0 hS.r0') fun v21 z21 hz21 hs21=>?_
 obtain ⟨c21,hc21,hr21⟩:=SZ.one hs21
 subst hc21
 have hs21:=hs21.mono (zA (hz5.trans (hz8.trans (hz11.trans hz14))))
 refine lF rfl ?_
 refine fl_stE (cs':=[Cs x.name,Cs x.parent,c21,Cb x.threshold.n,c5_0,Cb x.threshold.d,c5_1,Cb x.cap.n,c8_0,Cb x.cap.d,c8_1,Ci x.back,Ci x.forward,Cb x.interest.n,c11_0,Cb x.interest.d,c11_1,Cb x.floor.n,c14_0,Cb x.floor.d,c14_1,Ci x.keep,cx_9,cx_10,cx_11]) rfl rfl rfl P1 (by kernel_rfl) rfl (len1 rfl) ?_
 refine lN ?_
 refine R4 4 O ?_
 refine fl_ld (v:=.c (cx_9)) rfl Y1 (len1 rfl) rfl ?_
 refine fl_call rfl (copied_class (by omega) hx_9.m (by have:=hS.l1;omega) hS.r1) fun v25 z25 hz25 hs25=>?_
 obtain ⟨c25,hc25,hr25⟩:=SZ.one hs25
 subst hc25
 have hs25:=hs25.mono (zA (hz5.trans (hz8.trans (hz11.trans (hz14.trans hz21)))))
 refine lF rfl ?_
 refine fl_stE (cs':=[Cs x.name,Cs x.parent,c21,Cb x.threshold.n,c5_0,Cb x.threshold.d,c5_1,Cb x.cap.n,c8_0,Cb x.cap.d,c8_1,Ci x.back,Ci x.forward,Cb x.interest.n,c11_0,Cb x.interest.d,c11_1,Cb x.floor.n,c14_0,Cb x.floor.d,c14_1,Ci x.keep,c25,cx_10,cx_11]) rfl rfl rfl P1 (by kernel_rfl) rfl (len1 rfl) ?_
 refine lN ?_
 refine R4 4 O ?_
 refine fl_ld (v:=.c (cx_10)) rfl Y1 (len1 rfl) rfl ?_
 refine fl_call rfl (clone_str (by omega) hx_10.m (by have:=hS.l2;omega)) fun v29 z29 hz29 hs29=>?_
 obtain ⟨c29,hc29,hr29⟩:=SZ.one hs29
 subst hc29
 have hs29:=hs29.mono (zA (hz5.trans (hz8.trans (hz11.trans (hz14.trans (hz21.trans hz25))))))
 refine lF rfl ?_
 refine fl_stE (cs':=[Cs x.name,Cs x.parent,c21,Cb x.threshold.n,c5_0,Cb x.threshold.d,c5_1,Cb x.cap.n,c8_0,Cb x.cap.d,c8_1,Ci x.back,Ci x.forward,Cb x.interest.n,c11_0,Cb x.interest.d,c11_1,Cb x.floor.n,c14_0,Cb x.floor.d,c14_1,Ci x.keep,c25,c29,cx_11]) rfl rfl rfl P1 (by kernel_rfl) rfl (len1 rfl) ?_
 refine lN ?_
 refine R4 4 O ?_
 refine fl_ld (v:=.c (cx_11)) rfl Y1 (len1 rfl) rfl ?_
 refine fl_callL (Hs:=[]) rfl rfl (copied_year_o (by omega) hx_11.m (by have:=hS.l3;omega) hS.y) fun v33 z33 H33 hz33 ⟨c33,cs33,hv33,hH33,hs33,hr33⟩=>?_
 subst hv33 hH33
 have hs33:=hs33.mono (zA (hz5.trans (hz8.trans (hz11.trans (hz14.trans (hz21.trans (hz25.trans hz29)))))))
 refine lF rfl ?_
 refine fl_stE (cs':=[Cs x.name,Cs x.parent,c21,Cb x.threshold.n,c5_0,Cb x.threshold.d,c5_1,Cb x.cap.n,c8_0,Cb x.cap.d,c8_1,Ci x.back,Ci x.forward,Cb x.interest.n,c11_0,Cb x.interest.d,c11_1,Cb x.floor.n,c14_0,Cb x.floor.d,c14_1,Ci x.keep,c25,c29,c33]) rfl rfl rfl (repS (repS rep0)) (by kernel_rfl) rfl (len1 rfl) ?_
 refine lN ?_
 refine xR ?_
 refine fl_ld (v:=.agg [Cs x.name,Cs x.parent,c21,Cb x.threshold.n,c5_0,Cb x.threshold.d,c5_1,Cb x.cap.n,c8_0,Cb x.cap.d,c8_1,Ci x.back,Ci x.forward,Cb x.interest.n,c11_0,Cb x.interest.d,c11_1,Cb x.floor.n,c14_0,Cb x.floor.d,c14_1,Ci x.keep,c25,c29,c33]) rfl (memS (memS mem0)) (len1 rfl) rfl ?_
 refine fl_stE (cs':=[Cs x.name,Cs x.parent,c21,Cb x.threshold.n,c5_0,Cb x.threshold.d,c5_1,Cb x.cap.n,c8_0,Cb x.cap.d,c8_1,Ci x.back,Ci x.forward,Cb x.interest.n,c11_0,Cb x.interest.d,c11_1,Cb x.floor.n,c14_0,Cb x.floor.d,c14_1,Ci x.keep,c25,c29,c33]) rfl rfl rfl (repS rep0) (by kernel_rfl) rfl (len1 rfl) ?_
 refine lN ?_
 refine xT ?_
 refine ret_h (.inl rfl) (rc rfl (memS mem0) (len1 rfl) rfl rn) (List.Sublist.cons_cons _ (List.nil_sublist _)) ?_
 exact ⟨_,_,_,_,_,_,_,_,_,_,_,_,cs33,rfl,rfl,hs33,(hs21.mono (zd_mono zI)),(h5_0.mono (zd_mono zI)),(h5_1.mono (zd_mono zI)),(h8_0.mono (zd_mono zI)),(h8_1.mono (zd_mono zI)),(h11_0.mono (zd_mono zI)),(h11_1.mono (zd_mono zI)),(h14_0.mono (zd_mono zI)),(h14_1.mono (zd_mono zI)),(hs25.mono (zd_mono zI)),(hs29.mono (zd_mono zI))⟩
end Go.Proofs.YtlceligcgelbdaaGreat
