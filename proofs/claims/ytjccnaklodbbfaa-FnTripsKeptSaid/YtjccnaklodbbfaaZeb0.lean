-- Written by squeeze.py: not trusted, Lean checks it.
import Derived.Test.YtjccnaklodbbfaaZK
import Derived.Test.YtjccnaklodbbfaaZf0
import Derived.Test.YtjccnaklodbbfaaZf1
import Derived.Test.YtjccnaklodbbfaaZt0
import Derived.Test.YtjccnaklodbbfaaZw3
namespace Go.Proofs.Ytjccnaklodbbfaa.Print
open Go.RowKit Go.Proofs.YtjccnaklodbbfaaW.PrintWords Go.Proofs.YtjccnaklodbbfaaW.PrintLast Go.Proofs.YtjccnaklodbbfaaW.PrintMore
attribute [local go_sem] max2_int min2_int max_two min_two max_three min_three max_four min_four
set_option linter.unusedVariables false
set_option linter.unusedSimpArgs false
def spec_DrawTripsOf.f (k:Nat) (l0:List Int):Option ((List (S62))):=(spec_l6Open.f l0).bind fun bt1097=>((spec_l71Trips.f k bt1097.1 bt1097.2).bind fun bt1100=>((spec_l6Rd_pick.f k bt1097.1 bt1100.2 8).bind fun bt1104=>(if bt1104.1=0 then((spec_l71RecV.f k bt1097.1 bt1104.2).bind fun bt1106=>(if bt1100.1.length<3518437208883 then(some (bt1100.1++[(⟨bt1106.1,bt1106.2.1,bt1106.2.2.1⟩:S62)])) else(none))) else(some bt1100.1))))
theorem spec_DrawTripsOf.mono:∀a0 k,LeO (spec_DrawTripsOf.f k a0) (spec_DrawTripsOf.f (k+1) a0):=by
 intro a0 k
 unfold spec_DrawTripsOf.f
 repeat' first
   |(with_reducible exact spec_l6Rd_pick.mono _ _ _ _)
   |(with_reducible exact spec_l71RecV.mono _ _ _)
   |(with_reducible exact spec_l71Trips.mono _ _ _)
   |(with_reducible exact LeO.refl _)
   |(with_reducible exact LeO.none _)
   |(with_reducible refine LeO.ite ?_ ?_)
   |(with_reducible refine LeO.bind ?_ (fun _=>?_))
   |exact spec_l6Rd_pick.mono _ _ _ _
   |exact spec_l71RecV.mono _ _ _
   |exact spec_l71Trips.mono _ _ _
   |exact LeO.none _
   |refine LeO.ite ?_ ?_
   |refine LeO.bind ?_ (fun _=>?_)
set_option maxHeartbeats 8000000 in
set_option maxRecDepth 100000 in
theorem spec_DrawTripsOf.calls (k:Nat) (A0:Option Addr) (c0:Nat) (l0:List Int) (r:List (S62)) (w:World) (hr0:Kd.C (Kd.int .u8) w A0 l0.length l0) (hc0:l0.length≤c0) (h:spec_DrawTripsOf.f k l0=some r) :
  Calls Try.prog 54 #[.slice A0 l0.length c0] w fun e w'=>∃v0_:Value,e=.returned (v0_)∧Kd.N k62 62 w' w.heap.size (fun k_=>(w.heap.size≤k_)) v0_ r∧Below w.heap.size w w':=by
 have HR0:=Aside0.mk hr0
 have HC0:=Aside0.mk hc0
 clear hr0 hc0
 have HB:=Aside0.mk (Below.refl w.heap.size w)
 have H:((spec_l6Open.f l0).bind fun bt1097=>((spec_l71Trips.f k bt1097.1 bt1097.2).bind fun bt1100=>((spec_l6Rd_pick.f k bt1097.1 bt1100.2 8).bind fun bt1104=>(if bt1104.1=0 then((spec_l71RecV.f k bt1097.1 bt1104.2).bind fun bt1106=>(if bt1100.1.length<3518437208883 then(some (bt1100.1++[(⟨bt1106.1,bt1106.2.1,bt1106.2.2.1⟩:S62)])) else(none))) else(some bt1100.1)))))=some r:=h
 clear h
 replace H:=Option.bind_eq_some_iff.mp H
 obtain⟨⟨t1097,t1098⟩,A20,H⟩:=H
 replace H:((spec_l71Trips.f k t1097 t1098).bind fun bt1100=>((spec_l6Rd_pick.f k t1097 bt1100.2 8).bind fun bt1104=>(if bt1104.1=0 then((spec_l71RecV.f k t1097 bt1104.2).bind fun bt1106=>(if bt1100.1.length<3518437208883 then(some (bt1100.1++[(⟨bt1106.1,bt1106.2.1,bt1106.2.2.1⟩:S62)])) else(none))) else(some bt1100.1))))=some r:=H
 have A2:=Aside0.mk A20
 clear A20
 replace H:=Option.bind_eq_some_iff.mp H
 obtain⟨⟨t1100,t1103⟩,A30,H⟩:=H
 replace H:((spec_l6Rd_pick.f k t1097 t1103 8).bind fun bt1104=>(if bt1104.1=0 then((spec_l71RecV.f k t1097 bt1104.2).bind fun bt1106=>(if t1100.length<3518437208883 then(some (t1100++[(⟨bt1106.1,bt1106.2.1,bt1106.2.2.1⟩:S62)])) else(none))) else(some t1100)))=some r:=H
 have A3:=Aside0.mk A30
 clear A30
 replace H:=Option.bind_eq_some_iff.mp H
 obtain⟨⟨t1104,t1105⟩,A40,H⟩:=H
 replace H:(if t1104=0 then((spec_l71RecV.f k t1097 t1105).bind fun bt1106=>(if t1100.length<3518437208883 then(some (t1100++[(⟨bt1106.1,bt1106.2.1,bt1106.2.2.1⟩:S62)])) else(none))) else(some t1100))=some r:=H
 have A4:=Aside0.mk A40
 clear A40
 by_cases c5:t1104=0
 ·rw[if_pos c5] at H
  have c5b0:(t1104 == 0)=true:=beq_iff_eq.mpr c5
  have c5b1:(t1104 != 0)=false:=bne_eq_false_iff_eq.mpr c5
  clear c5
  replace H:=Option.bind_eq_some_iff.mp H
  obtain⟨⟨t1106,t1107,t1108,t1111⟩,A60,H⟩:=H
  replace H:(if t1100.length<3518437208883 then(some (t1100++[(⟨t1106,t1107,t1108⟩:S62)])) else(none))=some r:=H
  have A6:=Aside0.mk A60
  clear A60
  by_cases c7:t1100.length<3518437208883
  ·rw[if_pos c7] at H
   have LMc7:=Aside0.mk c7
   clear c7
   obtain⟨y1112,hy1112⟩:∃y_:List (S62),y_=(t1100++[(⟨t1106,t1107,t1108⟩:S62)]):=⟨_,rfl⟩
   replace H:(some y1112)=some r:=by first|(rw[hy1112];with_reducible exact H)|(have H2_:=(Option.bind_some _ _).symm.trans H;rw[hy1112];with_reducible exact H2_)|(have H2_:=(Option.bind_some _ _).symm.trans H;with_reducible exact H2_)|with_reducible exact H|(rw[hy1112];exact H)|exact H
   have Ny1112:=Aside0.mk hy1112
   clear hy1112
   obtain rfl:=Option.some.inj H
   go_enter Try.func54,Try.ntmps54
   go_wp2_with(first|((with_reducible refine qaf (f:=64) rfl ?_);refine zF (some 6) Try.func64 #[.slice A0 l0.length c0] ?_;(with_reducible refine(spec_l6Open.calls _ _ l0 t1097 t1098 w _ ?side1 ?side2 ?side3 A2.out).mono ?_);(case side1=>exact(za1 HB));(case side2=>exact HR0.out);(case side3=>exact HC0.out);rintro e w8 ⟨g1099,rfl,hi,hb,hb2⟩;refine⟨_,rfl,?_⟩;replace HB:=Aside0.mk hb;have HI1099:=Aside0.mk hi;(try clear hb);(try clear hb2);(try clear hi))|((with_reducible refine qaf (f:=97) rfl ?_);refine zF (some 8) Try.func97 #[.pointer (some ⟨g1099,0,none⟩)] ?_;(with_reducible refine(spec_l71Trips.calls k g1099 t1097 t1098 t1100 t1103 w _ ?side1 ?side2 A3.out).mono ?_);(case side1=>repeat(first|(with_reducible first|exact HI1099.out|apply IsS122.alloc|apply IsS122.drewN|apply IsS122.drew|apply IsS122.set_1)|exact HI1099.out));(case side2=>exact(by repeat(first|(with_reducible first|exact HB.out|apply qag|apply qad|apply qae|refine qac ?_ (IsS122.ge HI1099.out))|exact HB.out)));rintro e w9 ⟨v1101,rfl,ho0,hi,hb,hk⟩;refine⟨_,rfl,?_⟩;have HO1102:=Aside0.mk (Kd.N_lower (Kd.N_mono (ok':=fun k_=>(w.heap.size≤k_)∧k_≠g1099) (Kd.S_N (Kd.S_bound ho0)) (fun k_ hk_=>⟨(Nat.le_trans (below_size (by repeat(first|(with_reducible first|exact HB.out|apply qag|apply qad|apply qae|refine qac ?_ (IsS122.ge HI1099.out))|exact HB.out))) hk_.2.1),(IsS122.fresh (by repeat(first|(with_reducible first|exact HI1099.out|apply IsS122.alloc|apply IsS122.drewN|apply IsS122.drew|apply IsS122.set_1)|exact HI1099.out)) k_ hk_.2.1)⟩)) (below_size (by repeat(first|(with_reducible first|exact HB.out|apply qag|apply qad|apply qae|refine qac ?_ (IsS122.ge HI1099.out))|exact HB.out))));replace HB:=Aside0.mk hb;replace HI1099:=Aside0.mk hi;(try clear hb);(try clear hk);(try clear hi);(try clear ho0))|((with_reducible refine qaf (f:=65) rfl ?_);refine zF (some 10) Try.func65 #[.pointer (some ⟨g1099,0,none⟩),.int .i64 8] ?_;(with_reducible refine(spec_l6Rd_pick.calls k g1099 t1097 t1103 8 t1104 t1105 w _ ?side1 ?side2 A4.out).mono ?_);(case side1=>repeat(first|(with_reducible first|exact HI1099.out|apply IsS122.alloc|apply IsS122.drewN|apply IsS122.drew|apply IsS122.set_1)|exact HI1099.out));(case side2=>exact(by repeat(first|(with_reducible first|exact HB.out|apply qag|apply qad|apply qae|refine qac ?_ (IsS122.ge HI1099.out))|exact HB.out)));rintro e w10 ⟨rfl,hi,hb,hk⟩;refine⟨_,rfl,?_⟩;replace HO1102:=Aside0.mk (Kd.N_mono (Kd.N_keep (Kd.N_mono (ok:=fun k_=>(((w.heap.size≤k_))∧k_≠g1099)) (za11 HO1102) (fun k_ hk_=>(⟨hk_,hk_.2⟩:_∧k_≠g1099))) hk (fun _ h=>h.2)) (fun _ h=>h.1));replace HB:=Aside0.mk hb;replace HI1099:=Aside0.mk hi;(try clear hb);(try clear hk);(try clear hi))|((with_reducible refine qaf (f:=85) rfl ?_);refine zF (some 14) Try.func85 #[.pointer (some ⟨g1099,0,none⟩)] ?_;(with_reducible refine(spec_l71RecV.calls k g1099 t1097 t1105 t1106 t1107 t1108 t1111 w _ ?side1 ?side2 A6.out).mono ?_);(case side1=>repeat(first|(with_reducible first|exact HI1099.out|apply IsS122.alloc|apply IsS122.drewN|apply IsS122.drew|apply IsS122.set_1)|exact HI1099.out));(case side2=>exact(by repeat(first|(with_reducible first|exact HB.out|apply qag|apply qad|apply qae|refine qac ?_ (IsS122.ge HI1099.out))|exact HB.out)));rintro e w11 ⟨v1109,rfl,ho0,hi,hb,hk⟩;refine⟨_,rfl,?_⟩;have HO1110:=Aside0.mk (Kd.V_lower (Kd.V_mono (ok':=fun k_=>(w.heap.size≤k_)∧some k_≠(v1101:Value).ownBlock∧k_≠g1099) ho0 (fun k_ hk_=>⟨(Nat.le_trans (below_size (by repeat(first|(with_reducible first|exact HB.out|apply qag|apply qad|apply qae|refine qac ?_ (IsS122.ge HI1099.out))|exact HB.out))) hk_),(Kd.fresh' (Kd.N_lt (za11 HO1102)) k_ hk_),(IsS122.fresh (by repeat(first|(with_reducible first|exact HI1099.out|apply IsS122.alloc|apply IsS122.drewN|apply IsS122.drew|apply IsS122.set_1)|exact HI1099.out)) k_ hk_)⟩)) (below_size (by repeat(first|(with_reducible first|exact HB.out|apply qag|apply qad|apply qae|refine qac ?_ (IsS122.ge HI1099.out))|exact HB.out))));replace HO1102:=Aside0.mk (Kd.N_mono (Kd.N_keep (Kd.N_mono (ok:=fun k_=>(((w.heap.size≤k_))∧k_≠g1099)) (za11 HO1102) (fun k_ hk_=>(⟨hk_,hk_.2⟩:_∧k_≠g1099))) hk (fun _ h=>h.2)) (fun _ h=>h.1));replace HB:=Aside0.mk hb;replace HI1099:=Aside0.mk hi;(try clear hb);(try clear hk);(try clear hi);(try clear ho0);obtain⟨Ao13,co13,eo13⟩:=Kd.V_slice HO1110.out;subst eo13)|((with_reducible refine gate_builtin (b:=.append) (xs:=#[.tmp 12,.tmp 15]) rfl ?_);at_builtin;refine Kd.N_append k62 (w0:=w) w.heap.size rfl (.tmp 12) (.tmp 15) 22 62 (.agg #[(.int .i64 0),(.int .i64 0),(.slice none 0 0)]) 40 rfl Try.underlying22 info62 rfl (by decide) (by omega) v1101 t1100 (⟨t1106,t1107,t1108⟩:S62) [.int .i64 t1106,.int .i64 t1107,.slice Ao13 t1108.length co13] (fun k_=>(w.heap.size≤k_)∧k_≠g1099) (fun k_=>((fun k_=>(w.heap.size≤k_)∧k_≠g1099)) k_∧some k_≠(v1101:Value).ownBlock) rfl rfl ?aP (fun _ hk=>hk) ?aF ?aO ?aB ?aS ?aL ?_;(case aP=>exact(k62_mkF _ _ (⟨t1106,t1107,t1108⟩:S62) (Kd.V_reads' (Kd.V_mono (ok':=(fun k_=>((fun k_=>(w.heap.size≤k_)∧k_≠g1099)) k_∧some k_≠(v1101:Value).ownBlock)) (HO1110.out) (fun k_ hk=>⟨⟨hk.1,hk.2.2⟩,hk.2.1⟩))).2.1 (Kd.V_F (Kd.V_mono (ok':=(fun k_=>((fun k_=>(w.heap.size≤k_)∧k_≠g1099)) k_∧some k_≠(v1101:Value).ownBlock)) (HO1110.out) (fun k_ hk=>⟨⟨hk.1,hk.2.2⟩,hk.2.1⟩)))));(case aB=>exact(by repeat(first|(with_reducible first|exact HB.out|apply qag|apply qad|apply qae|refine qac ?_ (IsS122.ge HI1099.out))|exact HB.out)));(case aF=>exact(fun k_ hk=>⟨(Nat.le_trans (below_size (by repeat(first|(with_reducible first|exact HB.out|apply qag|apply qad|apply qae|refine qac ?_ (IsS122.ge HI1099.out))|exact HB.out))) hk),IsS122.fresh (by repeat(first|(with_reducible first|exact HI1099.out|apply IsS122.alloc|apply IsS122.drewN|apply IsS122.drew|apply IsS122.set_1)|exact HI1099.out)) k_ hk⟩));(case aO=>exact(za11 HO1102));(case aS=>exact(below_size (by repeat(first|(with_reducible first|exact HB.out|apply qag|apply qad|apply qae|refine qac ?_ (IsS122.ge HI1099.out))|exact HB.out))));(case aL=>have:=LMc7.out;omega);intro v1113 w12 ho hb hg hat;rw[←Ny1112.out] at ho;replace HI1099:=Aside0.mk (IsS122.grown (by repeat(first|(with_reducible first|exact HI1099.out|apply IsS122.alloc|apply IsS122.drewN|apply IsS122.drew|apply IsS122.set_1)|exact HI1099.out)) hg (IsS122.own_neN HI1099.out HO1102.out (by decide)));replace HO1110:=Aside0.mk (Kd.V_afterv (ok:=(fun k_=>(w.heap.size≤k_)∧k_≠g1099)) (by(with_reducible repeat(first|apply Kd.V_alloc|apply Kd.V_drewN|apply Kd.V_drew));exact Kd.V_mono HO1110.out (fun _ hk=>⟨⟨hk.1,hk.2.2⟩,hk.2.1⟩)) hg hat);replace HB:=Aside0.mk hb;have HO1114:=Aside0.mk ho;clear HO1102;clear ho hb hg hat))
   go_ret
   exact⟨_,za9,by(with_reducible repeat(first|apply Kd.N_alloc|apply Kd.N_drewN|apply Kd.N_drew));exact Kd.N_mono HO1114.out (fun _ hk=>hk.1),by repeat(first|(with_reducible first|exact HB.out|apply qag|apply qad|apply qae|refine qac ?_ (IsS122.ge HI1099.out))|exact HB.out)⟩
  ·rw[if_neg c7] at H
   exact absurd H (by simp)
 ·rw[if_neg c5] at H
  have c5b0:(t1104 == 0)=false:=beq_eq_false_iff_ne.mpr c5
  have c5b1:(t1104 != 0)=true:=bne_iff_ne.mpr c5
  obtain rfl:=Option.some.inj H
  go_enter Try.func54,Try.ntmps54
  go_wp2_with(first|((with_reducible refine qaf (f:=64) rfl ?_);refine zF (some 6) Try.func64 #[.slice A0 l0.length c0] ?_;(with_reducible refine(spec_l6Open.calls _ _ l0 t1097 t1098 w _ ?side1 ?side2 ?side3 A2.out).mono ?_);(case side1=>exact(za1 HB));(case side2=>exact HR0.out);(case side3=>exact HC0.out);rintro e w14 ⟨g1099,rfl,hi,hb,hb2⟩;refine⟨_,rfl,?_⟩;replace HB:=Aside0.mk hb;have HI1099:=Aside0.mk hi;(try clear hb);(try clear hb2);(try clear hi))|((with_reducible refine qaf (f:=97) rfl ?_);refine zF (some 8) Try.func97 #[.pointer (some ⟨g1099,0,none⟩)] ?_;(with_reducible refine(spec_l71Trips.calls k g1099 t1097 t1098 t1100 t1103 w _ ?side1 ?side2 A3.out).mono ?_);(case side1=>repeat(first|(with_reducible first|exact HI1099.out|apply IsS122.alloc|apply IsS122.drewN|apply IsS122.drew|apply IsS122.set_1)|exact HI1099.out));(case side2=>exact(by repeat(first|(with_reducible first|exact HB.out|apply qag|apply qad|apply qae|refine qac ?_ (IsS122.ge HI1099.out))|exact HB.out)));rintro e w15 ⟨v1101,rfl,ho0,hi,hb,hk⟩;refine⟨_,rfl,?_⟩;have HO1102:=Aside0.mk (Kd.N_lower (Kd.N_mono (ok':=fun k_=>(w.heap.size≤k_)∧k_≠g1099) (Kd.S_N (Kd.S_bound ho0)) (fun k_ hk_=>⟨(Nat.le_trans (below_size (by repeat(first|(with_reducible first|exact HB.out|apply qag|apply qad|apply qae|refine qac ?_ (IsS122.ge HI1099.out))|exact HB.out))) hk_.2.1),(IsS122.fresh (by repeat(first|(with_reducible first|exact HI1099.out|apply IsS122.alloc|apply IsS122.drewN|apply IsS122.drew|apply IsS122.set_1)|exact HI1099.out)) k_ hk_.2.1)⟩)) (below_size (by repeat(first|(with_reducible first|exact HB.out|apply qag|apply qad|apply qae|refine qac ?_ (IsS122.ge HI1099.out))|exact HB.out))));replace HB:=Aside0.mk hb;replace HI1099:=Aside0.mk hi;(try clear hb);(try clear hk);(try clear hi);(try clear ho0))|((with_reducible refine qaf (f:=65) rfl ?_);refine zF (some 10) Try.func65 #[.pointer (some ⟨g1099,0,none⟩),.int .i64 8] ?_;(with_reducible refine(spec_l6Rd_pick.calls k g1099 t1097 t1103 8 t1104 t1105 w _ ?side1 ?side2 A4.out).mono ?_);(case side1=>repeat(first|(with_reducible first|exact HI1099.out|apply IsS122.alloc|apply IsS122.drewN|apply IsS122.drew|apply IsS122.set_1)|exact HI1099.out));(case side2=>exact(by repeat(first|(with_reducible first|exact HB.out|apply qag|apply qad|apply qae|refine qac ?_ (IsS122.ge HI1099.out))|exact HB.out)));rintro e w16 ⟨rfl,hi,hb,hk⟩;refine⟨_,rfl,?_⟩;replace HO1102:=Aside0.mk (Kd.N_mono (Kd.N_keep (Kd.N_mono (ok:=fun k_=>(((w.heap.size≤k_))∧k_≠g1099)) (za11 HO1102) (fun k_ hk_=>(⟨hk_,hk_.2⟩:_∧k_≠g1099))) hk (fun _ h=>h.2)) (fun _ h=>h.1));replace HB:=Aside0.mk hb;replace HI1099:=Aside0.mk hi;(try clear hb);(try clear hk);(try clear hi)))
  go_ret
  exact⟨_,za9,by(with_reducible repeat(first|apply Kd.N_alloc|apply Kd.N_drewN|apply Kd.N_drew));exact Kd.N_mono HO1102.out (fun _ hk=>hk.1),by repeat(first|(with_reducible first|exact HB.out|apply qag|apply qad|apply qae|refine qac ?_ (IsS122.ge HI1099.out))|exact HB.out)⟩
def slices_Clone_int_int.f (l0:List Int):Option (List Int):=if l0.length<17592186044416 then some l0 else none
set_option maxHeartbeats 8000000 in
set_option maxRecDepth 100000 in
theorem slices_Clone_int_int.calls (A0:Option Addr) (c0:Nat) (l0:List Int) (r:List Int) (w:World) (hr0:Kd.C (Kd.int .i64) w A0 l0.length l0) (hc0:l0.length≤c0) (h:slices_Clone_int_int.f l0=some r) :
  Calls Try.prog 121 #[.slice A0 l0.length c0] w fun e w'=>∃v0_:Value,e=.returned (v0_)∧Kd.R (Kd.int .i64) 3 w' w.heap.size (fun _=>True) v0_ r∧Below w.heap.size w w':=by
 unfold slices_Clone_int_int.f at h
 by_cases hl:l0.length<17592186044416
 ·rw[if_pos hl] at h
  injection h with h
  subst h
  have HL:=Aside0.mk hl
  have HR:=Aside0.mk hr0
  clear hl hr0
  cases A0 with
  |none=>
   have hl0:l0.length=0:=by
    rcases Nat.eq_zero_or_pos l0.length with h0|h0
    ·exact h0
    ·obtain⟨ad,h,_⟩:=HR.out.2.2 h0
     cases h
   obtain rfl:l0=[]:=List.eq_nil_of_length_eq_zero hl0
   clear hl0 HL HR
   have heq:=fun(W:World) (n_:Nat)=>Lib.run_eql_slice_nil (P:=Try.prog) W 55 3 none n_ c0 0 0 Try.underlying55
   go_enter Try.func121,Try.ntmps121
   go_wp2
   go_ret
   exact⟨_,rfl,Kd.R_nil _ _ _ _ _,Below.refl _ _⟩
  |some ad=>
   have heq:=fun W:World=>Lib.run_eql_slice_nil (P:=Try.prog) W 55 3 (some ad) l0.length c0 0 0 Try.underlying55
   go_enter Try.func121,Try.ntmps121
   go_wp2_with(first|((with_reducible refine qah (N:=5) rfl ?_);refine Kd.R_lit (Kd.int .i64) _ 3 (by rfl) (N:=5) (by rfl) (xs:=([]:List Int)) (inner:=[]) (ok:=fun _=>True) (okp:=fun _=>True) (by first|(go_simp;done)|(go_simp;rfl)) (Reps.none _ _) (fun _ hk=>hk) trivial (Below.refl _ _) (Nat.le_refl _) (by simp) ?_;intro v1 w1 ho1 hb hg_ hnew_;have HO1:=Aside0.mk ho1;have HB:=Aside0.mk hb;clear ho1 hb hg_ hnew_)|((with_reducible refine gate_builtin (b:=.append) (xs:=#[.tmp 5,.tmp 6]) rfl ?_);(try(refine qaq (by rfl) ?_;dsimp only));at_builtin;refine Kd.R_append_rows (Kd.int .i64) (w0:=w) w.heap.size rfl (.tmp 5) (.tmp 6) 55 3 (.int .i64 0) 8 rfl Try.underlying55 info3 rfl (by decide) (by omega) v1 [] l0 _ _ _ (fun _=>True) (fun _=>False) rfl rfl ?aO ?aR (fun _ _ h=>h) (fun _ h=>h.elim) ?aF ?aB ?aS ?aL ?_;(case aR=>exact Kd.C_below HR.out HB.out);(case aB=>exact HB.out);(case aF=>exact(fun _ _=>trivial));(case aO=>exact HO1.out);(case aS=>exact(below_size HB.out));(case aL=>have:=HL.out;simp only[List.length_nil];omega);intro v2 w2 ho2 hb2 hg2 hat2;have HO2:=Aside0.mk ho2;have HB2:=Aside0.mk hb2;clear ho2 hb2 hg2 hat2))
   go_ret
   exact⟨_,rfl,HO2.out,HB2.out⟩
 ·rw[if_neg hl] at h
  exact absurd h (by simp)
end Go.Proofs.Ytjccnaklodbbfaa.Print
