-- Written by squeeze.py: not trusted, Lean checks it.
import Derived.Test.YtmbdphefnalenaaZK
import Derived.Test.YtmbdphefnalenaaZb0
import Derived.Test.YtmbdphefnalenaaZb2
import Derived.Test.YtmbdphefnalenaaZb5
namespace Go.Proofs.Ytmbdphefnalenaa.Print
open Go.RowKit Go.Proofs.YtmbdphefnalenaaW.PrintWords Go.Proofs.YtmbdphefnalenaaW.PrintLast Go.Proofs.YtmbdphefnalenaaW.PrintMore
attribute [local go_sem] max2_int min2_int max_two min_two max_three min_three max_four min_four
set_option linter.unusedVariables false
set_option linter.unusedSimpArgs false
theorem zb20_tockOf {p_ q0_ q1_ : Prop} (h0_ : Aside0 q0_) (h1_ : Aside0 q1_) (r_ : q0_ → q1_ → p_ := by intro h0_ h1_; repeat(first|(with_reducible first|exact h0_|apply below_alloc|apply qaq|apply qao|refine qak ?_ (IsS107.ge h1_))|exact h0_)) : p_ := r_ h0_.out h1_.out
theorem zb40_tockOf {p_ q0_ : Prop} (h0_ : Aside0 q0_) (r_ : q0_ → p_ := by intro h0_; repeat(first|(with_reducible first|exact h0_|apply IsS107.alloc|apply IsS107.drewN|apply IsS107.drew|apply IsS107.set_1)|exact h0_)) : p_ := r_ h0_.out
def spec_DrawStockOf.f (k:Nat) (l0:List Int):Option (Int × (List (S32))):=(spec_l6Open.f l0).bind fun bt434=>((spec_l71Recs.f k bt434.1 bt434.2).bind fun bt437=>((spec_l6Rd_pick.f k bt434.1 bt437.2.2 8).bind fun bt442=>(if bt442.1=0 then((spec_l71RecV.f k bt434.1 bt442.2).bind fun bt444=>(if bt437.2.1.length<3518437208883 then(some (bt437.1,(bt437.2.1++[(⟨bt444.1,bt444.2.1,bt444.2.2.1⟩:S32)]))) else(none))) else(if bt442.1=1 then((spec_l6Rd_pick.f k bt434.1 bt442.2 4).bind fun bt453=>(some (bt453.1,bt437.2.1))) else(some (bt437.1,bt437.2.1))))))
theorem spec_DrawStockOf.mono:∀a0 k,LeO (spec_DrawStockOf.f k a0) (spec_DrawStockOf.f (k+1) a0):=by
 intro a0 k
 unfold spec_DrawStockOf.f
 repeat' first
   |(with_reducible exact spec_l6Rd_pick.mono _ _ _ _)
   |(with_reducible exact spec_l71RecV.mono _ _ _)
   |(with_reducible exact spec_l71Recs.mono _ _ _)
   |(with_reducible exact LeO.refl _)
   |(with_reducible exact LeO.none _)
   |(with_reducible refine LeO.ite ?_ ?_)
   |(with_reducible refine LeO.bind ?_ (fun _=>?_))
   |exact spec_l6Rd_pick.mono _ _ _ _
   |exact spec_l71RecV.mono _ _ _
   |exact spec_l71Recs.mono _ _ _
   |exact LeO.none _
   |refine LeO.ite ?_ ?_
   |refine LeO.bind ?_ (fun _=>?_)
set_option maxHeartbeats 8000000 in
set_option maxRecDepth 100000 in
theorem spec_DrawStockOf.calls (k:Nat) (A0:Option Addr) (c0:Nat) (l0:List Int) (r1:Int) (r2:List (S32)) (w:World) (hr0:Kd.C (Kd.int .u8) w A0 l0.length l0) (hc0:l0.length≤c0) (h:spec_DrawStockOf.f k l0=some (r1,r2)) :
  Calls Try.prog 20 #[.slice A0 l0.length c0] w fun e w'=>∃v1_:Value,e=.returned (.tuple #[.int .i64 r1,v1_])∧Kd.N k32 32 w' w.heap.size (fun k_=>(w.heap.size≤k_)) v1_ r2∧Below w.heap.size w w':=by
 have HR0:=Aside0.mk hr0
 have HC0:=Aside0.mk hc0
 clear hr0 hc0
 have HB:=Aside0.mk (Below.refl w.heap.size w)
 have H:((spec_l6Open.f l0).bind fun bt434=>((spec_l71Recs.f k bt434.1 bt434.2).bind fun bt437=>((spec_l6Rd_pick.f k bt434.1 bt437.2.2 8).bind fun bt442=>(if bt442.1=0 then((spec_l71RecV.f k bt434.1 bt442.2).bind fun bt444=>(if bt437.2.1.length<3518437208883 then(some (bt437.1,(bt437.2.1++[(⟨bt444.1,bt444.2.1,bt444.2.2.1⟩:S32)]))) else(none))) else(if bt442.1=1 then((spec_l6Rd_pick.f k bt434.1 bt442.2 4).bind fun bt453=>(some (bt453.1,bt437.2.1))) else(some (bt437.1,bt437.2.1)))))))=some (r1,r2):=h
 clear h
 replace H:=Option.bind_eq_some_iff.mp H
 obtain⟨⟨t434,t435⟩,A20,H⟩:=H
 replace H:((spec_l71Recs.f k t434 t435).bind fun bt437=>((spec_l6Rd_pick.f k t434 bt437.2.2 8).bind fun bt442=>(if bt442.1=0 then((spec_l71RecV.f k t434 bt442.2).bind fun bt444=>(if bt437.2.1.length<3518437208883 then(some (bt437.1,(bt437.2.1++[(⟨bt444.1,bt444.2.1,bt444.2.2.1⟩:S32)]))) else(none))) else(if bt442.1=1 then((spec_l6Rd_pick.f k t434 bt442.2 4).bind fun bt453=>(some (bt453.1,bt437.2.1))) else(some (bt437.1,bt437.2.1))))))=some (r1,r2):=H
 have A2:=Aside0.mk A20
 clear A20
 replace H:=Option.bind_eq_some_iff.mp H
 obtain⟨⟨t437,t438,t441⟩,A30,H⟩:=H
 replace H:((spec_l6Rd_pick.f k t434 t441 8).bind fun bt442=>(if bt442.1=0 then((spec_l71RecV.f k t434 bt442.2).bind fun bt444=>(if t438.length<3518437208883 then(some (t437,(t438++[(⟨bt444.1,bt444.2.1,bt444.2.2.1⟩:S32)]))) else(none))) else(if bt442.1=1 then((spec_l6Rd_pick.f k t434 bt442.2 4).bind fun bt453=>(some (bt453.1,t438))) else(some (t437,t438)))))=some (r1,r2):=H
 have A3:=Aside0.mk A30
 clear A30
 replace H:=Option.bind_eq_some_iff.mp H
 obtain⟨⟨t442,t443⟩,A40,H⟩:=H
 replace H:(if t442=0 then((spec_l71RecV.f k t434 t443).bind fun bt444=>(if t438.length<3518437208883 then(some (t437,(t438++[(⟨bt444.1,bt444.2.1,bt444.2.2.1⟩:S32)]))) else(none))) else(if t442=1 then((spec_l6Rd_pick.f k t434 t443 4).bind fun bt453=>(some (bt453.1,t438))) else(some (t437,t438))))=some (r1,r2):=H
 have A4:=Aside0.mk A40
 clear A40
 by_cases c5:t442=0
 ·rw[if_pos c5] at H
  have c5b0:(t442 == 0)=true:=beq_iff_eq.mpr c5
  have c5b1:(t442 != 0)=false:=bne_eq_false_iff_eq.mpr c5
  clear c5
  replace H:=Option.bind_eq_some_iff.mp H
  obtain⟨⟨t444,t445,t446,t449⟩,A60,H⟩:=H
  replace H:(if t438.length<3518437208883 then(some (t437,(t438++[(⟨t444,t445,t446⟩:S32)]))) else(none))=some (r1,r2):=H
  have A6:=Aside0.mk A60
  clear A60
  by_cases c7:t438.length<3518437208883
  ·rw[if_pos c7] at H
   have LMc7:=Aside0.mk c7
   clear c7
   obtain⟨y450,hy450⟩:∃y_:List (S32),y_=(t438++[(⟨t444,t445,t446⟩:S32)]):=⟨_,rfl⟩
   replace H:(some (t437,y450))=some (r1,r2):=by first|(rw[hy450];with_reducible exact H)|(have H2_:=(Option.bind_some _ _).symm.trans H;rw[hy450];with_reducible exact H2_)|(have H2_:=(Option.bind_some _ _).symm.trans H;with_reducible exact H2_)|with_reducible exact H|(rw[hy450];exact H)|exact H
   have Ny450:=Aside0.mk hy450
   clear hy450
   simp only[Option.some.injEq,Prod.mk.injEq] at H
   obtain⟨rfl,rfl⟩:=H
   go_enter Try.func20,Try.ntmps20
   go_wp2_with(first|((with_reducible refine qac (f:=46) rfl ?_);refine zF (some 8) Try.func46 #[.slice A0 l0.length c0] ?_;(with_reducible refine(spec_l6Open.calls _ _ l0 t434 t435 w _ ?side1 ?side2 ?side3 A2.out).mono ?_);(case side1=>exact(za4 HB));(case side2=>exact HR0.out);(case side3=>exact HC0.out);rintro e w8 ⟨g436,rfl,hi,hb,hb2⟩;refine⟨_,rfl,?_⟩;replace HB:=Aside0.mk hb;have HI436:=Aside0.mk hi;(try clear hb);(try clear hb2);(try clear hi))|((with_reducible refine qac (f:=54) rfl ?_);refine zF (some 11) Try.func54 #[.pointer (some ⟨g436,0,none⟩)] ?_;(with_reducible refine(spec_l71Recs.calls k g436 t434 t435 t437 t438 t441 w _ ?side1 ?side2 A3.out).mono ?_);(case side1=>repeat(first|(with_reducible first|exact HI436.out|apply IsS107.alloc|apply IsS107.drewN|apply IsS107.drew|apply IsS107.set_1)|exact HI436.out));(case side2=>exact(zb20_tockOf HB HI436));rintro e w9 ⟨v439,rfl,ho0,hi,hb,hk⟩;refine⟨_,rfl,?_⟩;have HO440:=Aside0.mk (Kd.N_lower (Kd.N_mono (ok':=fun k_=>(w.heap.size≤k_)∧k_≠g436) (Kd.S_N (Kd.S_bound ho0)) (fun k_ hk_=>⟨(Nat.le_trans (below_size (zb20_tockOf HB HI436)) hk_.2.1),(IsS107.fresh (zb40_tockOf HI436) k_ hk_.2.1)⟩)) (below_size (zb20_tockOf HB HI436)));replace HB:=Aside0.mk hb;replace HI436:=Aside0.mk hi;(try clear hb);(try clear hk);(try clear hi);(try clear ho0))|((with_reducible refine qac (f:=48) rfl ?_);refine zF (some 15) Try.func48 #[.pointer (some ⟨g436,0,none⟩),.int .i64 8] ?_;(with_reducible refine(spec_l6Rd_pick.calls k g436 t434 t441 8 t442 t443 w _ ?side1 ?side2 A4.out).mono ?_);(case side1=>repeat(first|(with_reducible first|exact HI436.out|apply IsS107.alloc|apply IsS107.drewN|apply IsS107.drew|apply IsS107.set_1)|exact HI436.out));(case side2=>exact(zb20_tockOf HB HI436));rintro e w10 ⟨rfl,hi,hb,hk⟩;refine⟨_,rfl,?_⟩;replace HO440:=Aside0.mk (Kd.N_mono (Kd.N_keep (Kd.N_mono (ok:=fun k_=>(((w.heap.size≤k_))∧k_≠g436)) (za36 HO440) (fun k_ hk_=>(⟨hk_,hk_.2⟩:_∧k_≠g436))) hk (fun _ h=>h.2)) (fun _ h=>h.1));replace HB:=Aside0.mk hb;replace HI436:=Aside0.mk hi;(try clear hb);(try clear hk);(try clear hi))|((with_reducible refine qac (f:=49) rfl ?_);refine zF (some 20) Try.func49 #[.pointer (some ⟨g436,0,none⟩)] ?_;(with_reducible refine(spec_l71RecV.calls k g436 t434 t443 t444 t445 t446 t449 w _ ?side1 ?side2 A6.out).mono ?_);(case side1=>repeat(first|(with_reducible first|exact HI436.out|apply IsS107.alloc|apply IsS107.drewN|apply IsS107.drew|apply IsS107.set_1)|exact HI436.out));(case side2=>exact(zb20_tockOf HB HI436));rintro e w11 ⟨v447,rfl,ho0,hi,hb,hk⟩;refine⟨_,rfl,?_⟩;have HO448:=Aside0.mk (Kd.V_lower (Kd.V_mono (ok':=fun k_=>(w.heap.size≤k_)∧some k_≠(v439:Value).ownBlock∧k_≠g436) ho0 (fun k_ hk_=>⟨(Nat.le_trans (below_size (zb20_tockOf HB HI436)) hk_),(Kd.fresh' (Kd.N_lt (za36 HO440)) k_ hk_),(IsS107.fresh (zb40_tockOf HI436) k_ hk_)⟩)) (below_size (zb20_tockOf HB HI436)));replace HO440:=Aside0.mk (Kd.N_mono (Kd.N_keep (Kd.N_mono (ok:=fun k_=>(((w.heap.size≤k_))∧k_≠g436)) (za36 HO440) (fun k_ hk_=>(⟨hk_,hk_.2⟩:_∧k_≠g436))) hk (fun _ h=>h.2)) (fun _ h=>h.1));replace HB:=Aside0.mk hb;replace HI436:=Aside0.mk hi;(try clear hb);(try clear hk);(try clear hi);(try clear ho0);obtain⟨Ao13,co13,eo13⟩:=Kd.V_slice HO448.out;subst eo13)|((with_reducible refine gate_builtin (b:=.append) (xs:=#[.tmp 18,.tmp 21]) rfl ?_);at_builtin;refine Kd.N_append k32 (w0:=w) w.heap.size rfl (.tmp 18) (.tmp 21) 23 32 (.agg #[(.int .i64 0),(.int .i64 0),(.slice none 0 0)]) 40 rfl Try.underlying23 info32 rfl (by decide) (by omega) v439 t438 (⟨t444,t445,t446⟩:S32) [.int .i64 t444,.int .i64 t445,.slice Ao13 t446.length co13] (fun k_=>(w.heap.size≤k_)∧k_≠g436) (fun k_=>((fun k_=>(w.heap.size≤k_)∧k_≠g436)) k_∧some k_≠(v439:Value).ownBlock) rfl rfl ?aP (fun _ hk=>hk) ?aF ?aO ?aB ?aS ?aL ?_;(case aP=>exact(k32_mkF _ _ (⟨t444,t445,t446⟩:S32) (Kd.V_reads' (Kd.V_mono (ok':=(fun k_=>((fun k_=>(w.heap.size≤k_)∧k_≠g436)) k_∧some k_≠(v439:Value).ownBlock)) (HO448.out) (fun k_ hk=>⟨⟨hk.1,hk.2.2⟩,hk.2.1⟩))).2.1 (Kd.V_F (Kd.V_mono (ok':=(fun k_=>((fun k_=>(w.heap.size≤k_)∧k_≠g436)) k_∧some k_≠(v439:Value).ownBlock)) (HO448.out) (fun k_ hk=>⟨⟨hk.1,hk.2.2⟩,hk.2.1⟩)))));(case aB=>exact(zb20_tockOf HB HI436));(case aF=>exact(fun k_ hk=>⟨(Nat.le_trans (below_size (zb20_tockOf HB HI436)) hk),IsS107.fresh (zb40_tockOf HI436) k_ hk⟩));(case aO=>exact(za36 HO440));(case aS=>exact(below_size (zb20_tockOf HB HI436)));(case aL=>have:=LMc7.out;omega);intro v451 w12 ho hb hg hat;rw[←Ny450.out] at ho;replace HI436:=Aside0.mk (IsS107.grown (zb40_tockOf HI436) hg (IsS107.own_neN HI436.out HO440.out (by decide)));replace HO448:=Aside0.mk (Kd.V_afterv (ok:=(fun k_=>(w.heap.size≤k_)∧k_≠g436)) (by(with_reducible repeat(first|apply Kd.V_alloc|apply Kd.V_drewN|apply Kd.V_drew));exact Kd.V_mono HO448.out (fun _ hk=>⟨⟨hk.1,hk.2.2⟩,hk.2.1⟩)) hg hat);replace HB:=Aside0.mk hb;have HO452:=Aside0.mk ho;clear HO440;clear ho hb hg hat))
   go_ret2
   exact⟨_,za16,by(with_reducible repeat(first|apply Kd.N_alloc|apply Kd.N_drewN|apply Kd.N_drew));exact Kd.N_mono HO452.out (fun _ hk=>hk.1),zb20_tockOf HB HI436⟩
  ·rw[if_neg c7] at H
   exact absurd H (by simp)
 ·rw[if_neg c5] at H
  have c5b0:(t442 == 0)=false:=beq_eq_false_iff_ne.mpr c5
  have c5b1:(t442 != 0)=true:=bne_iff_ne.mpr c5
  by_cases c14:t442=1
  ·rw[if_pos c14] at H
   have c14b0:(t442 == 1)=true:=beq_iff_eq.mpr c14
   have c14b1:(t442 != 1)=false:=bne_eq_false_iff_eq.mpr c14
   clear c14
   replace H:=Option.bind_eq_some_iff.mp H
   obtain⟨⟨t453,t454⟩,A150,H⟩:=H
   replace H:(some (t453,t438))=some (r1,r2):=H
   have A15:=Aside0.mk A150
   clear A150
   simp only[Option.some.injEq,Prod.mk.injEq] at H
   obtain⟨rfl,rfl⟩:=H
   go_enter Try.func20,Try.ntmps20
   go_wp2_with(first|((with_reducible refine qac (f:=46) rfl ?_);refine zF (some 8) Try.func46 #[.slice A0 l0.length c0] ?_;(with_reducible refine(spec_l6Open.calls _ _ l0 t434 t435 w _ ?side1 ?side2 ?side3 A2.out).mono ?_);(case side1=>exact(za4 HB));(case side2=>exact HR0.out);(case side3=>exact HC0.out);rintro e w16 ⟨g436,rfl,hi,hb,hb2⟩;refine⟨_,rfl,?_⟩;replace HB:=Aside0.mk hb;have HI436:=Aside0.mk hi;(try clear hb);(try clear hb2);(try clear hi))|((with_reducible refine qac (f:=54) rfl ?_);refine zF (some 11) Try.func54 #[.pointer (some ⟨g436,0,none⟩)] ?_;(with_reducible refine(spec_l71Recs.calls k g436 t434 t435 t437 t438 t441 w _ ?side1 ?side2 A3.out).mono ?_);(case side1=>repeat(first|(with_reducible first|exact HI436.out|apply IsS107.alloc|apply IsS107.drewN|apply IsS107.drew|apply IsS107.set_1)|exact HI436.out));(case side2=>exact(zb20_tockOf HB HI436));rintro e w17 ⟨v439,rfl,ho0,hi,hb,hk⟩;refine⟨_,rfl,?_⟩;have HO440:=Aside0.mk (Kd.N_lower (Kd.N_mono (ok':=fun k_=>(w.heap.size≤k_)∧k_≠g436) (Kd.S_N (Kd.S_bound ho0)) (fun k_ hk_=>⟨(Nat.le_trans (below_size (zb20_tockOf HB HI436)) hk_.2.1),(IsS107.fresh (zb40_tockOf HI436) k_ hk_.2.1)⟩)) (below_size (zb20_tockOf HB HI436)));replace HB:=Aside0.mk hb;replace HI436:=Aside0.mk hi;(try clear hb);(try clear hk);(try clear hi);(try clear ho0))|((with_reducible refine qac (f:=48) rfl ?_);refine zF (some 15) Try.func48 #[.pointer (some ⟨g436,0,none⟩),.int .i64 8] ?_;(with_reducible refine(spec_l6Rd_pick.calls k g436 t434 t441 8 t442 t443 w _ ?side1 ?side2 A4.out).mono ?_);(case side1=>repeat(first|(with_reducible first|exact HI436.out|apply IsS107.alloc|apply IsS107.drewN|apply IsS107.drew|apply IsS107.set_1)|exact HI436.out));(case side2=>exact(zb20_tockOf HB HI436));rintro e w18 ⟨rfl,hi,hb,hk⟩;refine⟨_,rfl,?_⟩;replace HO440:=Aside0.mk (Kd.N_mono (Kd.N_keep (Kd.N_mono (ok:=fun k_=>(((w.heap.size≤k_))∧k_≠g436)) (za36 HO440) (fun k_ hk_=>(⟨hk_,hk_.2⟩:_∧k_≠g436))) hk (fun _ h=>h.2)) (fun _ h=>h.1));replace HB:=Aside0.mk hb;replace HI436:=Aside0.mk hi;(try clear hb);(try clear hk);(try clear hi))|((with_reducible refine qac (f:=48) rfl ?_);refine zF (some 26) Try.func48 #[.pointer (some ⟨g436,0,none⟩),.int .i64 4] ?_;(with_reducible refine(spec_l6Rd_pick.calls k g436 t434 t443 4 t453 t454 w _ ?side1 ?side2 A15.out).mono ?_);(case side1=>repeat(first|(with_reducible first|exact HI436.out|apply IsS107.alloc|apply IsS107.drewN|apply IsS107.drew|apply IsS107.set_1)|exact HI436.out));(case side2=>exact(zb20_tockOf HB HI436));rintro e w19 ⟨rfl,hi,hb,hk⟩;refine⟨_,rfl,?_⟩;replace HO440:=Aside0.mk (Kd.N_mono (Kd.N_keep (Kd.N_mono (ok:=fun k_=>(((w.heap.size≤k_))∧k_≠g436)) (za36 HO440) (fun k_ hk_=>(⟨hk_,hk_.2⟩:_∧k_≠g436))) hk (fun _ h=>h.2)) (fun _ h=>h.1));replace HB:=Aside0.mk hb;replace HI436:=Aside0.mk hi;(try clear hb);(try clear hk);(try clear hi)))
   go_ret2
   exact⟨_,za16,by(with_reducible repeat(first|apply Kd.N_alloc|apply Kd.N_drewN|apply Kd.N_drew));exact Kd.N_mono HO440.out (fun _ hk=>hk.1),zb20_tockOf HB HI436⟩
  ·rw[if_neg c14] at H
   have c14b0:(t442 == 1)=false:=beq_eq_false_iff_ne.mpr c14
   have c14b1:(t442 != 1)=true:=bne_iff_ne.mpr c14
   simp only[Option.some.injEq,Prod.mk.injEq] at H
   obtain⟨rfl,rfl⟩:=H
   go_enter Try.func20,Try.ntmps20
   go_wp2_with(first|((with_reducible refine qac (f:=46) rfl ?_);refine zF (some 8) Try.func46 #[.slice A0 l0.length c0] ?_;(with_reducible refine(spec_l6Open.calls _ _ l0 t434 t435 w _ ?side1 ?side2 ?side3 A2.out).mono ?_);(case side1=>exact(za4 HB));(case side2=>exact HR0.out);(case side3=>exact HC0.out);rintro e w20 ⟨g436,rfl,hi,hb,hb2⟩;refine⟨_,rfl,?_⟩;replace HB:=Aside0.mk hb;have HI436:=Aside0.mk hi;(try clear hb);(try clear hb2);(try clear hi))|((with_reducible refine qac (f:=54) rfl ?_);refine zF (some 11) Try.func54 #[.pointer (some ⟨g436,0,none⟩)] ?_;(with_reducible refine(spec_l71Recs.calls k g436 t434 t435 t437 t438 t441 w _ ?side1 ?side2 A3.out).mono ?_);(case side1=>repeat(first|(with_reducible first|exact HI436.out|apply IsS107.alloc|apply IsS107.drewN|apply IsS107.drew|apply IsS107.set_1)|exact HI436.out));(case side2=>exact(zb20_tockOf HB HI436));rintro e w21 ⟨v439,rfl,ho0,hi,hb,hk⟩;refine⟨_,rfl,?_⟩;have HO440:=Aside0.mk (Kd.N_lower (Kd.N_mono (ok':=fun k_=>(w.heap.size≤k_)∧k_≠g436) (Kd.S_N (Kd.S_bound ho0)) (fun k_ hk_=>⟨(Nat.le_trans (below_size (zb20_tockOf HB HI436)) hk_.2.1),(IsS107.fresh (zb40_tockOf HI436) k_ hk_.2.1)⟩)) (below_size (zb20_tockOf HB HI436)));replace HB:=Aside0.mk hb;replace HI436:=Aside0.mk hi;(try clear hb);(try clear hk);(try clear hi);(try clear ho0))|((with_reducible refine qac (f:=48) rfl ?_);refine zF (some 15) Try.func48 #[.pointer (some ⟨g436,0,none⟩),.int .i64 8] ?_;(with_reducible refine(spec_l6Rd_pick.calls k g436 t434 t441 8 t442 t443 w _ ?side1 ?side2 A4.out).mono ?_);(case side1=>repeat(first|(with_reducible first|exact HI436.out|apply IsS107.alloc|apply IsS107.drewN|apply IsS107.drew|apply IsS107.set_1)|exact HI436.out));(case side2=>exact(zb20_tockOf HB HI436));rintro e w22 ⟨rfl,hi,hb,hk⟩;refine⟨_,rfl,?_⟩;replace HO440:=Aside0.mk (Kd.N_mono (Kd.N_keep (Kd.N_mono (ok:=fun k_=>(((w.heap.size≤k_))∧k_≠g436)) (za36 HO440) (fun k_ hk_=>(⟨hk_,hk_.2⟩:_∧k_≠g436))) hk (fun _ h=>h.2)) (fun _ h=>h.1));replace HB:=Aside0.mk hb;replace HI436:=Aside0.mk hi;(try clear hb);(try clear hk);(try clear hi)))
   go_ret2
   exact⟨_,za16,by(with_reducible repeat(first|apply Kd.N_alloc|apply Kd.N_drewN|apply Kd.N_drew));exact Kd.N_mono HO440.out (fun _ hk=>hk.1),zb20_tockOf HB HI436⟩
end Go.Proofs.Ytmbdphefnalenaa.Print
