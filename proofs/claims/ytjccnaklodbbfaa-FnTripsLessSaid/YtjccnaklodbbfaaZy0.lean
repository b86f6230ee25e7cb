-- Written by squeeze.py: not trusted, Lean checks it.
import Derived.Test.YtjccnaklodbbfaaZK
import Derived.Test.YtjccnaklodbbfaaZf0
import Derived.Test.YtjccnaklodbbfaaZf1
import Derived.Test.YtjccnaklodbbfaaZs0
import Derived.Test.YtjccnaklodbbfaaZx0
namespace Go.Proofs.Ytjccnaklodbbfaa.Print
open Go.RowKit Go.Proofs.YtjccnaklodbbfaaW.PrintWords Go.Proofs.YtjccnaklodbbfaaW.PrintLast Go.Proofs.YtjccnaklodbbfaaW.PrintMore
attribute [local go_sem] max2_int min2_int max_two min_two max_three min_three max_four min_four
set_option linter.unusedVariables false
set_option linter.unusedSimpArgs false
def spec_DrawTripsOk.f (k:Nat) (l0:List Int):Option ((List (S73))):=(spec_l6Open.f l0).bind fun bt896=>((spec_l71TripList.f k bt896.1 bt896.2).bind fun bt899=>((spec_l6Rd_pick.f k bt896.1 bt899.2 4).bind fun bt903=>(if bt903.1=0 then((spec_l71ManyV.f k bt896.1 bt903.2).bind fun bt905=>((spec_l6Rd_pick.f k bt896.1 bt905.2 8).bind fun bt909=>(if bt899.1.length<4398046511104 then(some (bt899.1++[(⟨bt905.1,bt909.1⟩:S73)])) else(none)))) else(some bt899.1))))
theorem spec_DrawTripsOk.mono:∀a0 k,LeO (spec_DrawTripsOk.f k a0) (spec_DrawTripsOk.f (k+1) a0):=by
 intro a0 k
 unfold spec_DrawTripsOk.f
 repeat' first
   |(with_reducible exact spec_l6Rd_pick.mono _ _ _ _)
   |(with_reducible exact spec_l71ManyV.mono _ _ _)
   |(with_reducible exact spec_l71TripList.mono _ _ _)
   |(with_reducible exact LeO.refl _)
   |(with_reducible exact LeO.none _)
   |(with_reducible refine LeO.ite ?_ ?_)
   |(with_reducible refine LeO.bind ?_ (fun _=>?_))
   |exact spec_l6Rd_pick.mono _ _ _ _
   |exact spec_l71ManyV.mono _ _ _
   |exact spec_l71TripList.mono _ _ _
   |exact LeO.none _
   |refine LeO.ite ?_ ?_
   |refine LeO.bind ?_ (fun _=>?_)
set_option maxHeartbeats 8000000 in
set_option maxRecDepth 100000 in
theorem spec_DrawTripsOk.calls (k:Nat) (A0:Option Addr) (c0:Nat) (l0:List Int) (r:List (S73)) (w:World) (hr0:Kd.C (Kd.int .u8) w A0 l0.length l0) (hc0:l0.length≤c0) (h:spec_DrawTripsOk.f k l0=some r) :
  Calls Try.prog 45 #[.slice A0 l0.length c0] w fun e w'=>∃v0_:Value,e=.returned (v0_)∧Kd.N k73 73 w' w.heap.size (fun k_=>(w.heap.size≤k_)) v0_ r∧Below w.heap.size w w':=by
 have hu73:=Try.underlying73
 have HR0:=Aside0.mk hr0
 have HC0:=Aside0.mk hc0
 clear hr0 hc0
 have HB:=Aside0.mk (Below.refl w.heap.size w)
 have H:((spec_l6Open.f l0).bind fun bt896=>((spec_l71TripList.f k bt896.1 bt896.2).bind fun bt899=>((spec_l6Rd_pick.f k bt896.1 bt899.2 4).bind fun bt903=>(if bt903.1=0 then((spec_l71ManyV.f k bt896.1 bt903.2).bind fun bt905=>((spec_l6Rd_pick.f k bt896.1 bt905.2 8).bind fun bt909=>(if bt899.1.length<4398046511104 then(some (bt899.1++[(⟨bt905.1,bt909.1⟩:S73)])) else(none)))) else(some bt899.1)))))=some r:=h
 clear h
 replace H:=Option.bind_eq_some_iff.mp H
 obtain⟨⟨t896,t897⟩,A20,H⟩:=H
 replace H:((spec_l71TripList.f k t896 t897).bind fun bt899=>((spec_l6Rd_pick.f k t896 bt899.2 4).bind fun bt903=>(if bt903.1=0 then((spec_l71ManyV.f k t896 bt903.2).bind fun bt905=>((spec_l6Rd_pick.f k t896 bt905.2 8).bind fun bt909=>(if bt899.1.length<4398046511104 then(some (bt899.1++[(⟨bt905.1,bt909.1⟩:S73)])) else(none)))) else(some bt899.1))))=some r:=H
 have A2:=Aside0.mk A20
 clear A20
 replace H:=Option.bind_eq_some_iff.mp H
 obtain⟨⟨t899,t902⟩,A30,H⟩:=H
 replace H:((spec_l6Rd_pick.f k t896 t902 4).bind fun bt903=>(if bt903.1=0 then((spec_l71ManyV.f k t896 bt903.2).bind fun bt905=>((spec_l6Rd_pick.f k t896 bt905.2 8).bind fun bt909=>(if t899.length<4398046511104 then(some (t899++[(⟨bt905.1,bt909.1⟩:S73)])) else(none)))) else(some t899)))=some r:=H
 have A3:=Aside0.mk A30
 clear A30
 replace H:=Option.bind_eq_some_iff.mp H
 obtain⟨⟨t903,t904⟩,A40,H⟩:=H
 replace H:(if t903=0 then((spec_l71ManyV.f k t896 t904).bind fun bt905=>((spec_l6Rd_pick.f k t896 bt905.2 8).bind fun bt909=>(if t899.length<4398046511104 then(some (t899++[(⟨bt905.1,bt909.1⟩:S73)])) else(none)))) else(some t899))=some r:=H
 have A4:=Aside0.mk A40
 clear A40
 by_cases c5:t903=0
 ·rw[if_pos c5] at H
  have c5b0:(t903 == 0)=true:=beq_iff_eq.mpr c5
  have c5b1:(t903 != 0)=false:=bne_eq_false_iff_eq.mpr c5
  clear c5
  replace H:=Option.bind_eq_some_iff.mp H
  obtain⟨⟨t905,t908⟩,A60,H⟩:=H
  replace H:((spec_l6Rd_pick.f k t896 t908 8).bind fun bt909=>(if t899.length<4398046511104 then(some (t899++[(⟨t905,bt909.1⟩:S73)])) else(none)))=some r:=H
  have A6:=Aside0.mk A60
  clear A60
  replace H:=Option.bind_eq_some_iff.mp H
  obtain⟨⟨t909,t910⟩,A70,H⟩:=H
  replace H:(if t899.length<4398046511104 then(some (t899++[(⟨t905,t909⟩:S73)])) else(none))=some r:=H
  have A7:=Aside0.mk A70
  clear A70
  by_cases c8:t899.length<4398046511104
  ·rw[if_pos c8] at H
   have LMc8:=Aside0.mk c8
   clear c8
   obtain⟨y911,hy911⟩:∃y_:List (S73),y_=(t899++[(⟨t905,t909⟩:S73)]):=⟨_,rfl⟩
   replace H:(some y911)=some r:=by first|(rw[hy911];with_reducible exact H)|(have H2_:=(Option.bind_some _ _).symm.trans H;rw[hy911];with_reducible exact H2_)|(have H2_:=(Option.bind_some _ _).symm.trans H;with_reducible exact H2_)|with_reducible exact H|(rw[hy911];exact H)|exact H
   have Ny911:=Aside0.mk hy911
   clear hy911
   obtain rfl:=Option.some.inj H
   go_enter Try.func45,Try.ntmps45
   go_wp2_with(first|((with_reducible refine qaf (f:=64) rfl ?_);refine zF (some 6) Try.func64 #[.slice A0 l0.length c0] ?_;(with_reducible refine(spec_l6Open.calls _ _ l0 t896 t897 w _ ?side1 ?side2 ?side3 A2.out).mono ?_);(case side1=>exact(za1 HB));(case side2=>exact HR0.out);(case side3=>exact HC0.out);rintro e w9 ⟨g898,rfl,hi,hb,hb2⟩;refine⟨_,rfl,?_⟩;replace HB:=Aside0.mk hb;have HI898:=Aside0.mk hi;(try clear hb);(try clear hb2);(try clear hi))|((with_reducible refine qaf (f:=87) rfl ?_);refine zF (some 8) Try.func87 #[.pointer (some ⟨g898,0,none⟩)] ?_;(with_reducible refine(spec_l71TripList.calls k g898 t896 t897 t899 t902 w _ ?side1 ?side2 A3.out).mono ?_);(case side1=>repeat(first|(with_reducible first|exact HI898.out|apply IsS122.alloc|apply IsS122.drewN|apply IsS122.drew|apply IsS122.set_1)|exact HI898.out));(case side2=>exact(by repeat(first|(with_reducible first|exact HB.out|apply qag|apply qad|apply qae|refine qac ?_ (IsS122.ge HI898.out))|exact HB.out)));rintro e w10 ⟨v900,rfl,ho0,hi,hb,hk⟩;refine⟨_,rfl,?_⟩;have HO901:=Aside0.mk (Kd.N_lower (Kd.N_mono (ok':=fun k_=>(w.heap.size≤k_)∧k_≠g898) ho0 (fun k_ hk_=>⟨(Nat.le_trans (below_size (by repeat(first|(with_reducible first|exact HB.out|apply qag|apply qad|apply qae|refine qac ?_ (IsS122.ge HI898.out))|exact HB.out))) hk_),(IsS122.fresh (by repeat(first|(with_reducible first|exact HI898.out|apply IsS122.alloc|apply IsS122.drewN|apply IsS122.drew|apply IsS122.set_1)|exact HI898.out)) k_ hk_)⟩)) (below_size (by repeat(first|(with_reducible first|exact HB.out|apply qag|apply qad|apply qae|refine qac ?_ (IsS122.ge HI898.out))|exact HB.out))));replace HB:=Aside0.mk hb;replace HI898:=Aside0.mk hi;(try clear hb);(try clear hk);(try clear hi);(try clear ho0))|((with_reducible refine qaf (f:=65) rfl ?_);refine zF (some 10) Try.func65 #[.pointer (some ⟨g898,0,none⟩),.int .i64 4] ?_;(with_reducible refine(spec_l6Rd_pick.calls k g898 t896 t902 4 t903 t904 w _ ?side1 ?side2 A4.out).mono ?_);(case side1=>repeat(first|(with_reducible first|exact HI898.out|apply IsS122.alloc|apply IsS122.drewN|apply IsS122.drew|apply IsS122.set_1)|exact HI898.out));(case side2=>exact(by repeat(first|(with_reducible first|exact HB.out|apply qag|apply qad|apply qae|refine qac ?_ (IsS122.ge HI898.out))|exact HB.out)));rintro e w11 ⟨rfl,hi,hb,hk⟩;refine⟨_,rfl,?_⟩;replace HO901:=Aside0.mk (Kd.N_mono (Kd.N_keep (Kd.N_mono (ok:=fun k_=>(((w.heap.size≤k_))∧k_≠g898)) (za11 HO901) (fun k_ hk_=>(⟨hk_,hk_.2⟩:_∧k_≠g898))) hk (fun _ h=>h.2)) (fun _ h=>h.1));replace HB:=Aside0.mk hb;replace HI898:=Aside0.mk hi;(try clear hb);(try clear hk);(try clear hi))|((with_reducible refine qaf (f:=88) rfl ?_);refine zF (some 14) Try.func88 #[.pointer (some ⟨g898,0,none⟩)] ?_;(with_reducible refine(spec_l71ManyV.calls k g898 t896 t904 t905 t908 w _ ?side1 ?side2 A6.out).mono ?_);(case side1=>repeat(first|(with_reducible first|exact HI898.out|apply IsS122.alloc|apply IsS122.drewN|apply IsS122.drew|apply IsS122.set_1)|exact HI898.out));(case side2=>exact(by repeat(first|(with_reducible first|exact HB.out|apply qag|apply qad|apply qae|refine qac ?_ (IsS122.ge HI898.out))|exact HB.out)));rintro e w12 ⟨v906,rfl,ho0,hi,hb,hk⟩;refine⟨_,rfl,?_⟩;have HO907:=Aside0.mk (Kd.V_lower (Kd.V_mono (ok':=fun k_=>(w.heap.size≤k_)∧some k_≠(v900:Value).ownBlock∧k_≠g898) ho0 (fun k_ hk_=>⟨(Nat.le_trans (below_size (by repeat(first|(with_reducible first|exact HB.out|apply qag|apply qad|apply qae|refine qac ?_ (IsS122.ge HI898.out))|exact HB.out))) hk_),(Kd.fresh' (Kd.N_lt (za11 HO901)) k_ hk_),(IsS122.fresh (by repeat(first|(with_reducible first|exact HI898.out|apply IsS122.alloc|apply IsS122.drewN|apply IsS122.drew|apply IsS122.set_1)|exact HI898.out)) k_ hk_)⟩)) (below_size (by repeat(first|(with_reducible first|exact HB.out|apply qag|apply qad|apply qae|refine qac ?_ (IsS122.ge HI898.out))|exact HB.out))));replace HO901:=Aside0.mk (Kd.N_mono (Kd.N_keep (Kd.N_mono (ok:=fun k_=>(((w.heap.size≤k_))∧k_≠g898)) (za11 HO901) (fun k_ hk_=>(⟨hk_,hk_.2⟩:_∧k_≠g898))) hk (fun _ h=>h.2)) (fun _ h=>h.1));replace HB:=Aside0.mk hb;replace HI898:=Aside0.mk hi;(try clear hb);(try clear hk);(try clear hi);(try clear ho0))|((with_reducible refine qaf (f:=65) rfl ?_);refine zF (some 16) Try.func65 #[.pointer (some ⟨g898,0,none⟩),.int .i64 8] ?_;(with_reducible refine(spec_l6Rd_pick.calls k g898 t896 t908 8 t909 t910 w _ ?side1 ?side2 A7.out).mono ?_);(case side1=>repeat(first|(with_reducible first|exact HI898.out|apply IsS122.alloc|apply IsS122.drewN|apply IsS122.drew|apply IsS122.set_1)|exact HI898.out));(case side2=>exact(by repeat(first|(with_reducible first|exact HB.out|apply qag|apply qad|apply qae|refine qac ?_ (IsS122.ge HI898.out))|exact HB.out)));rintro e w13 ⟨rfl,hi,hb,hk⟩;refine⟨_,rfl,?_⟩;replace HO901:=Aside0.mk (Kd.N_mono (Kd.N_keep (Kd.N_mono (ok:=fun k_=>(((w.heap.size≤k_))∧k_≠g898)) (za11 HO901) (fun k_ hk_=>(⟨hk_,hk_.2⟩:_∧k_≠g898))) hk (fun _ h=>h.2)) (fun _ h=>h.1));replace HO907:=Aside0.mk (Kd.V_mono (Kd.V_keep (Kd.V_mono (ok:=fun k_=>(((w.heap.size≤k_))∧(some k_≠(v900:Value).ownBlock∧k_≠g898))) (za19 HO907) (fun k_ hk_=>(⟨hk_,hk_.2.2⟩:_∧k_≠g898))) hk (fun _ h=>h.2)) (fun _ h=>h.1));replace HB:=Aside0.mk hb;replace HI898:=Aside0.mk hi;(try clear hb);(try clear hk);(try clear hi);obtain⟨Ao14,co14,eo14⟩:=Kd.V_slice HO907.out;subst eo14)|((with_reducible refine gate_builtin (b:=.append) (xs:=#[.tmp 12,.tmp 18]) rfl ?_);at_builtin;refine Kd.N_append k73 (w0:=w) w.heap.size rfl (.tmp 12) (.tmp 18) 69 73 (.agg #[(.slice none 0 0),(.int .i64 0)]) 32 rfl Try.underlying69 info73 rfl (by decide) (by omega) v900 t899 (⟨t905,t909⟩:S73) [.slice Ao14 t905.length co14,.int .i64 t909] (fun k_=>(w.heap.size≤k_)∧k_≠g898) (fun k_=>((fun k_=>(w.heap.size≤k_)∧k_≠g898)) k_∧some k_≠(v900:Value).ownBlock) rfl rfl ?aP (fun _ hk=>hk) ?aF ?aO ?aB ?aS ?aL ?_;(case aP=>exact(k73_mkF _ _ (⟨t905,t909⟩:S73) (Kd.V_reads' (Kd.V_mono (ok':=(fun k_=>((fun k_=>(w.heap.size≤k_)∧k_≠g898)) k_∧some k_≠(v900:Value).ownBlock)) (HO907.out) (fun k_ hk=>⟨⟨hk.1,hk.2.2⟩,hk.2.1⟩))).2.1 (Kd.V_F (Kd.V_mono (ok':=(fun k_=>((fun k_=>(w.heap.size≤k_)∧k_≠g898)) k_∧some k_≠(v900:Value).ownBlock)) (HO907.out) (fun k_ hk=>⟨⟨hk.1,hk.2.2⟩,hk.2.1⟩)))));(case aB=>exact(by repeat(first|(with_reducible first|exact HB.out|apply qag|apply qad|apply qae|refine qac ?_ (IsS122.ge HI898.out))|exact HB.out)));(case aF=>exact(fun k_ hk=>⟨(Nat.le_trans (below_size (by repeat(first|(with_reducible first|exact HB.out|apply qag|apply qad|apply qae|refine qac ?_ (IsS122.ge HI898.out))|exact HB.out))) hk),IsS122.fresh (by repeat(first|(with_reducible first|exact HI898.out|apply IsS122.alloc|apply IsS122.drewN|apply IsS122.drew|apply IsS122.set_1)|exact HI898.out)) k_ hk⟩));(case aO=>exact(za11 HO901));(case aS=>exact(below_size (by repeat(first|(with_reducible first|exact HB.out|apply qag|apply qad|apply qae|refine qac ?_ (IsS122.ge HI898.out))|exact HB.out))));(case aL=>have:=LMc8.out;omega);intro v912 w15 ho hb hg hat;rw[←Ny911.out] at ho;replace HI898:=Aside0.mk (IsS122.grown (by repeat(first|(with_reducible first|exact HI898.out|apply IsS122.alloc|apply IsS122.drewN|apply IsS122.drew|apply IsS122.set_1)|exact HI898.out)) hg (IsS122.own_neN HI898.out HO901.out (by decide)));replace HO907:=Aside0.mk (Kd.V_afterv (ok:=(fun k_=>(w.heap.size≤k_)∧k_≠g898)) (by(with_reducible repeat(first|apply Kd.V_alloc|apply Kd.V_drewN|apply Kd.V_drew));exact Kd.V_mono HO907.out (fun _ hk=>⟨⟨hk.1,hk.2.2⟩,hk.2.1⟩)) hg hat);replace HB:=Aside0.mk hb;have HO913:=Aside0.mk ho;clear HO901;clear ho hb hg hat))
   go_ret
   exact⟨_,za9,by(with_reducible repeat(first|apply Kd.N_alloc|apply Kd.N_drewN|apply Kd.N_drew));exact Kd.N_mono HO913.out (fun _ hk=>hk.1),by repeat(first|(with_reducible first|exact HB.out|apply qag|apply qad|apply qae|refine qac ?_ (IsS122.ge HI898.out))|exact HB.out)⟩
  ·rw[if_neg c8] at H
   exact absurd H (by simp)
 ·rw[if_neg c5] at H
  have c5b0:(t903 == 0)=false:=beq_eq_false_iff_ne.mpr c5
  have c5b1:(t903 != 0)=true:=bne_iff_ne.mpr c5
  obtain rfl:=Option.some.inj H
  go_enter Try.func45,Try.ntmps45
  go_wp2_with(first|((with_reducible refine qaf (f:=64) rfl ?_);refine zF (some 6) Try.func64 #[.slice A0 l0.length c0] ?_;(with_reducible refine(spec_l6Open.calls _ _ l0 t896 t897 w _ ?side1 ?side2 ?side3 A2.out).mono ?_);(case side1=>exact(za1 HB));(case side2=>exact HR0.out);(case side3=>exact HC0.out);rintro e w16 ⟨g898,rfl,hi,hb,hb2⟩;refine⟨_,rfl,?_⟩;replace HB:=Aside0.mk hb;have HI898:=Aside0.mk hi;(try clear hb);(try clear hb2);(try clear hi))|((with_reducible refine qaf (f:=87) rfl ?_);refine zF (some 8) Try.func87 #[.pointer (some ⟨g898,0,none⟩)] ?_;(with_reducible refine(spec_l71TripList.calls k g898 t896 t897 t899 t902 w _ ?side1 ?side2 A3.out).mono ?_);(case side1=>repeat(first|(with_reducible first|exact HI898.out|apply IsS122.alloc|apply IsS122.drewN|apply IsS122.drew|apply IsS122.set_1)|exact HI898.out));(case side2=>exact(by repeat(first|(with_reducible first|exact HB.out|apply qag|apply qad|apply qae|refine qac ?_ (IsS122.ge HI898.out))|exact HB.out)));rintro e w17 ⟨v900,rfl,ho0,hi,hb,hk⟩;refine⟨_,rfl,?_⟩;have HO901:=Aside0.mk (Kd.N_lower (Kd.N_mono (ok':=fun k_=>(w.heap.size≤k_)∧k_≠g898) ho0 (fun k_ hk_=>⟨(Nat.le_trans (below_size (by repeat(first|(with_reducible first|exact HB.out|apply qag|apply qad|apply qae|refine qac ?_ (IsS122.ge HI898.out))|exact HB.out))) hk_),(IsS122.fresh (by repeat(first|(with_reducible first|exact HI898.out|apply IsS122.alloc|apply IsS122.drewN|apply IsS122.drew|apply IsS122.set_1)|exact HI898.out)) k_ hk_)⟩)) (below_size (by repeat(first|(with_reducible first|exact HB.out|apply qag|apply qad|apply qae|refine qac ?_ (IsS122.ge HI898.out))|exact HB.out))));replace HB:=Aside0.mk hb;replace HI898:=Aside0.mk hi;(try clear hb);(try clear hk);(try clear hi);(try clear ho0))|((with_reducible refine qaf (f:=65) rfl ?_);refine zF (some 10) Try.func65 #[.pointer (some ⟨g898,0,none⟩),.int .i64 4] ?_;(with_reducible refine(spec_l6Rd_pick.calls k g898 t896 t902 4 t903 t904 w _ ?side1 ?side2 A4.out).mono ?_);(case side1=>repeat(first|(with_reducible first|exact HI898.out|apply IsS122.alloc|apply IsS122.drewN|apply IsS122.drew|apply IsS122.set_1)|exact HI898.out));(case side2=>exact(by repeat(first|(with_reducible first|exact HB.out|apply qag|apply qad|apply qae|refine qac ?_ (IsS122.ge HI898.out))|exact HB.out)));rintro e w18 ⟨rfl,hi,hb,hk⟩;refine⟨_,rfl,?_⟩;replace HO901:=Aside0.mk (Kd.N_mono (Kd.N_keep (Kd.N_mono (ok:=fun k_=>(((w.heap.size≤k_))∧k_≠g898)) (za11 HO901) (fun k_ hk_=>(⟨hk_,hk_.2⟩:_∧k_≠g898))) hk (fun _ h=>h.2)) (fun _ h=>h.1));replace HB:=Aside0.mk hb;replace HI898:=Aside0.mk hi;(try clear hb);(try clear hk);(try clear hi)))
  go_ret
  exact⟨_,za9,by(with_reducible repeat(first|apply Kd.N_alloc|apply Kd.N_drewN|apply Kd.N_drew));exact Kd.N_mono HO901.out (fun _ hk=>hk.1),by repeat(first|(with_reducible first|exact HB.out|apply qag|apply qad|apply qae|refine qac ?_ (IsS122.ge HI898.out))|exact HB.out)⟩
end Go.Proofs.Ytjccnaklodbbfaa.Print
