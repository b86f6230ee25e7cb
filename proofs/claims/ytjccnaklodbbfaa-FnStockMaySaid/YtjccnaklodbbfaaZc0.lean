-- Written by squeeze.py: not trusted, Lean checks it.
import Derived.Test.YtjccnaklodbbfaaZK
import Derived.Test.YtjccnaklodbbfaaZb0
import Derived.Test.YtjccnaklodbbfaaZh0
namespace Go.Proofs.Ytjccnaklodbbfaa.Print
open Go.RowKit Go.Proofs.YtjccnaklodbbfaaW.PrintWords Go.Proofs.YtjccnaklodbbfaaW.PrintLast Go.Proofs.YtjccnaklodbbfaaW.PrintMore
attribute [local go_sem] max2_int min2_int max_two min_two max_three min_three max_four min_four
set_option linter.unusedVariables false
set_option linter.unusedSimpArgs false
def spec_StockNew.f (a0:Int):Option (Int × (List (S46)) × Bool):=(spec_l6In.f a0 0 9).bind fun t102=>(if t102=true then(if 6≤17592186044416 then(some (a0,(List.replicate 6 z46),true)) else(none)) else(some (0,([]:List (S46)),false)))
set_option maxHeartbeats 8000000 in
set_option maxRecDepth 100000 in
theorem spec_StockNew.calls (a0:Int) (r1:Int) (r2:List (S46)) (r3:Bool) (w:World) (h:spec_StockNew.f a0=some (r1,r2,r3)) :
  Calls Try.prog 21 #[.int .i64 a0] w fun e w'=>∃v1_:Value,e=.returned (.tuple #[.agg #[.int .i64 r1,v1_],.bool r3])∧Kd.R k46 46 w' w.heap.size (fun _=>True) v1_ r2∧Below w.heap.size w w':=by
 have hu36:=Try.underlying36
 have HB:=Aside0.mk (Below.refl w.heap.size w)
 have H:((spec_l6In.f a0 0 9).bind fun t102=>(if t102=true then(if 6≤17592186044416 then(some (a0,(List.replicate 6 z46),true)) else(none)) else(some (0,([]:List (S46)),false))))=some (r1,r2,r3):=h
 clear h
 replace H:=Option.bind_eq_some_iff.mp H
 obtain⟨t102,A20,H⟩:=H
 replace H:(if t102=true then(if 6≤17592186044416 then(some (a0,(List.replicate 6 z46),true)) else(none)) else(some (0,([]:List (S46)),false)))=some (r1,r2,r3):=H
 have A2:=Aside0.mk A20
 clear A20
 by_cases c3:t102=true
 ·subst c3
  have H1:(if 6≤17592186044416 then(some (a0,(List.replicate 6 z46),true)) else(none))=some (r1,r2,r3):=by rw[if_pos rfl] at H;exact H
  clear H
  have H:=H1
  clear H1
  by_cases c4:6≤17592186044416
  ·rw[if_pos c4] at H
   have c4b0:=eq_true c4
   have c4b1:decide (6≤17592186044416)=true:=decide_eq_true c4
   clear c4
   obtain⟨y103,hy103⟩:∃y_:List (S46),y_=(List.replicate 6 z46):=⟨_,rfl⟩
   replace H:(some (a0,y103,true))=some (r1,r2,r3):=by first|(rw[hy103];with_reducible exact H)|(have H2_:=(Option.bind_some _ _).symm.trans H;rw[hy103];with_reducible exact H2_)|(have H2_:=(Option.bind_some _ _).symm.trans H;with_reducible exact H2_)|with_reducible exact H|(rw[hy103];exact H)|exact H
   have Ny103:=Aside0.mk hy103
   clear hy103
   simp only[Option.some.injEq,Prod.mk.injEq] at H
   obtain⟨rfl,rfl,rfl⟩:=H
   go_enter Try.func21,Try.ntmps21
   go_wp2_with(first|((with_reducible refine qah (N:=2) rfl ?_);refine zX (N:=2) (cs:=#[.int .i64 0,.slice none 0 0]) (t:=36) ?_;intro gb101 hg w5 hbox hb;have BK101:=Aside0.mk hbox;have GW101:=zH (w:=w) hg (za1 HB);have GE101:=GW101;replace HB:=Aside0.mk (qab (za1 HB) hb);clear hb hbox hg)|((with_reducible refine qaf (f:=58) rfl ?_);refine zF (some 5) Try.func58 #[.int .i64 a0,.int .i64 0,.int .i64 9] ?_;(with_reducible refine(spec_l6In.calls a0 0 9 true _ A2.out).mono ?_);rintro e w' ⟨rfl,⟨nd,rfl⟩⟩;refine⟨_,rfl,?_⟩;(try(rw[drewN_self w5];generalize hq_:World.drewN w5 _=w5;replace BK101:Aside0 (w5.heap[gb101]?=some (.cells #[.int .i64 0,.slice none 0 0] 36 (0,0))):=⟨by rw[←hq_];exact(zB BK101)⟩;replace HB:Aside0 (Below w.heap.size w w5):=⟨by rw[←hq_];exact(za0 HB GE101)⟩;clear hq_;have hczugb101_0:w5.cell? ⟨gb101,0,none⟩=some _:=(blk_cell BK101.out 0).trans rfl;have hfzugb101_0:=blk_frozen BK101.out 0;have hczugb101_1:w5.cell? ⟨gb101,1,none⟩=some _:=(blk_cell BK101.out 1).trans rfl;have hfzugb101_1:=blk_frozen BK101.out 1)))|((with_reducible refine qah (N:=9) rfl ?_);refine Kd.R_make k46 _ 46 rfl (N:=9) rfl 34 _ _ rfl 6 rfl rfl Try.underlying34 (.agg #[(.int .i64 0),(.int .i64 0)]) 16 info46 rfl (by decide) (by omega) z46 (ok:=fun _=>True) (okp:=fun _=>True) (k46_mkM _ _ _ z46 ) (fun _ hk=>hk) trivial (by omega) (by omega) (Below.refl _ _) (Nat.le_refl _) ?_;intro v104 w6 ho7 hb hg_ hnew_;clear hg_ hnew_;(first|rw[←Ny103.out] at ho7|(simp only[Int.reduceToNat] at ho7;rw[←Ny103.out] at ho7));have HO105:=Aside0.mk (Kd.R_lower ho7 (below_size (za0 HB GE101)));replace BK101:=Aside0.mk (qaa (zB BK101) hb);replace HB:=Aside0.mk (qab (za0 HB GE101) hb);clear hb ho7;obtain⟨Ao8,co8,eo8⟩:=Kd.R_slice HO105.out;subst eo8;obtain⟨hcz9_0,hcz9_1,hfz9_0,hfz9_1⟩:=zC2 BK101))
   refine bodyPost_ret (results_ct rfl _ _ gb101 36 #[.int .i64 a0,.slice Ao8 y103.length co8] (0,0) _ rfl (by(with_reducible repeat(first|refine blk_drewN ?_ _|refine blk_drew ?_|refine blk_alloc ?_ _));refine qai (cs:=#[.int .i64 a0,.slice none 0 0]) ?_ 1 _ rfl;(with_reducible repeat(first|refine blk_drewN ?_ _|refine blk_drew ?_|refine blk_alloc ?_ _));refine qai (cs:=#[.int .i64 0,.slice none 0 0]) ?_ 0 _ rfl;(with_reducible repeat(first|refine blk_drewN ?_ _|refine blk_drew ?_|refine blk_alloc ?_ _));exact BK101.out) Try.underlying36 rfl (by kernel_rfl)) rfl ?_
   exact⟨_,za9,by(with_reducible repeat(first|apply Kd.R_alloc|apply Kd.R_drewN|apply Kd.R_drew));exact Kd.R_mono (Kd.R_far (p:=⟨gb101,1,none⟩) (Kd.R_far (p:=⟨gb101,0,none⟩) (Kd.R_types HO105.out BK101.out (by decide)) (fun _ hk=>hk.2) (.int .i64 a0)) (fun _ hk=>hk.2) (.slice Ao8 y103.length co8)) (fun _ hk=>trivial),za0 HB GE101⟩
  ·rw[if_neg c4] at H
   exact absurd H (by simp)
 ·replace c3:=Bool.eq_false_iff.mpr c3
  subst c3
  have H1:(some (0,([]:List (S46)),false))=some (r1,r2,r3):=by rw[if_neg (show ¬(false=true) by decide)] at H;exact H
  clear H
  have H:=H1
  clear H1
  simp only[Option.some.injEq,Prod.mk.injEq] at H
  obtain⟨rfl,rfl,rfl⟩:=H
  go_enter Try.func21,Try.ntmps21
  go_wp2_with(first|((with_reducible refine qah (N:=2) rfl ?_);refine zX (N:=2) (cs:=#[.int .i64 0,.slice none 0 0]) (t:=36) ?_;intro gb101 hg w10 hbox hb;have BK101:=Aside0.mk hbox;have GW101:=zH (w:=w) hg (za1 HB);have GE101:=GW101;replace HB:=Aside0.mk (qab (za1 HB) hb);clear hb hbox hg)|((with_reducible refine qaf (f:=58) rfl ?_);refine zF (some 5) Try.func58 #[.int .i64 a0,.int .i64 0,.int .i64 9] ?_;(with_reducible refine(spec_l6In.calls a0 0 9 false _ A2.out).mono ?_);rintro e w' ⟨rfl,⟨nd,rfl⟩⟩;refine⟨_,rfl,?_⟩;(try(rw[drewN_self w10];generalize hq_:World.drewN w10 _=w10;replace BK101:Aside0 (w10.heap[gb101]?=some (.cells #[.int .i64 0,.slice none 0 0] 36 (0,0))):=⟨by rw[←hq_];exact(zB BK101)⟩;replace HB:Aside0 (Below w.heap.size w w10):=⟨by rw[←hq_];exact(za0 HB GE101)⟩;clear hq_;have hczugb101_0:w10.cell? ⟨gb101,0,none⟩=some _:=(blk_cell BK101.out 0).trans rfl;have hfzugb101_0:=blk_frozen BK101.out 0;have hczugb101_1:w10.cell? ⟨gb101,1,none⟩=some _:=(blk_cell BK101.out 1).trans rfl;have hfzugb101_1:=blk_frozen BK101.out 1));obtain⟨hcz11_0,hcz11_1,hfz11_0,hfz11_1⟩:=zC2 BK101))
  refine bodyPost_ret (results_ct rfl _ _ gb101 36 #[.int .i64 0,.slice none 0 0] (0,0) _ rfl (by(with_reducible repeat(first|refine blk_drewN ?_ _|refine blk_drew ?_|refine blk_alloc ?_ _));refine qai (cs:=#[.int .i64 0,.slice none 0 0]) ?_ 1 _ rfl;(with_reducible repeat(first|refine blk_drewN ?_ _|refine blk_drew ?_|refine blk_alloc ?_ _));refine qai (cs:=#[.int .i64 0,.slice none 0 0]) ?_ 0 _ rfl;(with_reducible repeat(first|refine blk_drewN ?_ _|refine blk_drew ?_|refine blk_alloc ?_ _));exact BK101.out) Try.underlying36 rfl (by kernel_rfl)) rfl ?_
  exact⟨_,za9,za24,za0 HB GE101⟩
def impl_StockFree.f (k:Nat) (a0_0:Int) (l0_1:List (S46)):Option (Int):=(impl_StockOk.f k a0_0 l0_1).bind fun t241=>(if t241=true then((impl_Stock_free.f k a0_0 l0_1).bind fun t242=>(some t242)) else(some (-1)))
theorem impl_StockFree.mono:∀a0 a1 k,LeO (impl_StockFree.f k a0 a1) (impl_StockFree.f (k+1) a0 a1):=by
 intro a0 a1 k
 unfold impl_StockFree.f
 repeat' first
   |(with_reducible exact impl_StockOk.mono _ _ _)
   |(with_reducible exact impl_Stock_free.mono _ _ _)
   |(with_reducible exact LeO.refl _)
   |(with_reducible exact LeO.none _)
   |(with_reducible refine LeO.ite ?_ ?_)
   |(with_reducible refine LeO.bind ?_ (fun _=>?_))
   |exact impl_StockOk.mono _ _ _
   |exact impl_Stock_free.mono _ _ _
   |exact LeO.none _
   |refine LeO.ite ?_ ?_
   |refine LeO.bind ?_ (fun _=>?_)
set_option maxHeartbeats 8000000 in
set_option maxRecDepth 100000 in
theorem impl_StockFree.calls (k:Nat) (a0_0:Int) (A0_1:Option Addr) (c0_1:Nat) (l0_1:List (S46)) (r:Int) (w:World) (hr0_1:Kd.C k46 w A0_1 l0_1.length l0_1) (hc0_1:l0_1.length≤c0_1) (h:impl_StockFree.f k a0_0 l0_1=some r) :
  Calls Try.prog 26 #[.agg #[.int .i64 a0_0,.slice A0_1 l0_1.length c0_1]] w fun e w'=>e=.returned (.int .i64 r)∧Below w.heap.size w w':=by
 have hu36:=Try.underlying36
 have HR0_1:=Aside0.mk hr0_1
 have HC0_1:=Aside0.mk hc0_1
 clear hr0_1 hc0_1
 have HB:=Aside0.mk (Below.refl w.heap.size w)
 have H:((impl_StockOk.f k a0_0 l0_1).bind fun t241=>(if t241=true then((impl_Stock_free.f k a0_0 l0_1).bind fun t242=>(some t242)) else(some (-1))))=some r:=h
 clear h
 replace H:=Option.bind_eq_some_iff.mp H
 obtain⟨t241,A20,H⟩:=H
 replace H:(if t241=true then((impl_Stock_free.f k a0_0 l0_1).bind fun t242=>(some t242)) else(some (-1)))=some r:=H
 have A2:=Aside0.mk A20
 clear A20
 by_cases c3:t241=true
 ·subst c3
  have H1:((impl_Stock_free.f k a0_0 l0_1).bind fun t242=>(some t242))=some r:=by rw[if_pos rfl] at H;exact H
  clear H
  have H:=H1
  clear H1
  replace H:=Option.bind_eq_some_iff.mp H
  obtain⟨t242,A40,H⟩:=H
  replace H:(some t242)=some r:=H
  have A4:=Aside0.mk A40
  clear A40
  obtain rfl:=Option.some.inj H
  go_enter Try.func26,Try.ntmps26
  go_wp2_with(first|((with_reducible refine qah (N:=1) rfl ?_);refine zX (N:=1) (cs:=#[.int .i64 a0_0,.slice A0_1 l0_1.length c0_1]) (t:=36) ?_;intro gb240 hg w5 hbox hb;have BK240:=Aside0.mk hbox;have GW240:=zH (w:=w) hg (za1 HB);have GE240:=GW240;replace HB:=Aside0.mk (qab (za1 HB) hb);clear hb hbox hg;obtain⟨hcz6_0,hcz6_1,hfz6_0,hfz6_1⟩:=zC2 BK240)|((with_reducible refine qaf (f:=25) rfl ?_);refine zF (some 4) Try.func25 #[.agg #[.int .i64 a0_0,.slice A0_1 l0_1.length c0_1]] ?_;(with_reducible refine(impl_StockOk.calls k a0_0 _ _ l0_1 true _ ?side1 ?side2 A2.out).mono ?_);(case side1=>exact zR HR0_1 HB);(case side2=>exact HC0_1.out);rintro e w7 ⟨rfl,hb⟩;refine⟨_,rfl,?_⟩;replace BK240:=Aside0.mk (qaa (zB BK240) hb);replace HB:=Aside0.mk (qab (za0 HB GE240) hb);(try clear hb);obtain⟨hcz8_0,hcz8_1,hfz8_0,hfz8_1⟩:=zC2 BK240)|((with_reducible refine qaf (f:=70) rfl ?_);refine zF (some 7) Try.func70 #[.agg #[.int .i64 a0_0,.slice A0_1 l0_1.length c0_1]] ?_;(with_reducible refine(impl_Stock_free.calls k a0_0 _ _ l0_1 t242 _ ?side1 ?side2 A4.out).mono ?_);(case side1=>exact zR HR0_1 HB);(case side2=>exact HC0_1.out);rintro e w9 ⟨rfl,hb⟩;refine⟨_,rfl,?_⟩;replace BK240:=Aside0.mk (qaa (zB BK240) hb);replace HB:=Aside0.mk (qab (za0 HB GE240) hb);(try clear hb)))
  go_ret
  exact⟨za9,za0 HB GE240⟩
 ·replace c3:=Bool.eq_false_iff.mpr c3
  subst c3
  have H1:(some (-1))=some r:=by rw[if_neg (show ¬(false=true) by decide)] at H;exact H
  clear H
  have H:=H1
  clear H1
  obtain rfl:=Option.some.inj H
  go_enter Try.func26,Try.ntmps26
  go_wp2_with(first|((with_reducible refine qah (N:=1) rfl ?_);refine zX (N:=1) (cs:=#[.int .i64 a0_0,.slice A0_1 l0_1.length c0_1]) (t:=36) ?_;intro gb240 hg w10 hbox hb;have BK240:=Aside0.mk hbox;have GW240:=zH (w:=w) hg (za1 HB);have GE240:=GW240;replace HB:=Aside0.mk (qab (za1 HB) hb);clear hb hbox hg;obtain⟨hcz11_0,hcz11_1,hfz11_0,hfz11_1⟩:=zC2 BK240)|((with_reducible refine qaf (f:=25) rfl ?_);refine zF (some 4) Try.func25 #[.agg #[.int .i64 a0_0,.slice A0_1 l0_1.length c0_1]] ?_;(with_reducible refine(impl_StockOk.calls k a0_0 _ _ l0_1 false _ ?side1 ?side2 A2.out).mono ?_);(case side1=>exact zR HR0_1 HB);(case side2=>exact HC0_1.out);rintro e w12 ⟨rfl,hb⟩;refine⟨_,rfl,?_⟩;replace BK240:=Aside0.mk (qaa (zB BK240) hb);replace HB:=Aside0.mk (qab (za0 HB GE240) hb);(try clear hb)))
  go_ret
  exact⟨za9,za0 HB GE240⟩
end Go.Proofs.Ytjccnaklodbbfaa.Print
