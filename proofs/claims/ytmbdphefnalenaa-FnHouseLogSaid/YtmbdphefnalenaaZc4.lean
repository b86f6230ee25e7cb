-- Written by squeeze.py: not trusted, Lean checks it.
import Derived.Test.YtmbdphefnalenaaZK
import Derived.Test.YtmbdphefnalenaaZc0
namespace Go.Proofs.Ytmbdphefnalenaa.Print
open Go.RowKit Go.Proofs.YtmbdphefnalenaaW.PrintWords Go.Proofs.YtmbdphefnalenaaW.PrintLast Go.Proofs.YtmbdphefnalenaaW.PrintMore
attribute [local go_sem] max2_int min2_int max_two min_two max_three min_three max_four min_four
set_option linter.unusedVariables false
set_option linter.unusedSimpArgs false
def spec_StockNew.f (a0:Int):Option (Int × (List (S49)) × Bool):=(spec_l6In.f a0 0 9).bind fun t386=>(if t386=true then(if 6≤17592186044416 then(some (a0,(List.replicate 6 z49),true)) else(none)) else(some (0,([]:List (S49)),false)))
set_option maxHeartbeats 8000000 in
set_option maxRecDepth 100000 in
theorem spec_StockNew.calls (a0:Int) (r1:Int) (r2:List (S49)) (r3:Bool) (w:World) (h:spec_StockNew.f a0=some (r1,r2,r3)) :
  Calls Try.prog 89 #[.int .i64 a0] w fun e w'=>∃v1_:Value,e=.returned (.tuple #[.agg #[.int .i64 r1,v1_],.bool r3])∧Kd.R k49 49 w' w.heap.size (fun _=>True) v1_ r2∧Below w.heap.size w w':=by
 have hu38:=Try.underlying38
 have HB:=Aside0.mk (Below.refl w.heap.size w)
 have H:((spec_l6In.f a0 0 9).bind fun t386=>(if t386=true then(if 6≤17592186044416 then(some (a0,(List.replicate 6 z49),true)) else(none)) else(some (0,([]:List (S49)),false))))=some (r1,r2,r3):=h
 clear h
 replace H:=Option.bind_eq_some_iff.mp H
 obtain⟨t386,A20,H⟩:=H
 replace H:(if t386=true then(if 6≤17592186044416 then(some (a0,(List.replicate 6 z49),true)) else(none)) else(some (0,([]:List (S49)),false)))=some (r1,r2,r3):=H
 have A2:=Aside0.mk A20
 clear A20
 by_cases c3:t386=true
 ·subst c3
  have H1:(if 6≤17592186044416 then(some (a0,(List.replicate 6 z49),true)) else(none))=some (r1,r2,r3):=by rw[if_pos rfl] at H;exact H
  clear H
  have H:=H1
  clear H1
  by_cases c4:6≤17592186044416
  ·rw[if_pos c4] at H
   have c4b0:=eq_true c4
   have c4b1:decide (6≤17592186044416)=true:=decide_eq_true c4
   clear c4
   obtain⟨y387,hy387⟩:∃y_:List (S49),y_=(List.replicate 6 z49):=⟨_,rfl⟩
   replace H:(some (a0,y387,true))=some (r1,r2,r3):=by first|(rw[hy387];with_reducible exact H)|(have H2_:=(Option.bind_some _ _).symm.trans H;rw[hy387];with_reducible exact H2_)|(have H2_:=(Option.bind_some _ _).symm.trans H;with_reducible exact H2_)|with_reducible exact H|(rw[hy387];exact H)|exact H
   have Ny387:=Aside0.mk hy387
   clear hy387
   simp only[Option.some.injEq,Prod.mk.injEq] at H
   obtain⟨rfl,rfl,rfl⟩:=H
   go_enter Try.func89,Try.ntmps89
   go_wp2_with(first|((with_reducible refine qae (N:=2) rfl ?_);refine zX (N:=2) (cs:=#[.int .i64 0,.slice none 0 0]) (t:=38) ?_;intro gb385 hg w5 hbox hb;have BK385:=Aside0.mk hbox;have GW385:=zH (w:=w) hg (za4 HB);have GE385:=GW385;replace HB:=Aside0.mk (qab (za4 HB) hb);clear hb hbox hg)|((with_reducible refine qac (f:=80) rfl ?_);refine zF (some 5) Try.func80 #[.int .i64 a0,.int .i64 0,.int .i64 9] ?_;(with_reducible refine(spec_l6In.calls a0 0 9 true _ A2.out).mono ?_);rintro e w' ⟨rfl,⟨nd,rfl⟩⟩;refine⟨_,rfl,?_⟩;(try(rw[drewN_self w5];generalize hq_:World.drewN w5 _=w5;replace BK385:Aside0 (w5.heap[gb385]?=some (.cells #[.int .i64 0,.slice none 0 0] 38 (0,0))):=⟨by rw[←hq_];exact(zB BK385)⟩;replace HB:Aside0 (Below w.heap.size w w5):=⟨by rw[←hq_];exact(za1 HB GE385)⟩;clear hq_;have hczugb385_0:w5.cell? ⟨gb385,0,none⟩=some _:=(blk_cell BK385.out 0).trans rfl;have hfzugb385_0:=blk_frozen BK385.out 0;have hczugb385_1:w5.cell? ⟨gb385,1,none⟩=some _:=(blk_cell BK385.out 1).trans rfl;have hfzugb385_1:=blk_frozen BK385.out 1)))|((with_reducible refine qae (N:=9) rfl ?_);refine Kd.R_make k49 _ 49 rfl (N:=9) rfl 36 _ _ rfl 6 rfl rfl Try.underlying36 (.agg #[(.int .i64 0),(.int .i64 0)]) 16 info49 rfl (by decide) (by omega) z49 (ok:=fun _=>True) (okp:=fun _=>True) (k49_mkM _ _ _ z49 ) (fun _ hk=>hk) trivial (by omega) (by omega) (Below.refl _ _) (Nat.le_refl _) ?_;intro v388 w6 ho7 hb hg_ hnew_;clear hg_ hnew_;(first|rw[←Ny387.out] at ho7|(simp only[Int.reduceToNat] at ho7;rw[←Ny387.out] at ho7));have HO389:=Aside0.mk (Kd.R_lower ho7 (below_size (za1 HB GE385)));replace BK385:=Aside0.mk (qaa (zB BK385) hb);replace HB:=Aside0.mk (qab (za1 HB GE385) hb);clear hb ho7;obtain⟨Ao8,co8,eo8⟩:=Kd.R_slice HO389.out;subst eo8;obtain⟨hcz9_0,hcz9_1,hfz9_0,hfz9_1⟩:=zC2 BK385))
   refine bodyPost_ret (results_ct rfl _ _ gb385 38 #[.int .i64 a0,.slice Ao8 y387.length co8] (0,0) _ rfl (by(with_reducible repeat(first|refine blk_drewN ?_ _|refine blk_drew ?_|refine blk_alloc ?_ _));refine qad (cs:=#[.int .i64 a0,.slice none 0 0]) ?_ 1 _ rfl;(with_reducible repeat(first|refine blk_drewN ?_ _|refine blk_drew ?_|refine blk_alloc ?_ _));refine qad (cs:=#[.int .i64 0,.slice none 0 0]) ?_ 0 _ rfl;(with_reducible repeat(first|refine blk_drewN ?_ _|refine blk_drew ?_|refine blk_alloc ?_ _));exact BK385.out) Try.underlying38 rfl (by kernel_rfl)) rfl ?_
   exact⟨_,za16,by(with_reducible repeat(first|apply Kd.R_alloc|apply Kd.R_drewN|apply Kd.R_drew));exact Kd.R_mono (Kd.R_far (p:=⟨gb385,1,none⟩) (Kd.R_far (p:=⟨gb385,0,none⟩) (Kd.R_types HO389.out BK385.out (by decide)) (fun _ hk=>hk.2) (.int .i64 a0)) (fun _ hk=>hk.2) (.slice Ao8 y387.length co8)) (fun _ hk=>trivial),za1 HB GE385⟩
  ·rw[if_neg c4] at H
   exact absurd H (by simp)
 ·replace c3:=Bool.eq_false_iff.mpr c3
  subst c3
  have H1:(some (0,([]:List (S49)),false))=some (r1,r2,r3):=by rw[if_neg (show ¬(false=true) by decide)] at H;exact H
  clear H
  have H:=H1
  clear H1
  simp only[Option.some.injEq,Prod.mk.injEq] at H
  obtain⟨rfl,rfl,rfl⟩:=H
  go_enter Try.func89,Try.ntmps89
  go_wp2_with(first|((with_reducible refine qae (N:=2) rfl ?_);refine zX (N:=2) (cs:=#[.int .i64 0,.slice none 0 0]) (t:=38) ?_;intro gb385 hg w10 hbox hb;have BK385:=Aside0.mk hbox;have GW385:=zH (w:=w) hg (za4 HB);have GE385:=GW385;replace HB:=Aside0.mk (qab (za4 HB) hb);clear hb hbox hg)|((with_reducible refine qac (f:=80) rfl ?_);refine zF (some 5) Try.func80 #[.int .i64 a0,.int .i64 0,.int .i64 9] ?_;(with_reducible refine(spec_l6In.calls a0 0 9 false _ A2.out).mono ?_);rintro e w' ⟨rfl,⟨nd,rfl⟩⟩;refine⟨_,rfl,?_⟩;(try(rw[drewN_self w10];generalize hq_:World.drewN w10 _=w10;replace BK385:Aside0 (w10.heap[gb385]?=some (.cells #[.int .i64 0,.slice none 0 0] 38 (0,0))):=⟨by rw[←hq_];exact(zB BK385)⟩;replace HB:Aside0 (Below w.heap.size w w10):=⟨by rw[←hq_];exact(za1 HB GE385)⟩;clear hq_;have hczugb385_0:w10.cell? ⟨gb385,0,none⟩=some _:=(blk_cell BK385.out 0).trans rfl;have hfzugb385_0:=blk_frozen BK385.out 0;have hczugb385_1:w10.cell? ⟨gb385,1,none⟩=some _:=(blk_cell BK385.out 1).trans rfl;have hfzugb385_1:=blk_frozen BK385.out 1));obtain⟨hcz11_0,hcz11_1,hfz11_0,hfz11_1⟩:=zC2 BK385))
  refine bodyPost_ret (results_ct rfl _ _ gb385 38 #[.int .i64 0,.slice none 0 0] (0,0) _ rfl (by(with_reducible repeat(first|refine blk_drewN ?_ _|refine blk_drew ?_|refine blk_alloc ?_ _));refine qad (cs:=#[.int .i64 0,.slice none 0 0]) ?_ 1 _ rfl;(with_reducible repeat(first|refine blk_drewN ?_ _|refine blk_drew ?_|refine blk_alloc ?_ _));refine qad (cs:=#[.int .i64 0,.slice none 0 0]) ?_ 0 _ rfl;(with_reducible repeat(first|refine blk_drewN ?_ _|refine blk_drew ?_|refine blk_alloc ?_ _));exact BK385.out) Try.underlying38 rfl (by kernel_rfl)) rfl ?_
  exact⟨_,za16,za59,za1 HB GE385⟩
end Go.Proofs.Ytmbdphefnalenaa.Print
