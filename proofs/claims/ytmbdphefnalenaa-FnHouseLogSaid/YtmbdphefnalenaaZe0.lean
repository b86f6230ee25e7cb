-- Written by squeeze.py: not trusted, Lean checks it.
import Derived.Test.YtmbdphefnalenaaZK
import Derived.Test.YtmbdphefnalenaaZc5
namespace Go.Proofs.Ytmbdphefnalenaa.Print
open Go.RowKit Go.Proofs.YtmbdphefnalenaaW.PrintWords Go.Proofs.YtmbdphefnalenaaW.PrintLast Go.Proofs.YtmbdphefnalenaaW.PrintMore
attribute [local go_sem] max2_int min2_int max_two min_two max_three min_three max_four min_four
set_option linter.unusedVariables false
set_option linter.unusedSimpArgs false
def spec_StockOf.f (k:Nat) (a0:Int) (l1:List (S32)):Option (Int × (List (S49)) × Bool):=(spec_l2Of.f k a0 l1).bind fun bt472=>(some (bt472.1,bt472.2.1,bt472.2.2))
theorem spec_StockOf.mono:∀a0 a1 k,LeO (spec_StockOf.f k a0 a1) (spec_StockOf.f (k+1) a0 a1):=by
 intro a0 a1 k
 unfold spec_StockOf.f
 repeat' first
   |(with_reducible exact spec_l2Of.mono _ _ _)
   |(with_reducible exact LeO.refl _)
   |(with_reducible exact LeO.none _)
   |(with_reducible refine LeO.ite ?_ ?_)
   |(with_reducible refine LeO.bind ?_ (fun _=>?_))
   |exact spec_l2Of.mono _ _ _
   |exact LeO.none _
   |refine LeO.ite ?_ ?_
   |refine LeO.bind ?_ (fun _=>?_)
set_option maxHeartbeats 8000000 in
set_option maxRecDepth 100000 in
theorem spec_StockOf.calls (k:Nat) (a0:Int) (A1:Option Addr) (c1:Nat) (l1:List (S32)) (r1:Int) (r2:List (S49)) (r3:Bool) (w:World) (hr1:Kd.C k32 w A1 l1.length l1) (hc1:l1.length≤c1) (h:spec_StockOf.f k a0 l1=some (r1,r2,r3)) :
  Calls Try.prog 21 #[.int .i64 a0,.slice A1 l1.length c1] w fun e w'=>∃v1_:Value,e=.returned (.tuple #[.agg #[.int .i64 r1,v1_],.bool r3])∧Kd.R k49 49 w' w.heap.size (fun _=>True) v1_ r2∧Below w.heap.size w w':=by
 have hu38:=Try.underlying38
 have HR1:=Aside0.mk hr1
 have HC1:=Aside0.mk hc1
 clear hr1 hc1
 have HB:=Aside0.mk (Below.refl w.heap.size w)
 have H:((spec_l2Of.f k a0 l1).bind fun bt472=>(some (bt472.1,bt472.2.1,bt472.2.2)))=some (r1,r2,r3):=h
 clear h
 replace H:=Option.bind_eq_some_iff.mp H
 obtain⟨⟨t472,t473,t476⟩,A30,H⟩:=H
 replace H:(some (t472,t473,t476))=some (r1,r2,r3):=H
 have A3:=Aside0.mk A30
 clear A30
 simp only[Option.some.injEq,Prod.mk.injEq] at H
 obtain⟨rfl,rfl,rfl⟩:=H
 go_enter Try.func21,Try.ntmps21
 go_wp2_with(first|((with_reducible refine qae (N:=4) rfl ?_);refine zX (N:=4) (cs:=#[.int .i64 0,.slice none 0 0]) (t:=38) ?_;intro gb471 hg w4 hbox hb;have BK471:=Aside0.mk hbox;have GW471:=zH (w:=w) hg (za4 HB);have GE471:=GW471;replace HB:=Aside0.mk (qab (za4 HB) hb);clear hb hbox hg)|((with_reducible refine qac (f:=55) rfl ?_);refine zF (some 8) Try.func55 #[.int .i64 a0,.slice A1 l1.length c1] ?_;(with_reducible refine(spec_l2Of.calls k a0 _ _ l1 t472 t473 t476 _ ?side1 ?side2 A3.out).mono ?_);(case side1=>exact zR HR1 HB);(case side2=>exact HC1.out);rintro e w5 ⟨v474,rfl,ho0,hb⟩;refine⟨_,rfl,?_⟩;have HO475:=Aside0.mk (Kd.R_lower ho0 (below_size (za1 HB GE471)));replace BK471:=Aside0.mk (qaa (zB BK471) hb);replace HB:=Aside0.mk (qab (za1 HB GE471) hb);(try clear hb);(try clear ho0);obtain⟨hcz6_0,hcz6_1,hfz6_0,hfz6_1⟩:=zC2 BK471;obtain⟨Ao7,co7,eo7⟩:=Kd.R_slice HO475.out;subst eo7))
 refine bodyPost_ret (results_ct rfl _ _ gb471 38 #[.int .i64 t472,.slice Ao7 t473.length co7] (0,0) _ rfl (by(with_reducible repeat(first|refine blk_drewN ?_ _|refine blk_drew ?_|refine blk_alloc ?_ _));refine qad (cs:=#[.int .i64 t472,.slice none 0 0]) ?_ 1 _ rfl;(with_reducible repeat(first|refine blk_drewN ?_ _|refine blk_drew ?_|refine blk_alloc ?_ _));refine qad (cs:=#[.int .i64 0,.slice none 0 0]) ?_ 0 _ rfl;(with_reducible repeat(first|refine blk_drewN ?_ _|refine blk_drew ?_|refine blk_alloc ?_ _));exact BK471.out) Try.underlying38 rfl (by kernel_rfl)) rfl ?_
 exact⟨_,za16,by(with_reducible repeat(first|apply Kd.R_alloc|apply Kd.R_drewN|apply Kd.R_drew));exact Kd.R_mono (Kd.R_far (p:=⟨gb471,1,none⟩) (Kd.R_far (p:=⟨gb471,0,none⟩) (Kd.R_types HO475.out BK471.out (by decide)) (fun _ hk=>hk.2) (.int .i64 t472)) (fun _ hk=>hk.2) (.slice Ao7 t473.length co7)) (fun _ hk=>trivial),za1 HB GE471⟩
end Go.Proofs.Ytmbdphefnalenaa.Print
