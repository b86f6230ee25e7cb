-- Written by squeeze.py: not trusted, Lean checks it.
import Derived.Test.YtjccnaklodbbfaaZK
import Derived.Test.YtjccnaklodbbfaaZn3
namespace Go.Proofs.Ytjccnaklodbbfaa.Print
open Go.RowKit Go.Proofs.YtjccnaklodbbfaaW.PrintWords Go.Proofs.YtjccnaklodbbfaaW.PrintLast Go.Proofs.YtjccnaklodbbfaaW.PrintMore
attribute [local go_sem] max2_int min2_int max_two min_two max_three min_three max_four min_four
set_option linter.unusedVariables false
set_option linter.unusedSimpArgs false
def spec_StockOf.f (k:Nat) (a0:Int) (l1:List (S62)):Option (Int × (List (S46)) × Bool):=(spec_l2Of.f k a0 l1).bind fun bt390=>(some (bt390.1,bt390.2.1,bt390.2.2))
theorem spec_StockOf.mono:∀a0 a1 k,LeO (spec_StockOf.f k a0 a1) (spec_StockOf.f (k+1) a0 a1):=by
 intro a0 a1 k
 unfold spec_StockOf.f
 repeat' first
   |(with_reducible exact spec_l2Of.mono _ _ _)
   |(with_reducible exact LeO.refl _)
   |(with_reducible exact LeO.none _)
   |(with_reducible refine LeO.ite ?_ ?_)
   |(with_reducible refine LeO.bind ?_ (fun _=>?_))
   |exact spec_l2Of.mono _ _ _
   |exact LeO.none _
   |refine LeO.ite ?_ ?_
   |refine LeO.bind ?_ (fun _=>?_)
set_option maxHeartbeats 8000000 in
set_option maxRecDepth 100000 in
theorem spec_StockOf.calls (k:Nat) (a0:Int) (A1:Option Addr) (c1:Nat) (l1:List (S62)) (r1:Int) (r2:List (S46)) (r3:Bool) (w:World) (hr1:Kd.C k62 w A1 l1.length l1) (hc1:l1.length≤c1) (h:spec_StockOf.f k a0 l1=some (r1,r2,r3)) :
  Calls Try.prog 107 #[.int .i64 a0,.slice A1 l1.length c1] w fun e w'=>∃v1_:Value,e=.returned (.tuple #[.agg #[.int .i64 r1,v1_],.bool r3])∧Kd.R k46 46 w' w.heap.size (fun _=>True) v1_ r2∧Below w.heap.size w w':=by
 have hu36:=Try.underlying36
 have HR1:=Aside0.mk hr1
 have HC1:=Aside0.mk hc1
 clear hr1 hc1
 have HB:=Aside0.mk (Below.refl w.heap.size w)
 have H:((spec_l2Of.f k a0 l1).bind fun bt390=>(some (bt390.1,bt390.2.1,bt390.2.2)))=some (r1,r2,r3):=h
 clear h
 replace H:=Option.bind_eq_some_iff.mp H
 obtain⟨⟨t390,t391,t394⟩,A30,H⟩:=H
 replace H:(some (t390,t391,t394))=some (r1,r2,r3):=H
 have A3:=Aside0.mk A30
 clear A30
 simp only[Option.some.injEq,Prod.mk.injEq] at H
 obtain⟨rfl,rfl,rfl⟩:=H
 go_enter Try.func107,Try.ntmps107
 go_wp2_with(first|((with_reducible refine qah (N:=4) rfl ?_);refine zX (N:=4) (cs:=#[.int .i64 0,.slice none 0 0]) (t:=36) ?_;intro gb389 hg w4 hbox hb;have BK389:=Aside0.mk hbox;have GW389:=zH (w:=w) hg (za1 HB);have GE389:=GW389;replace HB:=Aside0.mk (qab (za1 HB) hb);clear hb hbox hg)|((with_reducible refine qaf (f:=125) rfl ?_);refine zF (some 8) Try.func125 #[.int .i64 a0,.slice A1 l1.length c1] ?_;(with_reducible refine(spec_l2Of.calls k a0 _ _ l1 t390 t391 t394 _ ?side1 ?side2 A3.out).mono ?_);(case side1=>exact zR HR1 HB);(case side2=>exact HC1.out);rintro e w5 ⟨v392,rfl,ho0,hb⟩;refine⟨_,rfl,?_⟩;have HO393:=Aside0.mk (Kd.R_lower ho0 (below_size (za0 HB GE389)));replace BK389:=Aside0.mk (qaa (zB BK389) hb);replace HB:=Aside0.mk (qab (za0 HB GE389) hb);(try clear hb);(try clear ho0);obtain⟨hcz6_0,hcz6_1,hfz6_0,hfz6_1⟩:=zC2 BK389;obtain⟨Ao7,co7,eo7⟩:=Kd.R_slice HO393.out;subst eo7))
 refine bodyPost_ret (results_ct rfl _ _ gb389 36 #[.int .i64 t390,.slice Ao7 t391.length co7] (0,0) _ rfl (by(with_reducible repeat(first|refine blk_drewN ?_ _|refine blk_drew ?_|refine blk_alloc ?_ _));refine qai (cs:=#[.int .i64 t390,.slice none 0 0]) ?_ 1 _ rfl;(with_reducible repeat(first|refine blk_drewN ?_ _|refine blk_drew ?_|refine blk_alloc ?_ _));refine qai (cs:=#[.int .i64 0,.slice none 0 0]) ?_ 0 _ rfl;(with_reducible repeat(first|refine blk_drewN ?_ _|refine blk_drew ?_|refine blk_alloc ?_ _));exact BK389.out) Try.underlying36 rfl (by kernel_rfl)) rfl ?_
 exact⟨_,za9,by(with_reducible repeat(first|apply Kd.R_alloc|apply Kd.R_drewN|apply Kd.R_drew));exact Kd.R_mono (Kd.R_far (p:=⟨gb389,1,none⟩) (Kd.R_far (p:=⟨gb389,0,none⟩) (Kd.R_types HO393.out BK389.out (by decide)) (fun _ hk=>hk.2) (.int .i64 t390)) (fun _ hk=>hk.2) (.slice Ao7 t391.length co7)) (fun _ hk=>trivial),za0 HB GE389⟩
end Go.Proofs.Ytjccnaklodbbfaa.Print
