-- Written by squeeze.py: not trusted, Lean checks it.
import Derived.Test.YtmbdphefnalenaaZK
import Derived.Test.YtmbdphefnalenaaZa0
import Derived.Test.YtmbdphefnalenaaZb4
import Derived.Test.YtmbdphefnalenaaZc7
import Derived.Test.YtmbdphefnalenaaZc8
import Derived.Test.YtmbdphefnalenaaZj2
namespace Go.Proofs.Ytmbdphefnalenaa.Print
open Go.RowKit Go.Proofs.YtmbdphefnalenaaW.PrintWords Go.Proofs.YtmbdphefnalenaaW.PrintLast Go.Proofs.YtmbdphefnalenaaW.PrintMore
attribute [local go_sem] max2_int min2_int max_two min_two max_three min_three max_four min_four
set_option linter.unusedVariables false
set_option linter.unusedSimpArgs false
def laws_FnStockTwice.j0:Nat→Bool→Bool→Bool→Int→Int→List Int→Int→List (S49)→Int→List (S49)→Option (Bool)
 |0,_,_,_,_,_,_,_,_,_,_=>none
 |k+1,x6,x8,x43,x732000,x732001,x732002,x738000,x738001,x744000,x744001=>if x43=true then(if(x8 == x6)=true then((laws_lnStock.f k x744000 x744001 x738000 x738001).bind fun t745=>(some t745)) else(some false)) else((impl_StockMay.f k x744000 x744001 x732000 x732001 x732002).bind fun t751=>(if t751=true then(some false) else((impl_StockMay.f k x744000 x744001 1 x732001 (([1]:List Int))).bind fun t752=>(if t752=true then(some false) else((impl_StockMay.f k x744000 x744001 2 x732001 ([]:List Int)).bind fun t753=>(some (t753 == (x732000 == 1))))))))
def laws_FnStockTwice.f (k:Nat) (l0:List Int):Option (Bool):=if(l0.length:Int)>1048576 then(some true) else((spec_DrawStockDo.f k l0).bind fun bt721=>((spec_StockDo.f k bt721.1 bt721.2.1 bt721.2.2.1 bt721.2.2.2.1 bt721.2.2.2.2).bind fun bt732=>((impl_StockDo.f k bt721.1 bt721.2.1 bt721.2.2.1 bt721.2.2.2.1 bt721.2.2.2.2).bind fun bt738=>(if(bt738.2.2 != bt732.2.2)=true then(laws_FnStockTwice.j0 k bt732.2.2 bt738.2.2 true bt721.2.2.1 bt721.2.2.2.1 bt721.2.2.2.2 bt732.1 bt732.2.1 bt738.1 bt738.2.1) else((laws_lnStock.f k bt738.1 bt738.2.1 bt732.1 bt732.2.1).bind fun t744=>(if t744=true then(laws_FnStockTwice.j0 k bt732.2.2 bt738.2.2 (!bt738.2.2) bt721.2.2.1 bt721.2.2.2.1 bt721.2.2.2.2 bt732.1 bt732.2.1 bt738.1 bt738.2.1) else(laws_FnStockTwice.j0 k bt732.2.2 bt738.2.2 true bt721.2.2.1 bt721.2.2.2.1 bt721.2.2.2.2 bt732.1 bt732.2.1 bt738.1 bt738.2.1)))))))
theorem laws_FnStockTwice.mono_l:∀k,(∀y0 y1 y2 y3 y4 y5 y6 y7 y8 y9,LeO (laws_FnStockTwice.j0 k y0 y1 y2 y3 y4 y5 y6 y7 y8 y9) (laws_FnStockTwice.j0 (k+1) y0 y1 y2 y3 y4 y5 y6 y7 y8 y9))
 |0=>fun _ _ _ _ _ _ _ _ _ _ r h=>by simp[laws_FnStockTwice.j0] at h
 |k+1=>by
  have ih0:=laws_FnStockTwice.mono_l k
  ·intro y0 y1 y2 y3 y4 y5 y6 y7 y8 y9
   unfold laws_FnStockTwice.j0
   repeat' first
   |(with_reducible exact ih0 _ _ _ _ _ _ _ _ _ _)
   |(with_reducible exact impl_StockDo.mono _ _ _ _ _ _)
   |(with_reducible exact impl_StockMay.mono _ _ _ _ _ _)
   |(with_reducible exact laws_lnStock.mono _ _ _ _ _)
   |(with_reducible exact spec_DrawStockDo.mono _ _)
   |(with_reducible exact spec_StockDo.mono _ _ _ _ _ _)
   |(with_reducible exact LeO.refl _)
   |(with_reducible exact LeO.none _)
   |(with_reducible refine LeO.ite ?_ ?_)
   |(with_reducible refine LeO.bind ?_ (fun _=>?_))
   |exact ih0 _ _ _ _ _ _ _ _ _ _
   |exact impl_StockDo.mono _ _ _ _ _ _
   |exact impl_StockMay.mono _ _ _ _ _ _
   |exact laws_lnStock.mono _ _ _ _ _
   |exact spec_DrawStockDo.mono _ _
   |exact spec_StockDo.mono _ _ _ _ _ _
   |exact LeO.none _
   |refine LeO.ite ?_ ?_
   |refine LeO.bind ?_ (fun _=>?_)
theorem laws_FnStockTwice.mono:∀a0 k,LeO (laws_FnStockTwice.f k a0) (laws_FnStockTwice.f (k+1) a0):=by
 intro a0 k
 have ih0:=laws_FnStockTwice.mono_l k
 unfold laws_FnStockTwice.f
 repeat' first
   |(with_reducible exact ih0 _ _ _ _ _ _ _ _ _ _)
   |(with_reducible exact impl_StockDo.mono _ _ _ _ _ _)
   |(with_reducible exact impl_StockMay.mono _ _ _ _ _ _)
   |(with_reducible exact laws_lnStock.mono _ _ _ _ _)
   |(with_reducible exact spec_DrawStockDo.mono _ _)
   |(with_reducible exact spec_StockDo.mono _ _ _ _ _ _)
   |(with_reducible exact LeO.refl _)
   |(with_reducible exact LeO.none _)
   |(with_reducible refine LeO.ite ?_ ?_)
   |(with_reducible refine LeO.bind ?_ (fun _=>?_))
   |exact ih0 _ _ _ _ _ _ _ _ _ _
   |exact impl_StockDo.mono _ _ _ _ _ _
   |exact impl_StockMay.mono _ _ _ _ _ _
   |exact laws_lnStock.mono _ _ _ _ _
   |exact spec_DrawStockDo.mono _ _
   |exact spec_StockDo.mono _ _ _ _ _ _
   |exact LeO.none _
   |refine LeO.ite ?_ ?_
   |refine LeO.bind ?_ (fun _=>?_)
def laws_FnStockTwice.T10:Bool × List (List Nat × List Nat):=(true,[([],[]),([],[]),([0,1],[0,1]),([2],[2]),([3,2],[3]),([4],[4]),([4],[4]),([5,6,4,4],[4,5,6]),([7,4],[4,7]),([4,8],[4,8]),([9,7],[9]),([10],[10]),([10],[10]),([11,12,10,10],[10,11,12]),([10],[10]),([14,10],[10,14]),([15,10],[10,15]),([13,16,10],[10,13,16]),([10,17],[10,17]),([18,13,0,1,2,3,4,5,6,7,8,9,10,11,12,13,14,15,16,17,18],[18])])
def laws_FnStockTwice.B10:List Nat:=[0,0,3,7,15,31,31,127,255,511,1023,2047,2047,8191,2047,18431,51199,131071,262143,524287]
theorem laws_FnStockTwice.tab10:rtab .any (opsOf Try.f7 10)=laws_FnStockTwice.T10:=by kernel_rfl
theorem laws_FnStockTwice.bits10:waitsOk laws_FnStockTwice.T10.2 laws_FnStockTwice.B10=true:=by kernel_rfl
set_option maxHeartbeats 8000000 in
set_option maxRecDepth 100000 in
theorem laws_FnStockTwice.calls (k:Nat) (A0:Option Addr) (c0:Nat) (l0:List Int) (r:Bool) (w:World) (hr0:Kd.C (Kd.int .u8) w A0 l0.length l0) (hc0:l0.length≤c0) (h:laws_FnStockTwice.f k l0=some r) :
  Calls Try.prog 7 #[.slice A0 l0.length c0] w fun e w'=>e=.returned (.bool r)∧Below w.heap.size w w':=by
 have hu38:=Try.underlying38
 have hu32:=Try.underlying32
 have HR0:=Aside0.mk hr0
 have HC0:=Aside0.mk hc0
 clear hr0 hc0
 have HB:=Aside0.mk (Below.refl w.heap.size w)
 have H:(if(l0.length:Int)>1048576 then(some true) else((spec_DrawStockDo.f k l0).bind fun bt721=>((spec_StockDo.f k bt721.1 bt721.2.1 bt721.2.2.1 bt721.2.2.2.1 bt721.2.2.2.2).bind fun bt732=>((impl_StockDo.f k bt721.1 bt721.2.1 bt721.2.2.1 bt721.2.2.2.1 bt721.2.2.2.2).bind fun bt738=>(if(bt738.2.2 != bt732.2.2)=true then(laws_FnStockTwice.j0 k bt732.2.2 bt738.2.2 true bt721.2.2.1 bt721.2.2.2.1 bt721.2.2.2.2 bt732.1 bt732.2.1 bt738.1 bt738.2.1) else((laws_lnStock.f k bt738.1 bt738.2.1 bt732.1 bt732.2.1).bind fun t744=>(if t744=true then(laws_FnStockTwice.j0 k bt732.2.2 bt738.2.2 (!bt738.2.2) bt721.2.2.1 bt721.2.2.2.1 bt721.2.2.2.2 bt732.1 bt732.2.1 bt738.1 bt738.2.1) else(laws_FnStockTwice.j0 k bt732.2.2 bt738.2.2 true bt721.2.2.1 bt721.2.2.2.1 bt721.2.2.2.2 bt732.1 bt732.2.1 bt738.1 bt738.2.1))))))))=some r:=h
 clear h
 by_cases c2:(l0.length:Int)>1048576
 ·rw[if_pos c2] at H
  have c2b0:decide (1048576<(l0.length:Int))=true:=decide_eq_true c2
  have c2b1:decide (1048576<l0.length)=true:=decide_eq_true (by omega)
  clear c2
  obtain rfl:=Option.some.inj H
  go_enter Try.func7,Try.ntmps7
  go_wp2
  go_ret
  exact⟨za16,za4 HB⟩
 ·rw[if_neg c2] at H
  have c2b0:decide (1048576<(l0.length:Int))=false:=decide_eq_false c2
  have c2b1:decide (1048576<l0.length)=false:=decide_eq_false (by omega)
  clear c2
  replace H:=Option.bind_eq_some_iff.mp H
  obtain⟨⟨t721,t722,t725,t726,t727⟩,A30,H⟩:=H
  replace H:((spec_StockDo.f k t721 t722 t725 t726 t727).bind fun bt732=>((impl_StockDo.f k t721 t722 t725 t726 t727).bind fun bt738=>(if(bt738.2.2 != bt732.2.2)=true then(laws_FnStockTwice.j0 k bt732.2.2 bt738.2.2 true t725 t726 t727 bt732.1 bt732.2.1 bt738.1 bt738.2.1) else((laws_lnStock.f k bt738.1 bt738.2.1 bt732.1 bt732.2.1).bind fun t744=>(if t744=true then(laws_FnStockTwice.j0 k bt732.2.2 bt738.2.2 (!bt738.2.2) t725 t726 t727 bt732.1 bt732.2.1 bt738.1 bt738.2.1) else(laws_FnStockTwice.j0 k bt732.2.2 bt738.2.2 true t725 t726 t727 bt732.1 bt732.2.1 bt738.1 bt738.2.1))))))=some r:=H
  have A3:=Aside0.mk A30
  clear A30
  replace H:=Option.bind_eq_some_iff.mp H
  obtain⟨⟨t732,t733,t736⟩,A40,H⟩:=H
  replace H:((impl_StockDo.f k t721 t722 t725 t726 t727).bind fun bt738=>(if(bt738.2.2 != t736)=true then(laws_FnStockTwice.j0 k t736 bt738.2.2 true t725 t726 t727 t732 t733 bt738.1 bt738.2.1) else((laws_lnStock.f k bt738.1 bt738.2.1 t732 t733).bind fun t744=>(if t744=true then(laws_FnStockTwice.j0 k t736 bt738.2.2 (!bt738.2.2) t725 t726 t727 t732 t733 bt738.1 bt738.2.1) else(laws_FnStockTwice.j0 k t736 bt738.2.2 true t725 t726 t727 t732 t733 bt738.1 bt738.2.1)))))=some r:=H
  have A4:=Aside0.mk A40
  clear A40
  replace H:=Option.bind_eq_some_iff.mp H
  obtain⟨⟨t738,t739,t742⟩,A50,H⟩:=H
  replace H:(if(t742 != t736)=true then(laws_FnStockTwice.j0 k t736 t742 true t725 t726 t727 t732 t733 t738 t739) else((laws_lnStock.f k t738 t739 t732 t733).bind fun t744=>(if t744=true then(laws_FnStockTwice.j0 k t736 t742 (!t742) t725 t726 t727 t732 t733 t738 t739) else(laws_FnStockTwice.j0 k t736 t742 true t725 t726 t727 t732 t733 t738 t739))))=some r:=H
  have A5:=Aside0.mk A50
  clear A50
  have HC6:=Aside0.mk H
  clear H
  go_enter Try.func7,Try.ntmps7
  go_upto_region 6 with(first|((with_reducible refine qac (f:=26) rfl ?_);refine zF (some 16) Try.func26 #[.slice A0 l0.length c0] ?_;(with_reducible refine(spec_DrawStockDo.calls k _ _ l0 t721 t722 t725 t726 t727 _ ?side1 ?side2 A3.out).mono ?_);(case side1=>repeat(first|exact HR0.out|(with_reducible refine Kd.C_alloc ?_ _)|(with_reducible refine Kd.C_drewN ?_ _)|(with_reducible refine Kd.C_drew ?_)));(case side2=>exact HC0.out);rintro e w7 ⟨v723,v728,rfl,ho0,ho1,hb⟩;refine⟨_,rfl,?_⟩;have HO724:=Aside0.mk (Kd.Q_lower (Kd.Q_mono (ok':=fun k_=>True) ho0 (fun _ hk_=>trivial)) (below_size (za4 HB)));have HO729:=Aside0.mk (Kd.V_lower (Kd.V_mono (ok':=fun k_=>some k_≠(v723:Value).ownBlock) ho1 (fun k_ hk_=>hk_.2)) (below_size (za4 HB)));replace HB:=Aside0.mk (qab (za4 HB) hb);(try clear hb);(try clear ho0);(try clear ho1))|((with_reducible refine qae (N:=3) rfl ?_);refine zX (N:=3) (cs:=#[.int .i64 0,.slice none 0 0]) (t:=38) ?_;intro gb730 hg w8 hbox hb;replace HO724:=Aside0.mk (Kd.Q_below (za10 HO724) hb);replace HO729:=Aside0.mk (Kd.V_below (Kd.V_elderB (za42 HO729) gb730 (Nat.le_of_eq hg.symm)) hb);have BK730:=Aside0.mk hbox;have GW730:=zH (w:=w) hg (za4 HB);have GE730:=GW730;replace HB:=Aside0.mk (qab (za4 HB) hb);clear hb hbox hg)|((with_reducible refine qae (N:=4) rfl ?_);refine zX (N:=4) (cs:=#[.int .i64 0,.int .i64 0,.slice none 0 0]) (t:=32) ?_;intro gb731 hg w9 hbox hb;replace HO724:=Aside0.mk (Kd.Q_below (za10 HO724) hb);replace HO729:=Aside0.mk (Kd.V_below (Kd.V_elderB (za42 HO729) gb731 (Nat.le_of_eq hg.symm)) hb);have BK731:=Aside0.mk hbox;have GW731:=zH (w:=w) hg (za1 HB GE730);have GE731:=GW731;replace HB:=Aside0.mk (qab (za1 HB GE730) hb);have NB730_731:=zL BK730 hg;have NB731_730:=zG BK730 hg;replace BK730:=Aside0.mk (qaa (zB BK730) hb);clear hb hbox hg;have hnb10:=NB730_731.out;have hnc10:=NB731_730.out;obtain⟨hcz11_0,hcz11_1,hfz11_0,hfz11_1⟩:=zC2 BK730;obtain⟨Ao12,co12,eo12,_⟩:=Kd.Q_slice HO724.out;subst eo12;obtain⟨hcz13_0,hcz13_1,hcz13_2,hfz13_0,hfz13_1,hfz13_2⟩:=zC3 BK731;obtain⟨Ao14,co14,eo14⟩:=Kd.V_slice HO729.out;subst eo14)|((with_reducible refine qac (f:=27) rfl ?_);refine zF (some 22) Try.func27 #[.agg #[.int .i64 t721,.slice Ao12 t722.length co12],.agg #[.int .i64 t725,.int .i64 t726,.slice Ao14 t727.length co14]] ?_;(with_reducible refine(spec_StockDo.calls k t721 _ _ t722 t725 t726 _ _ t727 t732 t733 t736 _ ?side1 ?side2 ?side3 ?side4 A4.out).mono ?_);(case side1=>refine(Kd.Q_reads' (e:=49) (base:=w.heap.size) (ok:=fun k_=>True) (n:=t722.length) (c:=co12) ?_).2.2;exact(by(with_reducible repeat(first|apply Kd.Q_alloc|apply Kd.Q_drewN|apply Kd.Q_drew));exact(Kd.Q_mono (Kd.Q_mono (Kd.Q_far (p:=⟨gb731,2,none⟩) (Kd.Q_far (p:=⟨gb731,1,none⟩) (Kd.Q_far (p:=⟨gb731,0,none⟩) (Kd.Q_far (p:=⟨gb730,1,none⟩) (Kd.Q_far (p:=⟨gb730,0,none⟩) (Kd.Q_types (Kd.Q_types HO724.out BK730.out (by decide)) BK731.out (by decide)) (fun _ hk=>hk.1.2) (.int .i64 t721)) (fun _ hk=>hk.1.2) (.slice Ao12 t722.length co12)) (fun _ hk=>hk.2) (.int .i64 t725)) (fun _ hk=>hk.2) (.int .i64 t726)) (fun _ hk=>hk.2) (.slice Ao14 t727.length co14)) (fun _ h_=>h_.1)) (fun _ h_=>h_.1))));(case side2=>exact(Kd.Q_reads' HO724.out).2.1);(case side3=>refine(Kd.V_reads' (e:=3) (base:=w.heap.size) (ok:=fun k_=>((some k_≠(.slice Ao12 t722.length co12:Value).ownBlock∧k_≠gb730)∧k_≠gb731)) (n:=t727.length) (c:=co14) ?_).2.2;exact(by(with_reducible repeat(first|apply Kd.V_alloc|apply Kd.V_drewN|apply Kd.V_drew));exact(Kd.V_mono (Kd.V_mono (Kd.V_far (p:=⟨gb731,2,none⟩) (Kd.V_far (p:=⟨gb731,1,none⟩) (Kd.V_far (p:=⟨gb731,0,none⟩) (Kd.V_far (p:=⟨gb730,1,none⟩) (Kd.V_far (p:=⟨gb730,0,none⟩) (Kd.V_mono (Kd.V_mono HO729.out (fun k_ hk=>(⟨hk,hk.1.2⟩:_∧k_≠gb730))) (fun k_ hk=>(⟨hk,hk.1.2⟩:_∧k_≠gb731))) (fun _ hk=>hk.1.2) (.int .i64 t721)) (fun _ hk=>hk.1.2) (.slice Ao12 t722.length co12)) (fun _ hk=>hk.2) (.int .i64 t725)) (fun _ hk=>hk.2) (.int .i64 t726)) (fun _ hk=>hk.2) (.slice Ao14 t727.length co14)) (fun _ h_=>h_.1)) (fun _ h_=>h_.1))));(case side4=>exact(Kd.V_reads' HO729.out).2.1);rintro e w15 ⟨v734,rfl,ho0,hb⟩;refine⟨_,rfl,?_⟩;replace HO729:=Aside0.mk (Kd.V_elder' (by(with_reducible repeat(first|apply Kd.V_alloc|apply Kd.V_drewN|apply Kd.V_drew));exact(Kd.V_mono (Kd.V_mono (Kd.V_far (p:=⟨gb731,2,none⟩) (Kd.V_far (p:=⟨gb731,1,none⟩) (Kd.V_far (p:=⟨gb731,0,none⟩) (Kd.V_far (p:=⟨gb730,1,none⟩) (Kd.V_far (p:=⟨gb730,0,none⟩) (Kd.V_mono (Kd.V_mono HO729.out (fun k_ hk=>(⟨hk,hk.1.2⟩:_∧k_≠gb730))) (fun k_ hk=>(⟨hk,hk.1.2⟩:_∧k_≠gb731))) (fun _ hk=>hk.1.2) (.int .i64 t721)) (fun _ hk=>hk.1.2) (.slice Ao12 t722.length co12)) (fun _ hk=>hk.2) (.int .i64 t725)) (fun _ hk=>hk.2) (.int .i64 t726)) (fun _ hk=>hk.2) (.slice Ao14 t727.length co14)) (fun _ h_=>h_.1)) (fun _ h_=>h_.1))) (Kd.R_base ho0) hb);have HO735:=Aside0.mk (Kd.R_lower (Kd.R_new' ho0 (Kd.Q_lt (by(with_reducible repeat(first|apply Kd.Q_alloc|apply Kd.Q_drewN|apply Kd.Q_drew));exact(Kd.Q_mono (Kd.Q_mono (Kd.Q_far (p:=⟨gb731,2,none⟩) (Kd.Q_far (p:=⟨gb731,1,none⟩) (Kd.Q_far (p:=⟨gb731,0,none⟩) (Kd.Q_far (p:=⟨gb730,1,none⟩) (Kd.Q_far (p:=⟨gb730,0,none⟩) (Kd.Q_types (Kd.Q_types HO724.out BK730.out (by decide)) BK731.out (by decide)) (fun _ hk=>hk.1.2) (.int .i64 t721)) (fun _ hk=>hk.1.2) (.slice Ao12 t722.length co12)) (fun _ hk=>hk.2) (.int .i64 t725)) (fun _ hk=>hk.2) (.int .i64 t726)) (fun _ hk=>hk.2) (.slice Ao14 t727.length co14)) (fun _ h_=>h_.1)) (fun _ h_=>h_.1))))) (below_size (za2 HB GE730 GE731)));replace HO724:=Aside0.mk (Kd.Q_elder' (by(with_reducible repeat(first|apply Kd.Q_alloc|apply Kd.Q_drewN|apply Kd.Q_drew));exact(Kd.Q_mono (Kd.Q_mono (Kd.Q_far (p:=⟨gb731,2,none⟩) (Kd.Q_far (p:=⟨gb731,1,none⟩) (Kd.Q_far (p:=⟨gb731,0,none⟩) (Kd.Q_far (p:=⟨gb730,1,none⟩) (Kd.Q_far (p:=⟨gb730,0,none⟩) (Kd.Q_types (Kd.Q_types HO724.out BK730.out (by decide)) BK731.out (by decide)) (fun _ hk=>hk.1.2) (.int .i64 t721)) (fun _ hk=>hk.1.2) (.slice Ao12 t722.length co12)) (fun _ hk=>hk.2) (.int .i64 t725)) (fun _ hk=>hk.2) (.int .i64 t726)) (fun _ hk=>hk.2) (.slice Ao14 t727.length co14)) (fun _ h_=>h_.1)) (fun _ h_=>h_.1))) (Kd.R_base ho0) hb);replace BK730:=Aside0.mk (qaa (g:=gb730) (o:=.cells #[.int .i64 t721,.slice Ao12 t722.length co12] 38 (0,0)) (by(with_reducible repeat(first|refine blk_drewN ?_ _|refine blk_drew ?_|refine blk_alloc ?_ _));refine blk_far ?_ NB730_731.out _;(with_reducible repeat(first|refine blk_drewN ?_ _|refine blk_drew ?_|refine blk_alloc ?_ _));refine blk_far ?_ NB730_731.out _;(with_reducible repeat(first|refine blk_drewN ?_ _|refine blk_drew ?_|refine blk_alloc ?_ _));refine blk_far ?_ NB730_731.out _;(with_reducible repeat(first|refine blk_drewN ?_ _|refine blk_drew ?_|refine blk_alloc ?_ _));refine qad (cs:=#[.int .i64 t721,.slice none 0 0]) ?_ 1 _ rfl;(with_reducible repeat(first|refine blk_drewN ?_ _|refine blk_drew ?_|refine blk_alloc ?_ _));refine qad (cs:=#[.int .i64 0,.slice none 0 0]) ?_ 0 _ rfl;(with_reducible repeat(first|refine blk_drewN ?_ _|refine blk_drew ?_|refine blk_alloc ?_ _));exact BK730.out) hb);replace BK731:=Aside0.mk (qaa (g:=gb731) (o:=.cells #[.int .i64 t725,.int .i64 t726,.slice Ao14 t727.length co14] 32 (0,0)) (by(with_reducible repeat(first|refine blk_drewN ?_ _|refine blk_drew ?_|refine blk_alloc ?_ _));refine qad (cs:=#[.int .i64 t725,.int .i64 t726,.slice none 0 0]) ?_ 2 _ rfl;(with_reducible repeat(first|refine blk_drewN ?_ _|refine blk_drew ?_|refine blk_alloc ?_ _));refine qad (cs:=#[.int .i64 t725,.int .i64 0,.slice none 0 0]) ?_ 1 _ rfl;(with_reducible repeat(first|refine blk_drewN ?_ _|refine blk_drew ?_|refine blk_alloc ?_ _));refine qad (cs:=#[.int .i64 0,.int .i64 0,.slice none 0 0]) ?_ 0 _ rfl;(with_reducible repeat(first|refine blk_drewN ?_ _|refine blk_drew ?_|refine blk_alloc ?_ _));refine blk_far ?_ NB731_730.out _;(with_reducible repeat(first|refine blk_drewN ?_ _|refine blk_drew ?_|refine blk_alloc ?_ _));refine blk_far ?_ NB731_730.out _;(with_reducible repeat(first|refine blk_drewN ?_ _|refine blk_drew ?_|refine blk_alloc ?_ _));exact BK731.out) hb);replace HB:=Aside0.mk (qab (za2 HB GE730 GE731) hb);(try clear hb);(try clear ho0))|((with_reducible refine qae (N:=5) rfl ?_);refine zX (N:=5) (cs:=#[.int .i64 0,.slice none 0 0]) (t:=38) ?_;intro gb737 hg w16 hbox hb;replace HO724:=Aside0.mk (Kd.Q_below (za10 HO724) hb);replace HO729:=Aside0.mk (Kd.V_below (Kd.V_elderB (za42 HO729) gb737 (Nat.le_of_eq hg.symm)) hb);replace HO735:=Aside0.mk (Kd.R_below (za5 HO735) hb);have BK737:=Aside0.mk hbox;have GW737:=zH (w:=w) hg (za2 HB GE730 GE731);have GE737:=GW737;replace HB:=Aside0.mk (qab (za2 HB GE730 GE731) hb);have NB730_737:=zL BK730 hg;have NB737_730:=zG BK730 hg;replace BK730:=Aside0.mk (qaa (zB BK730) hb);have NB731_737:=zL BK731 hg;have NB737_731:=zG BK731 hg;replace BK731:=Aside0.mk (qaa (zB BK731) hb);clear hb hbox hg;have hnb17:=NB737_730.out;have hnc17:=NB730_737.out;have hnb18:=NB737_731.out;have hnc18:=NB731_737.out;obtain⟨hcz19_0,hcz19_1,hfz19_0,hfz19_1⟩:=zC2 BK737;obtain⟨Ao20,co20,eo20⟩:=Kd.R_slice HO735.out;subst eo20;obtain⟨hcz21_0,hcz21_1,hfz21_0,hfz21_1⟩:=zC2 BK730;obtain⟨hcz22_0,hcz22_1,hcz22_2,hfz22_0,hfz22_1,hfz22_2⟩:=zC3 BK731)|((with_reducible refine qac (f:=24) rfl ?_);refine zF (some 28) Try.func24 #[.agg #[.int .i64 t721,.slice Ao12 t722.length co12],.agg #[.int .i64 t725,.int .i64 t726,.slice Ao14 t727.length co14]] ?_;(with_reducible refine(impl_StockDo.calls k t721 _ _ t722 t725 t726 _ _ t727 t738 t739 t742 _ ?side1 ?side2 ?side3 ?side4 A5.out).mono ?_);(case side1=>refine(Kd.Q_reads' (e:=49) (base:=w.heap.size) (ok:=fun k_=>(True∧some k_≠(.slice Ao20 t733.length co20:Value).ownBlock)) (n:=t722.length) (c:=co12) ?_).2.2;exact(by(with_reducible repeat(first|apply Kd.Q_alloc|apply Kd.Q_drewN|apply Kd.Q_drew));exact(Kd.Q_mono (Kd.Q_far (p:=⟨gb737,1,none⟩) (Kd.Q_far (p:=⟨gb737,0,none⟩) (Kd.Q_types HO724.out BK737.out (by decide)) (fun _ hk=>hk.2) (.int .i64 t732)) (fun _ hk=>hk.2) (.slice Ao20 t733.length co20)) (fun _ h_=>h_.1))));(case side2=>exact(Kd.Q_reads' HO724.out).2.1);(case side3=>refine(Kd.V_reads' (e:=3) (base:=w.heap.size) (ok:=fun k_=>((((some k_≠(.slice Ao12 t722.length co12:Value).ownBlock∧k_≠gb730)∧k_≠gb731)∧some k_≠(.slice Ao20 t733.length co20:Value).ownBlock)∧k_≠gb737)) (n:=t727.length) (c:=co14) ?_).2.2;exact(by(with_reducible repeat(first|apply Kd.V_alloc|apply Kd.V_drewN|apply Kd.V_drew));exact(Kd.V_mono (Kd.V_far (p:=⟨gb737,1,none⟩) (Kd.V_far (p:=⟨gb737,0,none⟩) (Kd.V_mono HO729.out (fun k_ hk=>(⟨hk,hk.2⟩:_∧k_≠gb737))) (fun _ hk=>hk.2) (.int .i64 t732)) (fun _ hk=>hk.2) (.slice Ao20 t733.length co20)) (fun _ h_=>h_.1))));(case side4=>exact(Kd.V_reads' HO729.out).2.1);rintro e w23 ⟨v740,rfl,ho0,hb⟩;refine⟨_,rfl,?_⟩;replace HO729:=Aside0.mk (Kd.V_elder' (by(with_reducible repeat(first|apply Kd.V_alloc|apply Kd.V_drewN|apply Kd.V_drew));exact(Kd.V_mono (Kd.V_far (p:=⟨gb737,1,none⟩) (Kd.V_far (p:=⟨gb737,0,none⟩) (Kd.V_mono HO729.out (fun k_ hk=>(⟨hk,hk.2⟩:_∧k_≠gb737))) (fun _ hk=>hk.2) (.int .i64 t732)) (fun _ hk=>hk.2) (.slice Ao20 t733.length co20)) (fun _ h_=>h_.1))) (Kd.R_base ho0) hb);have HO741:=Aside0.mk (Kd.R_lower (Kd.R_new' (Kd.R_new' ho0 (Kd.Q_lt (by(with_reducible repeat(first|apply Kd.Q_alloc|apply Kd.Q_drewN|apply Kd.Q_drew));exact(Kd.Q_mono (Kd.Q_far (p:=⟨gb737,1,none⟩) (Kd.Q_far (p:=⟨gb737,0,none⟩) (Kd.Q_types HO724.out BK737.out (by decide)) (fun _ hk=>hk.2) (.int .i64 t732)) (fun _ hk=>hk.2) (.slice Ao20 t733.length co20)) (fun _ h_=>h_.1))))) (Kd.R_lt (by(with_reducible repeat(first|apply Kd.R_alloc|apply Kd.R_drewN|apply Kd.R_drew));exact(Kd.R_mono (Kd.R_far (p:=⟨gb737,1,none⟩) (Kd.R_far (p:=⟨gb737,0,none⟩) (Kd.R_types HO735.out BK737.out (by decide)) (fun _ hk=>hk.2) (.int .i64 t732)) (fun _ hk=>hk.2) (.slice Ao20 t733.length co20)) (fun _ h_=>h_.1))))) (below_size (za6 HB GE730 GE731 GE737)));replace HO724:=Aside0.mk (Kd.Q_elder' (by(with_reducible repeat(first|apply Kd.Q_alloc|apply Kd.Q_drewN|apply Kd.Q_drew));exact(Kd.Q_mono (Kd.Q_far (p:=⟨gb737,1,none⟩) (Kd.Q_far (p:=⟨gb737,0,none⟩) (Kd.Q_types HO724.out BK737.out (by decide)) (fun _ hk=>hk.2) (.int .i64 t732)) (fun _ hk=>hk.2) (.slice Ao20 t733.length co20)) (fun _ h_=>h_.1))) (Kd.R_base ho0) hb);replace HO735:=Aside0.mk (Kd.R_elder' (by(with_reducible repeat(first|apply Kd.R_alloc|apply Kd.R_drewN|apply Kd.R_drew));exact(Kd.R_mono (Kd.R_far (p:=⟨gb737,1,none⟩) (Kd.R_far (p:=⟨gb737,0,none⟩) (Kd.R_types HO735.out BK737.out (by decide)) (fun _ hk=>hk.2) (.int .i64 t732)) (fun _ hk=>hk.2) (.slice Ao20 t733.length co20)) (fun _ h_=>h_.1))) (Kd.R_base ho0) hb);replace BK730:=Aside0.mk (qaa (g:=gb730) (o:=.cells #[.int .i64 t721,.slice Ao12 t722.length co12] 38 (0,0)) (za0 NB730_737 BK730) hb);replace BK731:=Aside0.mk (qaa (g:=gb731) (o:=.cells #[.int .i64 t725,.int .i64 t726,.slice Ao14 t727.length co14] 32 (0,0)) (za0 NB731_737 BK731) hb);replace BK737:=Aside0.mk (qaa (g:=gb737) (o:=.cells #[.int .i64 t732,.slice Ao20 t733.length co20] 38 (0,0)) (by(with_reducible repeat(first|refine blk_drewN ?_ _|refine blk_drew ?_|refine blk_alloc ?_ _));refine qad (cs:=#[.int .i64 t732,.slice none 0 0]) ?_ 1 _ rfl;(with_reducible repeat(first|refine blk_drewN ?_ _|refine blk_drew ?_|refine blk_alloc ?_ _));refine qad (cs:=#[.int .i64 0,.slice none 0 0]) ?_ 0 _ rfl;(with_reducible repeat(first|refine blk_drewN ?_ _|refine blk_drew ?_|refine blk_alloc ?_ _));exact BK737.out) hb);replace HB:=Aside0.mk (qab (za6 HB GE730 GE731 GE737) hb);(try clear hb);(try clear ho0))|((with_reducible refine qae (N:=7) rfl ?_);refine zX (N:=7) (cs:=#[.int .i64 0,.slice none 0 0]) (t:=38) ?_;intro gb743 hg w24 hbox hb;replace HO724:=Aside0.mk (Kd.Q_below (za10 HO724) hb);replace HO729:=Aside0.mk (Kd.V_below (Kd.V_elderB (za42 HO729) gb743 (Nat.le_of_eq hg.symm)) hb);replace HO735:=Aside0.mk (Kd.R_below (za5 HO735) hb);replace HO741:=Aside0.mk (Kd.R_below (za5 HO741) hb);have BK743:=Aside0.mk hbox;have GW743:=zH (w:=w) hg (za6 HB GE730 GE731 GE737);have GE743:=GW743;replace HB:=Aside0.mk (qab (za6 HB GE730 GE731 GE737) hb);have NB730_743:=zL BK730 hg;have NB743_730:=zG BK730 hg;replace BK730:=Aside0.mk (qaa (zB BK730) hb);have NB731_743:=zL BK731 hg;have NB743_731:=zG BK731 hg;replace BK731:=Aside0.mk (qaa (zB BK731) hb);have NB737_743:=zL BK737 hg;have NB743_737:=zG BK737 hg;replace BK737:=Aside0.mk (qaa (zB BK737) hb);clear hb hbox hg;have hnb25:=NB743_730.out;have hnc25:=NB730_743.out;have hnb26:=NB743_731.out;have hnc26:=NB731_743.out;have hnb27:=NB743_737.out;have hnc27:=NB737_743.out;obtain⟨hcz28_0,hcz28_1,hfz28_0,hfz28_1⟩:=zC2 BK743;obtain⟨Ao29,co29,eo29⟩:=Kd.R_slice HO741.out;subst eo29))
  (try simp only[Act.put,List.setIfInBounds_toArray,List.set_cons_zero,List.set_cons_succ])
  go_cut [43] (fun v43 wc=>∃(kq:Nat) (x43_5:Bool),v43=.bool x43_5∧Aside0 (laws_FnStockTwice.j0 kq t736 t742 x43_5 t725 t726 t727 t732 t733 t738 t739=some r)∧Aside0 (kq≤k)∧Aside0 (Kd.Q k49 49 wc w.heap.size (fun k_=>some k_≠((.slice Ao20 t733.length co20):Value).ownBlock∧some k_≠((.slice Ao29 t739.length co29):Value).ownBlock) (.slice Ao12 t722.length co12) t722)∧Aside0 (Kd.V (Kd.int .i64) 3 wc w.heap.size (fun k_=>some k_≠((.slice Ao12 t722.length co12):Value).ownBlock∧some k_≠((.slice Ao20 t733.length co20):Value).ownBlock∧some k_≠((.slice Ao29 t739.length co29):Value).ownBlock∧k_≠gb730∧k_≠gb731∧k_≠gb737∧k_≠gb743) (.slice Ao14 t727.length co14) t727)∧Aside0 (Kd.Q k49 49 wc w.heap.size (fun k_=>some k_≠((.slice Ao12 t722.length co12):Value).ownBlock∧some k_≠((.slice Ao29 t739.length co29):Value).ownBlock) (.slice Ao20 t733.length co20) t733)∧Aside0 (Kd.Q k49 49 wc w.heap.size (fun k_=>some k_≠((.slice Ao12 t722.length co12):Value).ownBlock∧some k_≠((.slice Ao20 t733.length co20):Value).ownBlock) (.slice Ao29 t739.length co29) t739)∧Aside0 (wc.heap[gb730]?=some (.cells #[.int .i64 t721,(.slice Ao12 t722.length co12)] 38 (0,0)))∧Aside0 (wc.heap[gb731]?=some (.cells #[.int .i64 t725,.int .i64 t726,(.slice Ao14 t727.length co14)] 32 (0,0)))∧Aside0 (wc.heap[gb737]?=some (.cells #[.int .i64 t732,(.slice Ao20 t733.length co20)] 38 (0,0)))∧Aside0 (wc.heap[gb743]?=some (.cells #[.int .i64 t738,(.slice Ao29 t739.length co29)] 38 (0,0)))∧Aside0 (Below w.heap.size w wc))
  case first=>
   have H:=HC6.out
   clear HC6
   by_cases c30:(t742 != t736)=true
   ·rw[if_pos c30] at H
    have c30b0:(t742 != t736)=true:=c30
    (try(have c30b1:decide (t742=t736)=false:=by simpa using c30))
    (try(have c30b2:(t742 == t736)=false:=by simpa using c30))
    (try(have c30b3:¬(t742=t736):=by simpa using c30))
    clear c30
    (first|rw[c30b0]|(simp only[qaf,qag];rw[c30b0])|skip)
    have H':=Aside0.mk H
    clear H
    go_wp2
    go_meet
    case rel=>exact⟨_,(true),(za43),H',⟨za57⟩,⟨by(with_reducible repeat(first|apply Kd.Q_alloc|apply Kd.Q_drewN|apply Kd.Q_drew));exact Kd.Q_mono (Kd.Q_far (p:=⟨gb743,1,none⟩) (Kd.Q_far (p:=⟨gb743,0,none⟩) (Kd.Q_types HO724.out BK743.out (by decide)) (fun _ hk=>hk.2) (.int .i64 t738)) (fun _ hk=>hk.2) (.slice Ao29 t739.length co29)) (fun _ hk=>⟨hk.1.1.2,hk.1.2⟩)⟩,⟨by(with_reducible repeat(first|apply Kd.V_alloc|apply Kd.V_drewN|apply Kd.V_drew));exact Kd.V_mono (Kd.V_far (p:=⟨gb743,1,none⟩) (Kd.V_far (p:=⟨gb743,0,none⟩) (Kd.V_mono HO729.out (fun k_ hk=>(⟨hk,hk.2⟩:_∧k_≠gb743))) (fun _ hk=>hk.2) (.int .i64 t738)) (fun _ hk=>hk.2) (.slice Ao29 t739.length co29)) (fun _ hk=>⟨hk.1.1.1.1.1.1.1,⟨hk.1.1.1.1.2,⟨hk.1.1.2,⟨hk.1.1.1.1.1.1.2,⟨hk.1.1.1.1.1.2,⟨hk.1.1.1.2,hk.1.2⟩⟩⟩⟩⟩⟩)⟩,⟨Kd.Q_of_R (by(with_reducible repeat(first|apply Kd.R_alloc|apply Kd.R_drewN|apply Kd.R_drew));exact Kd.R_mono (Kd.R_far (p:=⟨gb743,1,none⟩) (Kd.R_far (p:=⟨gb743,0,none⟩) (Kd.R_types HO735.out BK743.out (by decide)) (fun _ hk=>hk.2) (.int .i64 t738)) (fun _ hk=>hk.2) (.slice Ao29 t739.length co29)) (fun _ hk=>⟨hk.1.1.2,hk.1.2⟩))⟩,⟨Kd.Q_of_R (by(with_reducible repeat(first|apply Kd.R_alloc|apply Kd.R_drewN|apply Kd.R_drew));exact Kd.R_mono (Kd.R_far (p:=⟨gb743,1,none⟩) (Kd.R_far (p:=⟨gb743,0,none⟩) (Kd.R_types HO741.out BK743.out (by decide)) (fun _ hk=>hk.2) (.int .i64 t738)) (fun _ hk=>hk.2) (.slice Ao29 t739.length co29)) (fun _ hk=>⟨hk.1.1.2,hk.1.2⟩))⟩,⟨za0 NB730_743 BK730⟩,⟨za0 NB731_743 BK731⟩,⟨za0 NB737_743 BK737⟩,⟨by(with_reducible repeat(first|refine blk_drewN ?_ _|refine blk_drew ?_|refine blk_alloc ?_ _));refine qad (cs:=#[.int .i64 t738,.slice none 0 0]) ?_ 1 _ rfl;(with_reducible repeat(first|refine blk_drewN ?_ _|refine blk_drew ?_|refine blk_alloc ?_ _));refine qad (cs:=#[.int .i64 0,.slice none 0 0]) ?_ 0 _ rfl;(with_reducible repeat(first|refine blk_drewN ?_ _|refine blk_drew ?_|refine blk_alloc ?_ _));exact BK743.out⟩,⟨za7 HB GE730 GE731 GE737 GE743⟩⟩
   ·rw[if_neg c30] at H
    have c30b0:(t742 != t736)=false:=by simpa using c30
    (try(have c30b1:decide (t742=t736)=true:=by simpa using c30))
    (try(have c30b2:(t742 == t736)=true:=by simpa using c30))
    clear c30
    (first|rw[c30b0]|(simp only[qaf,qag];rw[c30b0])|skip)
    replace H:=Option.bind_eq_some_iff.mp H
    obtain⟨t744,A310,H⟩:=H
    replace H:(if t744=true then(laws_FnStockTwice.j0 k t736 t742 (!t742) t725 t726 t727 t732 t733 t738 t739) else(laws_FnStockTwice.j0 k t736 t742 true t725 t726 t727 t732 t733 t738 t739))=some r:=H
    have A31:=Aside0.mk A310
    clear A310
    by_cases c32:t744=true
    ·subst c32
     have H1:(laws_FnStockTwice.j0 k t736 t742 (!t742) t725 t726 t727 t732 t733 t738 t739)=some r:=by rw[if_pos rfl] at H;exact H
     clear H
     have H:=H1
     clear H1
     have H':=Aside0.mk H
     clear H
     have hnb33:=NB743_730.out
     have hnc33:=NB730_743.out
     have hnb34:=NB743_731.out
     have hnc34:=NB731_743.out
     have hnb35:=NB743_737.out
     have hnc35:=NB737_743.out
     obtain⟨hcz36_0,hcz36_1,hfz36_0,hfz36_1⟩:=zC2 BK743
     have hnb37:=NB737_730.out
     have hnc37:=NB730_737.out
     have hnb38:=NB737_731.out
     have hnc38:=NB731_737.out
     obtain⟨hcz39_0,hcz39_1,hfz39_0,hfz39_1⟩:=zC2 BK737
     go_wp2_with(first|(go_at_call 23;(with_reducible refine(laws_lnStock.calls k t738 _ _ t739 t732 _ _ t733 true _ ?side1 ?side2 ?side3 ?side4 A31.out).mono ?_);(case side1=>refine(Kd.R_reads' (e:=49) (base:=w.heap.size) (ok:=fun k_=>((True∧some k_≠(.slice Ao12 t722.length co12:Value).ownBlock)∧some k_≠(.slice Ao20 t733.length co20:Value).ownBlock)) (n:=t739.length) (c:=co29) ?_).2.2;exact(by(with_reducible repeat(first|apply Kd.R_alloc|apply Kd.R_drewN|apply Kd.R_drew));exact(Kd.R_mono (Kd.R_far (p:=⟨gb743,1,none⟩) (Kd.R_far (p:=⟨gb743,0,none⟩) (Kd.R_types HO741.out BK743.out (by decide)) (fun _ hk=>hk.2) (.int .i64 t738)) (fun _ hk=>hk.2) (.slice Ao29 t739.length co29)) (fun _ h_=>h_.1))));(case side2=>exact(Kd.R_reads' HO741.out).2.1);(case side3=>refine(Kd.R_reads' (e:=49) (base:=w.heap.size) (ok:=fun k_=>((True∧some k_≠(.slice Ao12 t722.length co12:Value).ownBlock)∧some k_≠(.slice Ao29 t739.length co29:Value).ownBlock)) (n:=t733.length) (c:=co20) ?_).2.2;exact(by(with_reducible repeat(first|apply Kd.R_alloc|apply Kd.R_drewN|apply Kd.R_drew));exact(Kd.R_mono (Kd.R_far (p:=⟨gb743,1,none⟩) (Kd.R_far (p:=⟨gb743,0,none⟩) (Kd.R_types HO735.out BK743.out (by decide)) (fun _ hk=>hk.2) (.int .i64 t738)) (fun _ hk=>hk.2) (.slice Ao29 t739.length co29)) (fun _ h_=>h_.1))));(case side4=>exact(Kd.R_reads' HO735.out).2.1);rintro e w40 ⟨rfl,hb⟩;replace HO724:=Aside0.mk (Kd.Q_below (by(with_reducible repeat(first|apply Kd.Q_alloc|apply Kd.Q_drewN|apply Kd.Q_drew));exact(Kd.Q_mono (Kd.Q_far (p:=⟨gb743,1,none⟩) (Kd.Q_far (p:=⟨gb743,0,none⟩) (Kd.Q_types HO724.out BK743.out (by decide)) (fun _ hk=>hk.2) (.int .i64 t738)) (fun _ hk=>hk.2) (.slice Ao29 t739.length co29)) (fun _ h_=>h_.1))) hb);replace HO729:=Aside0.mk (Kd.V_below (by(with_reducible repeat(first|apply Kd.V_alloc|apply Kd.V_drewN|apply Kd.V_drew));exact(Kd.V_mono (Kd.V_far (p:=⟨gb743,1,none⟩) (Kd.V_far (p:=⟨gb743,0,none⟩) (Kd.V_mono HO729.out (fun k_ hk=>(⟨hk,hk.2⟩:_∧k_≠gb743))) (fun _ hk=>hk.2) (.int .i64 t738)) (fun _ hk=>hk.2) (.slice Ao29 t739.length co29)) (fun _ h_=>h_.1))) hb);replace HO735:=Aside0.mk (Kd.R_below (by(with_reducible repeat(first|apply Kd.R_alloc|apply Kd.R_drewN|apply Kd.R_drew));exact(Kd.R_mono (Kd.R_far (p:=⟨gb743,1,none⟩) (Kd.R_far (p:=⟨gb743,0,none⟩) (Kd.R_types HO735.out BK743.out (by decide)) (fun _ hk=>hk.2) (.int .i64 t738)) (fun _ hk=>hk.2) (.slice Ao29 t739.length co29)) (fun _ h_=>h_.1))) hb);replace HO741:=Aside0.mk (Kd.R_below (by(with_reducible repeat(first|apply Kd.R_alloc|apply Kd.R_drewN|apply Kd.R_drew));exact(Kd.R_mono (Kd.R_far (p:=⟨gb743,1,none⟩) (Kd.R_far (p:=⟨gb743,0,none⟩) (Kd.R_types HO741.out BK743.out (by decide)) (fun _ hk=>hk.2) (.int .i64 t738)) (fun _ hk=>hk.2) (.slice Ao29 t739.length co29)) (fun _ h_=>h_.1))) hb);replace BK730:=Aside0.mk (qaa (g:=gb730) (o:=.cells #[.int .i64 t721,.slice Ao12 t722.length co12] 38 (0,0)) (za0 NB730_743 BK730) hb);replace BK731:=Aside0.mk (qaa (g:=gb731) (o:=.cells #[.int .i64 t725,.int .i64 t726,.slice Ao14 t727.length co14] 32 (0,0)) (za0 NB731_743 BK731) hb);replace BK737:=Aside0.mk (qaa (g:=gb737) (o:=.cells #[.int .i64 t732,.slice Ao20 t733.length co20] 38 (0,0)) (za0 NB737_743 BK737) hb);replace BK743:=Aside0.mk (qaa (g:=gb743) (o:=.cells #[.int .i64 t738,.slice Ao29 t739.length co29] 38 (0,0)) (by(with_reducible repeat(first|refine blk_drewN ?_ _|refine blk_drew ?_|refine blk_alloc ?_ _));refine qad (cs:=#[.int .i64 t738,.slice none 0 0]) ?_ 1 _ rfl;(with_reducible repeat(first|refine blk_drewN ?_ _|refine blk_drew ?_|refine blk_alloc ?_ _));refine qad (cs:=#[.int .i64 0,.slice none 0 0]) ?_ 0 _ rfl;(with_reducible repeat(first|refine blk_drewN ?_ _|refine blk_drew ?_|refine blk_alloc ?_ _));exact BK743.out) hb);replace HB:=Aside0.mk (qab (za7 HB GE730 GE731 GE737 GE743) hb);(try clear hb)))
     go_meet
     case rel=>exact⟨_,(!t742),(za43),H',⟨za57⟩,⟨by(with_reducible repeat(first|apply Kd.Q_alloc|apply Kd.Q_drewN|apply Kd.Q_drew));exact Kd.Q_mono HO724.out (fun _ hk=>⟨hk.1.2,hk.2⟩)⟩,⟨by(with_reducible repeat(first|apply Kd.V_alloc|apply Kd.V_drewN|apply Kd.V_drew));exact Kd.V_mono HO729.out (fun _ hk=>⟨hk.1.1.1.1.1.1,⟨hk.1.1.1.2,⟨hk.1.2,⟨hk.1.1.1.1.1.2,⟨hk.1.1.1.1.2,⟨hk.1.1.2,hk.2⟩⟩⟩⟩⟩⟩)⟩,⟨Kd.Q_of_R (by(with_reducible repeat(first|apply Kd.R_alloc|apply Kd.R_drewN|apply Kd.R_drew));exact Kd.R_mono HO735.out (fun _ hk=>⟨hk.1.2,hk.2⟩))⟩,⟨Kd.Q_of_R (by(with_reducible repeat(first|apply Kd.R_alloc|apply Kd.R_drewN|apply Kd.R_drew));exact Kd.R_mono HO741.out (fun _ hk=>⟨hk.1.2,hk.2⟩))⟩,⟨za24 BK730⟩,⟨za24 BK731⟩,⟨za24 BK737⟩,⟨za24 BK743⟩,⟨za7 HB GE730 GE731 GE737 GE743⟩⟩
    ·replace c32:=Bool.eq_false_iff.mpr c32
     subst c32
     have H1:(laws_FnStockTwice.j0 k t736 t742 true t725 t726 t727 t732 t733 t738 t739)=some r:=by rw[if_neg (show ¬(false=true) by decide)] at H;exact H
     clear H
     have H:=H1
     clear H1
     have H':=Aside0.mk H
     clear H
     have hnb41:=NB743_730.out
     have hnc41:=NB730_743.out
     have hnb42:=NB743_731.out
     have hnc42:=NB731_743.out
     have hnb43:=NB743_737.out
     have hnc43:=NB737_743.out
     obtain⟨hcz44_0,hcz44_1,hfz44_0,hfz44_1⟩:=zC2 BK743
     have hnb45:=NB737_730.out
     have hnc45:=NB730_737.out
     have hnb46:=NB737_731.out
     have hnc46:=NB731_737.out
     obtain⟨hcz47_0,hcz47_1,hfz47_0,hfz47_1⟩:=zC2 BK737
     go_wp2_with(first|(go_at_call 23;(with_reducible refine(laws_lnStock.calls k t738 _ _ t739 t732 _ _ t733 false _ ?side1 ?side2 ?side3 ?side4 A31.out).mono ?_);(case side1=>refine(Kd.R_reads' (e:=49) (base:=w.heap.size) (ok:=fun k_=>((True∧some k_≠(.slice Ao12 t722.length co12:Value).ownBlock)∧some k_≠(.slice Ao20 t733.length co20:Value).ownBlock)) (n:=t739.length) (c:=co29) ?_).2.2;exact(by(with_reducible repeat(first|apply Kd.R_alloc|apply Kd.R_drewN|apply Kd.R_drew));exact(Kd.R_mono (Kd.R_far (p:=⟨gb743,1,none⟩) (Kd.R_far (p:=⟨gb743,0,none⟩) (Kd.R_types HO741.out BK743.out (by decide)) (fun _ hk=>hk.2) (.int .i64 t738)) (fun _ hk=>hk.2) (.slice Ao29 t739.length co29)) (fun _ h_=>h_.1))));(case side2=>exact(Kd.R_reads' HO741.out).2.1);(case side3=>refine(Kd.R_reads' (e:=49) (base:=w.heap.size) (ok:=fun k_=>((True∧some k_≠(.slice Ao12 t722.length co12:Value).ownBlock)∧some k_≠(.slice Ao29 t739.length co29:Value).ownBlock)) (n:=t733.length) (c:=co20) ?_).2.2;exact(by(with_reducible repeat(first|apply Kd.R_alloc|apply Kd.R_drewN|apply Kd.R_drew));exact(Kd.R_mono (Kd.R_far (p:=⟨gb743,1,none⟩) (Kd.R_far (p:=⟨gb743,0,none⟩) (Kd.R_types HO735.out BK743.out (by decide)) (fun _ hk=>hk.2) (.int .i64 t738)) (fun _ hk=>hk.2) (.slice Ao29 t739.length co29)) (fun _ h_=>h_.1))));(case side4=>exact(Kd.R_reads' HO735.out).2.1);rintro e w48 ⟨rfl,hb⟩;replace HO724:=Aside0.mk (Kd.Q_below (by(with_reducible repeat(first|apply Kd.Q_alloc|apply Kd.Q_drewN|apply Kd.Q_drew));exact(Kd.Q_mono (Kd.Q_far (p:=⟨gb743,1,none⟩) (Kd.Q_far (p:=⟨gb743,0,none⟩) (Kd.Q_types HO724.out BK743.out (by decide)) (fun _ hk=>hk.2) (.int .i64 t738)) (fun _ hk=>hk.2) (.slice Ao29 t739.length co29)) (fun _ h_=>h_.1))) hb);replace HO729:=Aside0.mk (Kd.V_below (by(with_reducible repeat(first|apply Kd.V_alloc|apply Kd.V_drewN|apply Kd.V_drew));exact(Kd.V_mono (Kd.V_far (p:=⟨gb743,1,none⟩) (Kd.V_far (p:=⟨gb743,0,none⟩) (Kd.V_mono HO729.out (fun k_ hk=>(⟨hk,hk.2⟩:_∧k_≠gb743))) (fun _ hk=>hk.2) (.int .i64 t738)) (fun _ hk=>hk.2) (.slice Ao29 t739.length co29)) (fun _ h_=>h_.1))) hb);replace HO735:=Aside0.mk (Kd.R_below (by(with_reducible repeat(first|apply Kd.R_alloc|apply Kd.R_drewN|apply Kd.R_drew));exact(Kd.R_mono (Kd.R_far (p:=⟨gb743,1,none⟩) (Kd.R_far (p:=⟨gb743,0,none⟩) (Kd.R_types HO735.out BK743.out (by decide)) (fun _ hk=>hk.2) (.int .i64 t738)) (fun _ hk=>hk.2) (.slice Ao29 t739.length co29)) (fun _ h_=>h_.1))) hb);replace HO741:=Aside0.mk (Kd.R_below (by(with_reducible repeat(first|apply Kd.R_alloc|apply Kd.R_drewN|apply Kd.R_drew));exact(Kd.R_mono (Kd.R_far (p:=⟨gb743,1,none⟩) (Kd.R_far (p:=⟨gb743,0,none⟩) (Kd.R_types HO741.out BK743.out (by decide)) (fun _ hk=>hk.2) (.int .i64 t738)) (fun _ hk=>hk.2) (.slice Ao29 t739.length co29)) (fun _ h_=>h_.1))) hb);replace BK730:=Aside0.mk (qaa (g:=gb730) (o:=.cells #[.int .i64 t721,.slice Ao12 t722.length co12] 38 (0,0)) (za0 NB730_743 BK730) hb);replace BK731:=Aside0.mk (qaa (g:=gb731) (o:=.cells #[.int .i64 t725,.int .i64 t726,.slice Ao14 t727.length co14] 32 (0,0)) (za0 NB731_743 BK731) hb);replace BK737:=Aside0.mk (qaa (g:=gb737) (o:=.cells #[.int .i64 t732,.slice Ao20 t733.length co20] 38 (0,0)) (za0 NB737_743 BK737) hb);replace BK743:=Aside0.mk (qaa (g:=gb743) (o:=.cells #[.int .i64 t738,.slice Ao29 t739.length co29] 38 (0,0)) (by(with_reducible repeat(first|refine blk_drewN ?_ _|refine blk_drew ?_|refine blk_alloc ?_ _));refine qad (cs:=#[.int .i64 t738,.slice none 0 0]) ?_ 1 _ rfl;(with_reducible repeat(first|refine blk_drewN ?_ _|refine blk_drew ?_|refine blk_alloc ?_ _));refine qad (cs:=#[.int .i64 0,.slice none 0 0]) ?_ 0 _ rfl;(with_reducible repeat(first|refine blk_drewN ?_ _|refine blk_drew ?_|refine blk_alloc ?_ _));exact BK743.out) hb);replace HB:=Aside0.mk (qab (za7 HB GE730 GE731 GE737 GE743) hb);(try clear hb)))
     go_meet
     case rel=>exact⟨_,(true),(za43),H',⟨za57⟩,⟨by(with_reducible repeat(first|apply Kd.Q_alloc|apply Kd.Q_drewN|apply Kd.Q_drew));exact Kd.Q_mono HO724.out (fun _ hk=>⟨hk.1.2,hk.2⟩)⟩,⟨by(with_reducible repeat(first|apply Kd.V_alloc|apply Kd.V_drewN|apply Kd.V_drew));exact Kd.V_mono HO729.out (fun _ hk=>⟨hk.1.1.1.1.1.1,⟨hk.1.1.1.2,⟨hk.1.2,⟨hk.1.1.1.1.1.2,⟨hk.1.1.1.1.2,⟨hk.1.1.2,hk.2⟩⟩⟩⟩⟩⟩)⟩,⟨Kd.Q_of_R (by(with_reducible repeat(first|apply Kd.R_alloc|apply Kd.R_drewN|apply Kd.R_drew));exact Kd.R_mono HO735.out (fun _ hk=>⟨hk.1.2,hk.2⟩))⟩,⟨Kd.Q_of_R (by(with_reducible repeat(first|apply Kd.R_alloc|apply Kd.R_drewN|apply Kd.R_drew));exact Kd.R_mono HO741.out (fun _ hk=>⟨hk.1.2,hk.2⟩))⟩,⟨za24 BK730⟩,⟨za24 BK731⟩,⟨za24 BK737⟩,⟨za24 BK743⟩,⟨za7 HB GE730 GE731 GE737 GE743⟩⟩
  case rest=>
   clear HC6
   try clear c1
   try clear c2
   try clear c2b0
   try clear c2b1
   try clear p2
   try clear c3
   try clear c4
   try clear c7
   try clear c10
   try clear c17
   try clear c18
   try clear c24
   try clear c25
   try clear c26
   try clear c27
   try clear c30
   try clear c30b0
   try clear c30b1
   try clear c30b2
   try clear c32
   try clear c33
   try clear c34
   try clear c35
   try clear c37
   try clear c38
   try clear c41
   try clear c42
   try clear c43
   try clear c45
   try clear c46
   try clear hcz11_0
   try clear hcz11_1
   try clear hcz13_0
   try clear hcz13_1
   try clear hcz13_2
   try clear hcz19_0
   try clear hcz19_1
   try clear hcz21_0
   try clear hcz21_1
   try clear hcz22_0
   try clear hcz22_1
   try clear hcz22_2
   try clear hcz28_0
   try clear hcz28_1
   try clear hcz36_0
   try clear hcz36_1
   try clear hcz39_0
   try clear hcz39_1
   try clear hcz44_0
   try clear hcz44_1
   try clear hcz47_0
   try clear hcz47_1
   try clear hfz11_0
   try clear hfz11_1
   try clear hfz13_0
   try clear hfz13_1
   try clear hfz13_2
   try clear hfz19_0
   try clear hfz19_1
   try clear hfz21_0
   try clear hfz21_1
   try clear hfz22_0
   try clear hfz22_1
   try clear hfz22_2
   try clear hfz28_0
   try clear hfz28_1
   try clear hfz36_0
   try clear hfz36_1
   try clear hfz39_0
   try clear hfz39_1
   try clear hfz44_0
   try clear hfz44_1
   try clear hfz47_0
   try clear hfz47_1
   obtain⟨kq,x43_5,rfl,HA,HJ5,HO_731001,HO_732002,HO_738001,HO_744001,BK730,BK731,BK737,BK743,HB⟩:=hcut
   cases kq with
   |zero=>exact absurd HA.out (by simp[laws_FnStockTwice.j0])
   |succ kj5=>
    have H:=HA.out
    clear HA
    simp only[laws_FnStockTwice.j0] at H
    by_cases c49:x43_5=true
    ·subst c49
     have H1:(if(t742 == t736)=true then((laws_lnStock.f kj5 t738 t739 t732 t733).bind fun t745=>(some t745)) else(some false))=some r:=by rw[if_pos rfl] at H;exact H
     clear H
     have H:=H1
     clear H1
     by_cases c50:(t742 == t736)=true
     ·rw[if_pos c50] at H
      have c50b0:(t742 == t736)=true:=c50
      (try(have c50b1:decide (t742=t736)=true:=by simpa using c50))
      (try(have c50b2:(t742 == t736)=true:=by simpa using c50))
      clear c50
      replace H:=Option.bind_eq_some_iff.mp H
      obtain⟨t745,A510,H⟩:=H
      replace H:(some t745)=some r:=H
      have A51:=Aside0.mk A510
      clear A510
      obtain rfl:=Option.some.inj H
      have hnb52:=NB743_730.out
      have hnc52:=NB730_743.out
      have hnb53:=NB743_731.out
      have hnc53:=NB731_743.out
      have hnb54:=NB743_737.out
      have hnc54:=NB737_743.out
      obtain⟨hcz55_0,hcz55_1,hfz55_0,hfz55_1⟩:=zC2 BK743
      have hnb56:=NB737_730.out
      have hnc56:=NB730_737.out
      have hnb57:=NB737_731.out
      have hnc57:=NB731_737.out
      obtain⟨hcz58_0,hcz58_1,hfz58_0,hfz58_1⟩:=zC2 BK737
      go_wp2_with(first|(go_at_call 23;(with_reducible refine(laws_lnStock.calls kj5 t738 _ _ t739 t732 _ _ t733 t745 _ ?side1 ?side2 ?side3 ?side4 A51.out).mono ?_);(case side1=>repeat(first|exact(Kd.Q_reads' HO_744001.out).2.2|(with_reducible refine Kd.C_alloc ?_ _)|(with_reducible refine Kd.C_drewN ?_ _)|(with_reducible refine Kd.C_drew ?_)));(case side2=>exact(Kd.Q_reads' HO_744001.out).2.1);(case side3=>repeat(first|exact(Kd.Q_reads' HO_738001.out).2.2|(with_reducible refine Kd.C_alloc ?_ _)|(with_reducible refine Kd.C_drewN ?_ _)|(with_reducible refine Kd.C_drew ?_)));(case side4=>exact(Kd.Q_reads' HO_738001.out).2.1);rintro e w59 ⟨rfl,hb⟩;replace HO_731001:=Aside0.mk (Kd.Q_below (za10 HO_731001) hb);replace HO_732002:=Aside0.mk (Kd.V_below (za42 HO_732002) hb);replace HO_738001:=Aside0.mk (Kd.Q_below (za10 HO_738001) hb);replace HO_744001:=Aside0.mk (Kd.Q_below (za10 HO_744001) hb);replace BK730:=Aside0.mk (qaa (zB BK730) hb);replace BK731:=Aside0.mk (qaa (zB BK731) hb);replace BK737:=Aside0.mk (qaa (zB BK737) hb);replace BK743:=Aside0.mk (qaa (zB BK743) hb);replace HB:=Aside0.mk (qab (za7 HB GE730 GE731 GE737 GE743) hb);(try clear hb)))
      go_ret
      exact⟨za16,za7 HB GE730 GE731 GE737 GE743⟩
     ·rw[if_neg c50] at H
      have c50b0:(t742 == t736)=false:=by simpa using c50
      (try(have c50b1:decide (t742=t736)=false:=by simpa using c50))
      (try(have c50b2:(t742 == t736)=false:=by simpa using c50))
      (try(have c50b3:¬(t742=t736):=by simpa using c50))
      clear c50
      obtain rfl:=Option.some.inj H
      go_wp2
      go_ret
      exact⟨za16,za7 HB GE730 GE731 GE737 GE743⟩
    ·replace c49:=Bool.eq_false_iff.mpr c49
     subst c49
     have H1:((impl_StockMay.f kj5 t738 t739 t725 t726 t727).bind fun t751=>(if t751=true then(some false) else((impl_StockMay.f kj5 t738 t739 1 t726 (([1]:List Int))).bind fun t752=>(if t752=true then(some false) else((impl_StockMay.f kj5 t738 t739 2 t726 ([]:List Int)).bind fun t753=>(some (t753 == (t725 == 1))))))))=some r:=by rw[if_neg (show ¬(false=true) by decide)] at H;exact H
     clear H
     have H:=H1
     clear H1
     obtain⟨y746,hy746⟩:∃y_:List Int,y_=(([1]:List Int)):=⟨_,rfl⟩
     replace H:((impl_StockMay.f kj5 t738 t739 t725 t726 t727).bind fun t751=>(if t751=true then(some false) else((impl_StockMay.f kj5 t738 t739 1 t726 y746).bind fun t752=>(if t752=true then(some false) else((impl_StockMay.f kj5 t738 t739 2 t726 ([]:List Int)).bind fun t753=>(some (t753 == (t725 == 1))))))))=some r:=by first|(rw[hy746];with_reducible exact H)|(have H2_:=(Option.bind_some _ _).symm.trans H;rw[hy746];with_reducible exact H2_)|(have H2_:=(Option.bind_some _ _).symm.trans H;with_reducible exact H2_)|with_reducible exact H|(rw[hy746];exact H)|exact H
     have Ny746:=Aside0.mk hy746
     clear hy746
     replace H:=Option.bind_eq_some_iff.mp H
     obtain⟨t751,A600,H⟩:=H
     replace H:(if t751=true then(some false) else((impl_StockMay.f kj5 t738 t739 1 t726 y746).bind fun t752=>(if t752=true then(some false) else((impl_StockMay.f kj5 t738 t739 2 t726 ([]:List Int)).bind fun t753=>(some (t753 == (t725 == 1)))))))=some r:=H
     have A60:=Aside0.mk A600
     clear A600
     by_cases c61:t751=true
     ·subst c61
      have H1:(some false)=some r:=by rw[if_pos rfl] at H;exact H
      clear H
      have H:=H1
      clear H1
      obtain rfl:=Option.some.inj H
      have hnb62:=NB731_730.out
      have hnc62:=NB730_731.out
      have hnb63:=NB731_737.out
      have hnc63:=NB737_731.out
      have hnb64:=NB731_743.out
      have hnc64:=NB743_731.out
      obtain⟨hcz65_0,hcz65_1,hcz65_2,hfz65_0,hfz65_1,hfz65_2⟩:=zC3 BK731
      try go_wp2_with(first|((with_reducible refine qae (N:=54) rfl ?_);refine Kd.R_lit (Kd.int .i64) _ 3 (by rfl) (N:=54) (by rfl) (xs:=([1]:List Int)) (inner:=[.int .i64 1]) (ok:=fun _=>True) (okp:=fun _=>True) (by first|(go_simp;done)|(go_simp;rfl)) ?hp (fun _ hk=>hk) trivial (Below.refl _ _) (Nat.le_refl _) (by simp) ?_;(case hp=>exact(Reps.one (show Kd.M (Kd.int .i64) _ _ _ 1 [.int .i64 1] from rfl) (Reps.none _ _)));intro v747 w66 ho67 hb hg_ hnew_;clear hg_ hnew_;(first|rw[←Ny746.out] at ho67|(simp only[Int.reduceToNat] at ho67;rw[←Ny746.out] at ho67));replace HO_731001:=Aside0.mk (Kd.Q_below (za10 HO_731001) hb);replace HO_732002:=Aside0.mk (Kd.V_elder' (za42 HO_732002) (Kd.R_base ho67) hb);replace HO_738001:=Aside0.mk (Kd.Q_below (za10 HO_738001) hb);replace HO_744001:=Aside0.mk (Kd.Q_below (za10 HO_744001) hb);have HO748:=Aside0.mk (Kd.R_lower ho67 (below_size (za7 HB GE730 GE731 GE737 GE743)));replace BK730:=Aside0.mk (qaa (zB BK730) hb);replace BK731:=Aside0.mk (qaa (zB BK731) hb);replace BK737:=Aside0.mk (qaa (zB BK737) hb);replace BK743:=Aside0.mk (qaa (zB BK743) hb);replace HB:=Aside0.mk (qab (za7 HB GE730 GE731 GE737 GE743) hb);clear hb ho67;obtain⟨Ao68,co68,eo68⟩:=Kd.R_slice HO748.out;subst eo68)|((with_reducible refine qae (N:=9) rfl ?_);refine zX (N:=9) (cs:=#[.int .i64 0,.int .i64 0,.slice none 0 0]) (t:=32) ?_;intro gb749 hg w69 hbox hb;replace HO_731001:=Aside0.mk (Kd.Q_below (za10 HO_731001) hb);replace HO_732002:=Aside0.mk (Kd.V_below (Kd.V_elderB (za42 HO_732002) gb749 (Nat.le_of_eq hg.symm)) hb);replace HO_738001:=Aside0.mk (Kd.Q_below (za10 HO_738001) hb);replace HO_744001:=Aside0.mk (Kd.Q_below (za10 HO_744001) hb);replace HO748:=Aside0.mk (Kd.R_below (za5 HO748) hb);have BK749:=Aside0.mk hbox;have GW749:=zH (w:=w) hg (za7 HB GE730 GE731 GE737 GE743);have GE749:=GW749;replace HB:=Aside0.mk (qab (za7 HB GE730 GE731 GE737 GE743) hb);have NB730_749:=zL BK730 hg;have NB749_730:=zG BK730 hg;replace BK730:=Aside0.mk (qaa (zB BK730) hb);have NB731_749:=zL BK731 hg;have NB749_731:=zG BK731 hg;replace BK731:=Aside0.mk (qaa (zB BK731) hb);have NB737_749:=zL BK737 hg;have NB749_737:=zG BK737 hg;replace BK737:=Aside0.mk (qaa (zB BK737) hb);have NB743_749:=zL BK743 hg;have NB749_743:=zG BK743 hg;replace BK743:=Aside0.mk (qaa (zB BK743) hb);clear hb hbox hg;have hnb70:=NB749_730.out;have hnc70:=NB730_749.out;have hnb71:=NB749_731.out;have hnc71:=NB731_749.out;have hnb72:=NB749_737.out;have hnc72:=NB737_749.out;have hnb73:=NB749_743.out;have hnc73:=NB743_749.out;obtain⟨hcz74_0,hcz74_1,hcz74_2,hfz74_0,hfz74_1,hfz74_2⟩:=zC3 BK749;obtain⟨hcz75_0,hcz75_1,hcz75_2,hfz75_0,hfz75_1,hfz75_2⟩:=zC3 BK731)|((with_reducible refine qae (N:=10) rfl ?_);refine zX (N:=10) (cs:=#[.int .i64 0,.int .i64 0,.slice none 0 0]) (t:=32) ?_;intro gb750 hg w76 hbox hb;replace HO_731001:=Aside0.mk (Kd.Q_below (by(with_reducible repeat(first|apply Kd.Q_alloc|apply Kd.Q_drewN|apply Kd.Q_drew));exact(Kd.Q_mono (Kd.Q_far (p:=⟨gb749,2,none⟩) (Kd.Q_far (p:=⟨gb749,1,none⟩) (Kd.Q_far (p:=⟨gb749,0,none⟩) (Kd.Q_types HO_731001.out BK749.out (by decide)) (fun _ hk=>hk.2) (.int .i64 1)) (fun _ hk=>hk.2) (.int .i64 t726)) (fun _ hk=>hk.2) (.slice Ao68 y746.length co68)) (fun _ h_=>h_.1))) hb);replace HO_732002:=Aside0.mk (Kd.V_below (Kd.V_elderB (by(with_reducible repeat(first|apply Kd.V_alloc|apply Kd.V_drewN|apply Kd.V_drew));exact(Kd.V_mono (Kd.V_far (p:=⟨gb749,2,none⟩) (Kd.V_far (p:=⟨gb749,1,none⟩) (Kd.V_far (p:=⟨gb749,0,none⟩) (Kd.V_mono HO_732002.out (fun k_ hk=>(⟨hk,hk.2⟩:_∧k_≠gb749))) (fun _ hk=>hk.2) (.int .i64 1)) (fun _ hk=>hk.2) (.int .i64 t726)) (fun _ hk=>hk.2) (.slice Ao68 y746.length co68)) (fun _ h_=>h_.1))) gb750 (Nat.le_of_eq hg.symm)) hb);replace HO_738001:=Aside0.mk (Kd.Q_below (by(with_reducible repeat(first|apply Kd.Q_alloc|apply Kd.Q_drewN|apply Kd.Q_drew));exact(Kd.Q_mono (Kd.Q_far (p:=⟨gb749,2,none⟩) (Kd.Q_far (p:=⟨gb749,1,none⟩) (Kd.Q_far (p:=⟨gb749,0,none⟩) (Kd.Q_types HO_738001.out BK749.out (by decide)) (fun _ hk=>hk.2) (.int .i64 1)) (fun _ hk=>hk.2) (.int .i64 t726)) (fun _ hk=>hk.2) (.slice Ao68 y746.length co68)) (fun _ h_=>h_.1))) hb);replace HO_744001:=Aside0.mk (Kd.Q_below (by(with_reducible repeat(first|apply Kd.Q_alloc|apply Kd.Q_drewN|apply Kd.Q_drew));exact(Kd.Q_mono (Kd.Q_far (p:=⟨gb749,2,none⟩) (Kd.Q_far (p:=⟨gb749,1,none⟩) (Kd.Q_far (p:=⟨gb749,0,none⟩) (Kd.Q_types HO_744001.out BK749.out (by decide)) (fun _ hk=>hk.2) (.int .i64 1)) (fun _ hk=>hk.2) (.int .i64 t726)) (fun _ hk=>hk.2) (.slice Ao68 y746.length co68)) (fun _ h_=>h_.1))) hb);replace HO748:=Aside0.mk (Kd.R_below (by(with_reducible repeat(first|apply Kd.R_alloc|apply Kd.R_drewN|apply Kd.R_drew));exact(Kd.R_mono (Kd.R_far (p:=⟨gb749,2,none⟩) (Kd.R_far (p:=⟨gb749,1,none⟩) (Kd.R_far (p:=⟨gb749,0,none⟩) (Kd.R_types HO748.out BK749.out (by decide)) (fun _ hk=>hk.2) (.int .i64 1)) (fun _ hk=>hk.2) (.int .i64 t726)) (fun _ hk=>hk.2) (.slice Ao68 y746.length co68)) (fun _ h_=>h_.1))) hb);have BK750:=Aside0.mk hbox;have GW750:=zH (w:=w) hg (za52 HB GE730 GE731 GE737 GE743 GE749);have GE750:=GW750;replace HB:=Aside0.mk (qab (za52 HB GE730 GE731 GE737 GE743 GE749) hb);have NB730_750:=Aside0.mk ((by rw[hg];exact Nat.ne_of_lt (blk_lt (g:=gb730) (o:=.cells #[.int .i64 t721,.slice Ao12 t722.length co12] 38 (0,0)) (za3 NB730_749 BK730)):gb730≠gb750));have NB750_730:=Aside0.mk ((by rw[hg];exact Nat.ne_of_gt (blk_lt (g:=gb730) (o:=.cells #[.int .i64 t721,.slice Ao12 t722.length co12] 38 (0,0)) (za3 NB730_749 BK730)):gb750≠gb730));replace BK730:=Aside0.mk (qaa (g:=gb730) (o:=.cells #[.int .i64 t721,.slice Ao12 t722.length co12] 38 (0,0)) (za3 NB730_749 BK730) hb);have NB731_750:=Aside0.mk ((by rw[hg];exact Nat.ne_of_lt (blk_lt (g:=gb731) (o:=.cells #[.int .i64 t725,.int .i64 t726,.slice Ao14 t727.length co14] 32 (0,0)) (za3 NB731_749 BK731)):gb731≠gb750));have NB750_731:=Aside0.mk ((by rw[hg];exact Nat.ne_of_gt (blk_lt (g:=gb731) (o:=.cells #[.int .i64 t725,.int .i64 t726,.slice Ao14 t727.length co14] 32 (0,0)) (za3 NB731_749 BK731)):gb750≠gb731));replace BK731:=Aside0.mk (qaa (g:=gb731) (o:=.cells #[.int .i64 t725,.int .i64 t726,.slice Ao14 t727.length co14] 32 (0,0)) (za3 NB731_749 BK731) hb);have NB737_750:=Aside0.mk ((by rw[hg];exact Nat.ne_of_lt (blk_lt (g:=gb737) (o:=.cells #[.int .i64 t732,.slice Ao20 t733.length co20] 38 (0,0)) (za3 NB737_749 BK737)):gb737≠gb750));have NB750_737:=Aside0.mk ((by rw[hg];exact Nat.ne_of_gt (blk_lt (g:=gb737) (o:=.cells #[.int .i64 t732,.slice Ao20 t733.length co20] 38 (0,0)) (za3 NB737_749 BK737)):gb750≠gb737));replace BK737:=Aside0.mk (qaa (g:=gb737) (o:=.cells #[.int .i64 t732,.slice Ao20 t733.length co20] 38 (0,0)) (za3 NB737_749 BK737) hb);have NB743_750:=Aside0.mk ((by rw[hg];exact Nat.ne_of_lt (blk_lt (g:=gb743) (o:=.cells #[.int .i64 t738,.slice Ao29 t739.length co29] 38 (0,0)) (za3 NB743_749 BK743)):gb743≠gb750));have NB750_743:=Aside0.mk ((by rw[hg];exact Nat.ne_of_gt (blk_lt (g:=gb743) (o:=.cells #[.int .i64 t738,.slice Ao29 t739.length co29] 38 (0,0)) (za3 NB743_749 BK743)):gb750≠gb743));replace BK743:=Aside0.mk (qaa (g:=gb743) (o:=.cells #[.int .i64 t738,.slice Ao29 t739.length co29] 38 (0,0)) (za3 NB743_749 BK743) hb);have NB749_750:=Aside0.mk ((by rw[hg];exact Nat.ne_of_lt (blk_lt (g:=gb749) (o:=.cells #[.int .i64 1,.int .i64 t726,.slice Ao68 y746.length co68] 32 (0,0)) (by(with_reducible repeat(first|refine blk_drewN ?_ _|refine blk_drew ?_|refine blk_alloc ?_ _));refine qad (cs:=#[.int .i64 1,.int .i64 t726,.slice none 0 0]) ?_ 2 _ rfl;(with_reducible repeat(first|refine blk_drewN ?_ _|refine blk_drew ?_|refine blk_alloc ?_ _));refine qad (cs:=#[.int .i64 1,.int .i64 0,.slice none 0 0]) ?_ 1 _ rfl;(with_reducible repeat(first|refine blk_drewN ?_ _|refine blk_drew ?_|refine blk_alloc ?_ _));refine qad (cs:=#[.int .i64 0,.int .i64 0,.slice none 0 0]) ?_ 0 _ rfl;(with_reducible repeat(first|refine blk_drewN ?_ _|refine blk_drew ?_|refine blk_alloc ?_ _));exact BK749.out)):gb749≠gb750));have NB750_749:=Aside0.mk ((by rw[hg];exact Nat.ne_of_gt (blk_lt (g:=gb749) (o:=.cells #[.int .i64 1,.int .i64 t726,.slice Ao68 y746.length co68] 32 (0,0)) (by(with_reducible repeat(first|refine blk_drewN ?_ _|refine blk_drew ?_|refine blk_alloc ?_ _));refine qad (cs:=#[.int .i64 1,.int .i64 t726,.slice none 0 0]) ?_ 2 _ rfl;(with_reducible repeat(first|refine blk_drewN ?_ _|refine blk_drew ?_|refine blk_alloc ?_ _));refine qad (cs:=#[.int .i64 1,.int .i64 0,.slice none 0 0]) ?_ 1 _ rfl;(with_reducible repeat(first|refine blk_drewN ?_ _|refine blk_drew ?_|refine blk_alloc ?_ _));refine qad (cs:=#[.int .i64 0,.int .i64 0,.slice none 0 0]) ?_ 0 _ rfl;(with_reducible repeat(first|refine blk_drewN ?_ _|refine blk_drew ?_|refine blk_alloc ?_ _));exact BK749.out)):gb750≠gb749));replace BK749:=Aside0.mk (qaa (g:=gb749) (o:=.cells #[.int .i64 1,.int .i64 t726,.slice Ao68 y746.length co68] 32 (0,0)) (by(with_reducible repeat(first|refine blk_drewN ?_ _|refine blk_drew ?_|refine blk_alloc ?_ _));refine qad (cs:=#[.int .i64 1,.int .i64 t726,.slice none 0 0]) ?_ 2 _ rfl;(with_reducible repeat(first|refine blk_drewN ?_ _|refine blk_drew ?_|refine blk_alloc ?_ _));refine qad (cs:=#[.int .i64 1,.int .i64 0,.slice none 0 0]) ?_ 1 _ rfl;(with_reducible repeat(first|refine blk_drewN ?_ _|refine blk_drew ?_|refine blk_alloc ?_ _));refine qad (cs:=#[.int .i64 0,.int .i64 0,.slice none 0 0]) ?_ 0 _ rfl;(with_reducible repeat(first|refine blk_drewN ?_ _|refine blk_drew ?_|refine blk_alloc ?_ _));exact BK749.out) hb);clear hb hbox hg;have hnb77:=NB750_730.out;have hnc77:=NB730_750.out;have hnb78:=NB750_731.out;have hnc78:=NB731_750.out;have hnb79:=NB750_737.out;have hnc79:=NB737_750.out;have hnb80:=NB750_743.out;have hnc80:=NB743_750.out;have hnb81:=NB750_749.out;have hnc81:=NB749_750.out;obtain⟨hcz82_0,hcz82_1,hcz82_2,hfz82_0,hfz82_1,hfz82_2⟩:=zC3 BK750))
      have n0_:Aside0 (Kd.Q k49 49 (((w76.setCell ⟨gb750,0,none⟩ (.int .i64 2)).setCell ⟨gb750,1,none⟩ (.int .i64 t726)).setCell ⟨gb750,2,none⟩ (.slice none 0 0)) w.heap.size (fun k_=>some k_≠(.slice Ao20 t733.length co20:Value).ownBlock∧some k_≠(.slice Ao29 t739.length co29:Value).ownBlock) (.slice Ao12 t722.length co12) t722):=⟨by(with_reducible repeat(first|apply Kd.Q_alloc|apply Kd.Q_drewN|apply Kd.Q_drew));exact Kd.Q_mono (Kd.Q_far (p:=⟨gb750,2,none⟩) (Kd.Q_far (p:=⟨gb750,1,none⟩) (Kd.Q_far (p:=⟨gb750,0,none⟩) (Kd.Q_types HO_731001.out BK750.out (by decide)) (fun _ hk=>hk.2) (.int .i64 2)) (fun _ hk=>hk.2) (.int .i64 t726)) (fun _ hk=>hk.2) (.slice none 0 0)) (fun _ hk=>⟨hk.1.1,hk.1.2⟩)⟩
      have n1_:Aside0 (Kd.V (Kd.int .i64) 3 (((w76.setCell ⟨gb750,0,none⟩ (.int .i64 2)).setCell ⟨gb750,1,none⟩ (.int .i64 t726)).setCell ⟨gb750,2,none⟩ (.slice none 0 0)) w.heap.size (fun k_=>some k_≠(.slice Ao12 t722.length co12:Value).ownBlock∧some k_≠(.slice Ao20 t733.length co20:Value).ownBlock∧some k_≠(.slice Ao29 t739.length co29:Value).ownBlock∧some k_≠(.slice Ao68 y746.length co68:Value).ownBlock∧k_≠gb730∧k_≠gb731∧k_≠gb737∧k_≠gb743∧k_≠gb749∧k_≠gb750) (.slice Ao14 t727.length co14) t727):=⟨by(with_reducible repeat(first|apply Kd.V_alloc|apply Kd.V_drewN|apply Kd.V_drew));exact Kd.V_mono (Kd.V_far (p:=⟨gb750,2,none⟩) (Kd.V_far (p:=⟨gb750,1,none⟩) (Kd.V_far (p:=⟨gb750,0,none⟩) (Kd.V_mono HO_732002.out (fun k_ hk=>(⟨hk,hk.2⟩:_∧k_≠gb750))) (fun _ hk=>hk.2) (.int .i64 2)) (fun _ hk=>hk.2) (.int .i64 t726)) (fun _ hk=>hk.2) (.slice none 0 0)) (fun _ hk=>⟨hk.1.1.1.1.1,⟨hk.1.1.1.1.2.1,⟨hk.1.1.1.1.2.2.1,⟨hk.1.1.1.2,⟨hk.1.1.1.1.2.2.2.1,⟨hk.1.1.1.1.2.2.2.2.1,⟨hk.1.1.1.1.2.2.2.2.2.1,⟨hk.1.1.1.1.2.2.2.2.2.2,⟨hk.1.1.2,hk.1.2⟩⟩⟩⟩⟩⟩⟩⟩⟩)⟩
      have n2_:Aside0 (Kd.Q k49 49 (((w76.setCell ⟨gb750,0,none⟩ (.int .i64 2)).setCell ⟨gb750,1,none⟩ (.int .i64 t726)).setCell ⟨gb750,2,none⟩ (.slice none 0 0)) w.heap.size (fun k_=>some k_≠(.slice Ao12 t722.length co12:Value).ownBlock∧some k_≠(.slice Ao29 t739.length co29:Value).ownBlock) (.slice Ao20 t733.length co20) t733):=⟨by(with_reducible repeat(first|apply Kd.Q_alloc|apply Kd.Q_drewN|apply Kd.Q_drew));exact Kd.Q_mono (Kd.Q_far (p:=⟨gb750,2,none⟩) (Kd.Q_far (p:=⟨gb750,1,none⟩) (Kd.Q_far (p:=⟨gb750,0,none⟩) (Kd.Q_types HO_738001.out BK750.out (by decide)) (fun _ hk=>hk.2) (.int .i64 2)) (fun _ hk=>hk.2) (.int .i64 t726)) (fun _ hk=>hk.2) (.slice none 0 0)) (fun _ hk=>⟨hk.1.1,hk.1.2⟩)⟩
      have n3_:Aside0 (Kd.Q k49 49 (((w76.setCell ⟨gb750,0,none⟩ (.int .i64 2)).setCell ⟨gb750,1,none⟩ (.int .i64 t726)).setCell ⟨gb750,2,none⟩ (.slice none 0 0)) w.heap.size (fun k_=>some k_≠(.slice Ao12 t722.length co12:Value).ownBlock∧some k_≠(.slice Ao20 t733.length co20:Value).ownBlock) (.slice Ao29 t739.length co29) t739):=⟨by(with_reducible repeat(first|apply Kd.Q_alloc|apply Kd.Q_drewN|apply Kd.Q_drew));exact Kd.Q_mono (Kd.Q_far (p:=⟨gb750,2,none⟩) (Kd.Q_far (p:=⟨gb750,1,none⟩) (Kd.Q_far (p:=⟨gb750,0,none⟩) (Kd.Q_types HO_744001.out BK750.out (by decide)) (fun _ hk=>hk.2) (.int .i64 2)) (fun _ hk=>hk.2) (.int .i64 t726)) (fun _ hk=>hk.2) (.slice none 0 0)) (fun _ hk=>⟨hk.1.1,hk.1.2⟩)⟩
      have n4_:Aside0 (Kd.R (Kd.int .i64) 3 (((w76.setCell ⟨gb750,0,none⟩ (.int .i64 2)).setCell ⟨gb750,1,none⟩ (.int .i64 t726)).setCell ⟨gb750,2,none⟩ (.slice none 0 0)) w.heap.size (fun _=>True) (.slice Ao68 y746.length co68) y746):=⟨by(with_reducible repeat(first|apply Kd.R_alloc|apply Kd.R_drewN|apply Kd.R_drew));exact Kd.R_mono (Kd.R_far (p:=⟨gb750,2,none⟩) (Kd.R_far (p:=⟨gb750,1,none⟩) (Kd.R_far (p:=⟨gb750,0,none⟩) (Kd.R_types HO748.out BK750.out (by decide)) (fun _ hk=>hk.2) (.int .i64 2)) (fun _ hk=>hk.2) (.int .i64 t726)) (fun _ hk=>hk.2) (.slice none 0 0)) (fun _ hk=>trivial)⟩
      have n5_:Aside0 ((((w76.setCell ⟨gb750,0,none⟩ (.int .i64 2)).setCell ⟨gb750,1,none⟩ (.int .i64 t726)).setCell ⟨gb750,2,none⟩ (.slice none 0 0)).heap[gb730]?=some (.cells #[.int .i64 t721,.slice Ao12 t722.length co12] 38 (0,0))):=⟨za3 NB730_750 BK730⟩
      have n6_:Aside0 ((((w76.setCell ⟨gb750,0,none⟩ (.int .i64 2)).setCell ⟨gb750,1,none⟩ (.int .i64 t726)).setCell ⟨gb750,2,none⟩ (.slice none 0 0)).heap[gb731]?=some (.cells #[.int .i64 t725,.int .i64 t726,.slice Ao14 t727.length co14] 32 (0,0))):=⟨za3 NB731_750 BK731⟩
      have n7_:Aside0 ((((w76.setCell ⟨gb750,0,none⟩ (.int .i64 2)).setCell ⟨gb750,1,none⟩ (.int .i64 t726)).setCell ⟨gb750,2,none⟩ (.slice none 0 0)).heap[gb737]?=some (.cells #[.int .i64 t732,.slice Ao20 t733.length co20] 38 (0,0))):=⟨za3 NB737_750 BK737⟩
      have n8_:Aside0 ((((w76.setCell ⟨gb750,0,none⟩ (.int .i64 2)).setCell ⟨gb750,1,none⟩ (.int .i64 t726)).setCell ⟨gb750,2,none⟩ (.slice none 0 0)).heap[gb743]?=some (.cells #[.int .i64 t738,.slice Ao29 t739.length co29] 38 (0,0))):=⟨za3 NB743_750 BK743⟩
      have n9_:Aside0 ((((w76.setCell ⟨gb750,0,none⟩ (.int .i64 2)).setCell ⟨gb750,1,none⟩ (.int .i64 t726)).setCell ⟨gb750,2,none⟩ (.slice none 0 0)).heap[gb749]?=some (.cells #[.int .i64 1,.int .i64 t726,.slice Ao68 y746.length co68] 32 (0,0))):=⟨za3 NB749_750 BK749⟩
      have n10_:Aside0 ((((w76.setCell ⟨gb750,0,none⟩ (.int .i64 2)).setCell ⟨gb750,1,none⟩ (.int .i64 t726)).setCell ⟨gb750,2,none⟩ (.slice none 0 0)).heap[gb750]?=some (.cells #[.int .i64 2,.int .i64 t726,.slice none 0 0] 32 (0,0))):=⟨by(with_reducible repeat(first|refine blk_drewN ?_ _|refine blk_drew ?_|refine blk_alloc ?_ _));refine qad (cs:=#[.int .i64 2,.int .i64 t726,.slice none 0 0]) ?_ 2 _ rfl;(with_reducible repeat(first|refine blk_drewN ?_ _|refine blk_drew ?_|refine blk_alloc ?_ _));refine qad (cs:=#[.int .i64 2,.int .i64 0,.slice none 0 0]) ?_ 1 _ rfl;(with_reducible repeat(first|refine blk_drewN ?_ _|refine blk_drew ?_|refine blk_alloc ?_ _));refine qad (cs:=#[.int .i64 0,.int .i64 0,.slice none 0 0]) ?_ 0 _ rfl;(with_reducible repeat(first|refine blk_drewN ?_ _|refine blk_drew ?_|refine blk_alloc ?_ _));exact BK750.out⟩
      have n11_:Aside0 (Below w.heap.size w (((w76.setCell ⟨gb750,0,none⟩ (.int .i64 2)).setCell ⟨gb750,1,none⟩ (.int .i64 t726)).setCell ⟨gb750,2,none⟩ (.slice none 0 0))):=⟨za46 HB GE730 GE731 GE737 GE743 GE749 GE750⟩
      (try clear HO_731001)
      (try clear HO_732002)
      (try clear HO_738001)
      (try clear HO_744001)
      (try clear HO748)
      (try clear BK730)
      (try clear BK731)
      (try clear BK737)
      (try clear BK743)
      (try clear BK749)
      (try clear BK750)
      (try clear HB)
      generalize (((w76.setCell ⟨gb750,0,none⟩ (.int .i64 2)).setCell ⟨gb750,1,none⟩ (.int .i64 t726)).setCell ⟨gb750,2,none⟩ (.slice none 0 0))=w83 at n0_ n1_ n2_ n3_ n4_ n5_ n6_ n7_ n8_ n9_ n10_ n11_ ⊢
      have HO_731001:=n0_
      have HO_732002:=n1_
      have HO_738001:=n2_
      have HO_744001:=n3_
      have HO748:=n4_
      have BK730:=n5_
      have BK731:=n6_
      have BK737:=n7_
      have BK743:=n8_
      have BK749:=n9_
      have BK750:=n10_
      have HB:=n11_
      clear n0_ n1_ n2_ n3_ n4_ n5_ n6_ n7_ n8_ n9_ n10_ n11_
      replace HO_731001:=Aside0.mk (Kd.Q_drew HO_731001.out)
      replace HO_732002:=Aside0.mk (Kd.V_drew HO_732002.out)
      replace HO_738001:=Aside0.mk (Kd.Q_drew HO_738001.out)
      replace HO_744001:=Aside0.mk (Kd.Q_drew HO_744001.out)
      replace HO748:=Aside0.mk (Kd.R_drew HO748.out)
      replace BK730:=Aside0.mk (blk_drew BK730.out)
      replace BK731:=Aside0.mk (blk_drew BK731.out)
      replace BK737:=Aside0.mk (blk_drew BK737.out)
      replace BK743:=Aside0.mk (blk_drew BK743.out)
      replace BK749:=Aside0.mk (blk_drew BK749.out)
      replace BK750:=Aside0.mk (blk_drew BK750.out)
      replace HB:=Aside0.mk (qao HB.out)
      refine start_ (n:=20) (S:=fun w'=>w'.cell? ⟨gb743,0,none⟩=some (.int .i64 t738)∧w'.cell? ⟨gb743,1,none⟩=some (.slice Ao29 t739.length co29)∧w'.cell? ⟨gb731,0,none⟩=some (.int .i64 t725)∧w'.cell? ⟨gb731,1,none⟩=some (.int .i64 t726)∧w'.cell? ⟨gb731,2,none⟩=some (.slice Ao14 t727.length co14)) (ds:=[]) #[false,false,false,false,false,false,false,false,false,false,false,false,false,false,false,false,false,false,false,false] (by kernel_rfl) rfl rfl ⟨(blk_cell BK743.out 0).trans rfl,(blk_cell BK743.out 1).trans rfl,(blk_cell BK731.out 0).trans rfl,(blk_cell BK731.out 1).trans rfl,(blk_cell BK731.out 2).trans rfl⟩ (fun hHeld=>?_);refine with_tabW laws_FnStockTwice.tab10 laws_FnStockTwice.bits10 (fun HT_ HW_=>?_)
      generalize w83.drew=w84 at HO_731001 HO_732002 HO_738001 HO_744001 HO748 BK730 BK731 BK737 BK743 BK749 BK750 HB hHeld ⊢
      refine take_ (i:=0) (N:=some 59) (v:=?_) (a':=?_) #[true,false,false,false,false,false,false,false,false,false,false,false,false,false,false,false,false,false,false,false] rfl rfl (qap HT_.out HW_.out (by kernel_rfl)) (fun _ _ _ h=>h) (Or.inl ⟨by rfl,?_⟩) hHeld ?_ ?_
      rotate_left
      ·rintro w' ⟨s0,s1,s2,s3,s4⟩
       go_simp
       with_reducible rfl
      rotate_left
      ·simp only[Act.put,List.setIfInBounds_toArray,List.set_cons_zero,List.set_cons_succ,qaf,qag]
       rfl
      refine take_ (i:=1) (N:=some 60) (v:=?_) (a':=?_) #[true,true,false,false,false,false,false,false,false,false,false,false,false,false,false,false,false,false,false,false] rfl rfl (qap HT_.out HW_.out (by kernel_rfl)) (fun _ _ _ h=>h) (Or.inl ⟨by rfl,?_⟩) hHeld ?_ ?_
      rotate_left
      ·rintro w' ⟨s0,s1,s2,s3,s4⟩
       go_simp
       with_reducible rfl
      rotate_left
      ·simp only[Act.put,List.setIfInBounds_toArray,List.set_cons_zero,List.set_cons_succ,qaf,qag]
       rfl
      refine one_ (i:=2) (N:=some 61) #[true,true,true,false,false,false,false,false,false,false,false,false,false,false,false,false,false,false,false,false] rfl rfl (one_of HT_.out (by kernel_rfl)) (by decide) (fun K hK=>?_)
      refine goes_ Try.func28 (by kernel_rfl) rfl #[.agg #[.int .i64 t738,.slice Ao29 t739.length co29],.agg #[.int .i64 t725,.int .i64 t726,.slice Ao14 t727.length co14]] (by rfl) rfl rfl (by(try simp only[List.map_toArray,List.map_cons,List.map_nil]);first|done|rfl|(simp only[List.length_drop,List.length_take];rfl)) ?_
      with_reducible refine(impl_StockMay.calls kj5 t738 _ _ t739 t725 t726 _ _ t727 true _ ?side1 ?side2 ?side3 ?side4 A60.out).mono ?_
      (case side1=>repeat(first|exact(Kd.Q_reads' HO_744001.out).2.2|(with_reducible refine Kd.C_alloc ?_ _)|(with_reducible refine Kd.C_drewN ?_ _)|(with_reducible refine Kd.C_drew ?_)))
      (case side2=>exact(Kd.Q_reads' HO_744001.out).2.1)
      (case side3=>repeat(first|exact(Kd.V_reads' HO_732002.out).2.2|(with_reducible refine Kd.C_alloc ?_ _)|(with_reducible refine Kd.C_drewN ?_ _)|(with_reducible refine Kd.C_drew ?_)))
      (case side4=>exact(Kd.V_reads' HO_732002.out).2.1)
      rintro e w85 ⟨rfl,hb⟩
      refine⟨_,rfl,?_⟩
      replace HO_731001:=Aside0.mk (Kd.Q_below (za10 HO_731001) hb)
      replace HO_732002:=Aside0.mk (Kd.V_below (za42 HO_732002) hb)
      replace HO_738001:=Aside0.mk (Kd.Q_below (za10 HO_738001) hb)
      replace HO_744001:=Aside0.mk (Kd.Q_below (za10 HO_744001) hb)
      replace HO748:=Aside0.mk (Kd.R_below (za5 HO748) hb)
      replace BK730:=Aside0.mk (qaa (zB BK730) hb)
      replace BK731:=Aside0.mk (qaa (zB BK731) hb)
      replace BK737:=Aside0.mk (qaa (zB BK737) hb)
      replace BK743:=Aside0.mk (qaa (zB BK743) hb)
      replace BK749:=Aside0.mk (qaa (zB BK749) hb)
      replace BK750:=Aside0.mk (qaa (zB BK750) hb)
      replace HB:=Aside0.mk (qab (za46 HB GE730 GE731 GE737 GE743 GE749 GE750) hb)
      (try clear hb)
      (try clear hb2)
      (try clear hk)
      (try clear hi)
      refine hK.out _ _ ⟨(blk_cell BK743.out 0).trans rfl,(blk_cell BK743.out 1).trans rfl,(blk_cell BK731.out 0).trans rfl,(blk_cell BK731.out 1).trans rfl,(blk_cell BK731.out 2).trans rfl⟩ (fun hHeld=>?_)
      clear hK K
      refine norm_ (a':=?_) ?_ ?_
      rotate_left
      ·show Act.put _ (some 61) _=_
       simp only[Act.put,List.setIfInBounds_toArray,List.set_cons_zero,List.set_cons_succ,qaf,qag]
       rfl
      refine qaj (i:=3) (N:=some 62) (v:=?_) (a':=?_) #[true,true,true,true,false,false,false,false,false,false,false,false,false,false,false,false,false,false,false,false] rfl rfl (qah HT_.out (by kernel_rfl)) (fun _ _ _ h=>h) (Or.inl ⟨by rfl,?_⟩) ?_ ?_
      rotate_left
      ·intro w'
       go_simp
       with_reducible rfl
      rotate_left
      ·simp only[Act.put,List.setIfInBounds_toArray,List.set_cons_zero,List.set_cons_succ,qaf,qag]
       rfl
      refine qaj (i:=4) (N:=some 63) (v:=?_) (a':=?_) #[true,true,true,true,true,false,false,false,false,false,false,false,false,false,false,false,false,false,false,false] rfl rfl (qah HT_.out (by kernel_rfl)) (fun _ _ _ h=>h) (Or.inl ⟨by rfl,?_⟩) ?_ ?_
      rotate_left
      ·intro w'
       go_simp
       with_reducible rfl
      rotate_left
      ·simp only[Act.put,List.setIfInBounds_toArray,List.set_cons_zero,List.set_cons_succ,qaf,qag]
       rfl
      refine qaj (i:=5) (N:=some 64) (v:=undef) (a':=?_) #[true,true,true,true,true,true,false,false,false,false,false,false,false,false,false,false,false,false,false,false] rfl rfl (qah HT_.out (by kernel_rfl)) (fun _ _ _ h=>h) (Or.inr ⟨by rfl,rfl⟩) ?_ ?_
      rotate_left
      ·simp only[Act.put,List.setIfInBounds_toArray,List.set_cons_zero,List.set_cons_succ,qaf,qag]
       rfl
      refine qaj (i:=6) (N:=some 65) (v:=undef) (a':=?_) #[true,true,true,true,true,true,true,false,false,false,false,false,false,false,false,false,false,false,false,false] rfl rfl (qah HT_.out (by kernel_rfl)) (fun _ _ _ h=>h) (Or.inr ⟨by rfl,rfl⟩) ?_ ?_
      rotate_left
      ·simp only[Act.put,List.setIfInBounds_toArray,List.set_cons_zero,List.set_cons_succ,qaf,qag]
       rfl
      refine qaj (i:=7) (N:=some 66) (v:=undef) (a':=?_) #[true,true,true,true,true,true,true,true,false,false,false,false,false,false,false,false,false,false,false,false] rfl rfl (qah HT_.out (by kernel_rfl)) (fun _ _ _ h=>h) (Or.inr ⟨by rfl,rfl⟩) ?_ ?_
      rotate_left
      ·simp only[Act.put,List.setIfInBounds_toArray,List.set_cons_zero,List.set_cons_succ,qaf,qag]
       rfl
      refine qaj (i:=8) (N:=some 67) (v:=undef) (a':=?_) #[true,true,true,true,true,true,true,true,true,false,false,false,false,false,false,false,false,false,false,false] rfl rfl (qah HT_.out (by kernel_rfl)) (fun _ _ _ h=>h) (Or.inr ⟨by rfl,rfl⟩) ?_ ?_
      rotate_left
      ·simp only[Act.put,List.setIfInBounds_toArray,List.set_cons_zero,List.set_cons_succ,qaf,qag]
       rfl
      refine qaj (i:=9) (N:=some 68) (v:=?_) (a':=?_) #[true,true,true,true,true,true,true,true,true,true,false,false,false,false,false,false,false,false,false,false] rfl rfl (qah HT_.out (by kernel_rfl)) (fun _ _ _ h=>h) (Or.inl ⟨by rfl,?_⟩) ?_ ?_
      rotate_left
      ·intro w'
       go_simp
       with_reducible rfl
      rotate_left
      ·simp only[Act.put,List.setIfInBounds_toArray,List.set_cons_zero,List.set_cons_succ,qaf,qag]
       rfl
      refine qaj (i:=10) (N:=some 69) (v:=?_) (a':=?_) #[true,true,true,true,true,true,true,true,true,true,true,false,false,false,false,false,false,false,false,false] rfl rfl (qah HT_.out (by kernel_rfl)) (fun _ _ _ h=>h) (Or.inl ⟨by rfl,?_⟩) ?_ ?_
      rotate_left
      ·intro w'
       go_simp
       with_reducible rfl
      rotate_left
      ·simp only[Act.put,List.setIfInBounds_toArray,List.set_cons_zero,List.set_cons_succ,qaf,qag]
       rfl
      refine qaj (i:=11) (N:=some 70) (v:=undef) (a':=?_) #[true,true,true,true,true,true,true,true,true,true,true,true,false,false,false,false,false,false,false,false] rfl rfl (qah HT_.out (by kernel_rfl)) (fun _ _ _ h=>h) (Or.inr ⟨by rfl,rfl⟩) ?_ ?_
      rotate_left
      ·simp only[Act.put,List.setIfInBounds_toArray,List.set_cons_zero,List.set_cons_succ,qaf,qag]
       rfl
      refine qaj (i:=12) (N:=some 71) (v:=undef) (a':=?_) #[true,true,true,true,true,true,true,true,true,true,true,true,true,false,false,false,false,false,false,false] rfl rfl (qah HT_.out (by kernel_rfl)) (fun _ _ _ h=>h) (Or.inr ⟨by rfl,rfl⟩) ?_ ?_
      rotate_left
      ·simp only[Act.put,List.setIfInBounds_toArray,List.set_cons_zero,List.set_cons_succ,qaf,qag]
       rfl
      refine qaj (i:=13) (N:=some 72) (v:=undef) (a':=?_) #[true,true,true,true,true,true,true,true,true,true,true,true,true,true,false,false,false,false,false,false] rfl rfl (qah HT_.out (by kernel_rfl)) (fun _ _ _ h=>h) (Or.inr ⟨by rfl,rfl⟩) ?_ ?_
      rotate_left
      ·simp only[Act.put,List.setIfInBounds_toArray,List.set_cons_zero,List.set_cons_succ,qaf,qag]
       rfl
      refine qaj (i:=14) (N:=some 73) (v:=undef) (a':=?_) #[true,true,true,true,true,true,true,true,true,true,true,true,true,true,true,false,false,false,false,false] rfl rfl (qah HT_.out (by kernel_rfl)) (fun _ _ _ h=>h) (Or.inr ⟨by rfl,rfl⟩) ?_ ?_
      rotate_left
      ·simp only[Act.put,List.setIfInBounds_toArray,List.set_cons_zero,List.set_cons_succ,qaf,qag]
       rfl
      refine qaj (i:=15) (N:=some 74) (v:=undef) (a':=?_) #[true,true,true,true,true,true,true,true,true,true,true,true,true,true,true,true,false,false,false,false] rfl rfl (qah HT_.out (by kernel_rfl)) (fun _ _ _ h=>h) (Or.inr ⟨by rfl,rfl⟩) ?_ ?_
      rotate_left
      ·simp only[Act.put,List.setIfInBounds_toArray,List.set_cons_zero,List.set_cons_succ,qaf,qag]
       rfl
      refine qaj (i:=16) (N:=some 75) (v:=undef) (a':=?_) #[true,true,true,true,true,true,true,true,true,true,true,true,true,true,true,true,true,false,false,false] rfl rfl (qah HT_.out (by kernel_rfl)) (fun _ _ _ h=>h) (Or.inr ⟨by rfl,rfl⟩) ?_ ?_
      rotate_left
      ·simp only[Act.put,List.setIfInBounds_toArray,List.set_cons_zero,List.set_cons_succ,qaf,qag]
       rfl
      refine qaj (i:=17) (N:=some 76) (v:=undef) (a':=?_) #[true,true,true,true,true,true,true,true,true,true,true,true,true,true,true,true,true,true,false,false] rfl rfl (qah HT_.out (by kernel_rfl)) (fun _ _ _ h=>h) (Or.inr ⟨by rfl,rfl⟩) ?_ ?_
      rotate_left
      ·simp only[Act.put,List.setIfInBounds_toArray,List.set_cons_zero,List.set_cons_succ,qaf,qag]
       rfl
      refine qaj (i:=18) (N:=some 77) (v:=?_) (a':=?_) #[true,true,true,true,true,true,true,true,true,true,true,true,true,true,true,true,true,true,true,false] rfl rfl (qah HT_.out (by kernel_rfl)) (fun _ _ _ h=>h) (Or.inl ⟨by rfl,?_⟩) ?_ ?_
      rotate_left
      ·intro w'
       go_simp
       with_reducible rfl
      rotate_left
      ·simp only[Act.put,List.setIfInBounds_toArray,List.set_cons_zero,List.set_cons_succ,qaf,qag]
       rfl
      refine qaj (i:=19) (N:=some 2) (v:=?_) (a':=?_) #[true,true,true,true,true,true,true,true,true,true,true,true,true,true,true,true,true,true,true,true] rfl rfl (qah HT_.out (by kernel_rfl)) (fun _ _ _ h=>h) (Or.inl ⟨by rfl,?_⟩) ?_ ?_
      rotate_left
      ·intro w'
       go_simp
       with_reducible rfl
      rotate_left
      ·simp only[Act.put,List.setIfInBounds_toArray,List.set_cons_zero,List.set_cons_succ,qaf,qag]
       rfl
      refine done_ (done_of HT_.out (by kernel_rfl)) ?_
      try go_wp2
      go_ret
      exact⟨za16,za46 HB GE730 GE731 GE737 GE743 GE749 GE750⟩
     ·replace c61:=Bool.eq_false_iff.mpr c61
      subst c61
      have H1:((impl_StockMay.f kj5 t738 t739 1 t726 y746).bind fun t752=>(if t752=true then(some false) else((impl_StockMay.f kj5 t738 t739 2 t726 ([]:List Int)).bind fun t753=>(some (t753 == (t725 == 1))))))=some r:=by rw[if_neg (show ¬(false=true) by decide)] at H;exact H
      clear H
      have H:=H1
      clear H1
      replace H:=Option.bind_eq_some_iff.mp H
      obtain⟨t752,A860,H⟩:=H
      replace H:(if t752=true then(some false) else((impl_StockMay.f kj5 t738 t739 2 t726 ([]:List Int)).bind fun t753=>(some (t753 == (t725 == 1)))))=some r:=H
      have A86:=Aside0.mk A860
      clear A860
      by_cases c87:t752=true
      ·subst c87
       have H1:(some false)=some r:=by rw[if_pos rfl] at H;exact H
       clear H
       have H:=H1
       clear H1
       obtain rfl:=Option.some.inj H
       have hnb88:=NB731_730.out
       have hnc88:=NB730_731.out
       have hnb89:=NB731_737.out
       have hnc89:=NB737_731.out
       have hnb90:=NB731_743.out
       have hnc90:=NB743_731.out
       obtain⟨hcz91_0,hcz91_1,hcz91_2,hfz91_0,hfz91_1,hfz91_2⟩:=zC3 BK731
       try go_wp2_with(first|((with_reducible refine qae (N:=54) rfl ?_);refine Kd.R_lit (Kd.int .i64) _ 3 (by rfl) (N:=54) (by rfl) (xs:=([1]:List Int)) (inner:=[.int .i64 1]) (ok:=fun _=>True) (okp:=fun _=>True) (by first|(go_simp;done)|(go_simp;rfl)) ?hp (fun _ hk=>hk) trivial (Below.refl _ _) (Nat.le_refl _) (by simp) ?_;(case hp=>exact(Reps.one (show Kd.M (Kd.int .i64) _ _ _ 1 [.int .i64 1] from rfl) (Reps.none _ _)));intro v747 w92 ho93 hb hg_ hnew_;clear hg_ hnew_;(first|rw[←Ny746.out] at ho93|(simp only[Int.reduceToNat] at ho93;rw[←Ny746.out] at ho93));replace HO_731001:=Aside0.mk (Kd.Q_below (za10 HO_731001) hb);replace HO_732002:=Aside0.mk (Kd.V_elder' (za42 HO_732002) (Kd.R_base ho93) hb);replace HO_738001:=Aside0.mk (Kd.Q_below (za10 HO_738001) hb);replace HO_744001:=Aside0.mk (Kd.Q_below (za10 HO_744001) hb);have HO748:=Aside0.mk (Kd.R_lower ho93 (below_size (za7 HB GE730 GE731 GE737 GE743)));replace BK730:=Aside0.mk (qaa (zB BK730) hb);replace BK731:=Aside0.mk (qaa (zB BK731) hb);replace BK737:=Aside0.mk (qaa (zB BK737) hb);replace BK743:=Aside0.mk (qaa (zB BK743) hb);replace HB:=Aside0.mk (qab (za7 HB GE730 GE731 GE737 GE743) hb);clear hb ho93;obtain⟨Ao94,co94,eo94⟩:=Kd.R_slice HO748.out;subst eo94)|((with_reducible refine qae (N:=9) rfl ?_);refine zX (N:=9) (cs:=#[.int .i64 0,.int .i64 0,.slice none 0 0]) (t:=32) ?_;intro gb749 hg w95 hbox hb;replace HO_731001:=Aside0.mk (Kd.Q_below (za10 HO_731001) hb);replace HO_732002:=Aside0.mk (Kd.V_below (Kd.V_elderB (za42 HO_732002) gb749 (Nat.le_of_eq hg.symm)) hb);replace HO_738001:=Aside0.mk (Kd.Q_below (za10 HO_738001) hb);replace HO_744001:=Aside0.mk (Kd.Q_below (za10 HO_744001) hb);replace HO748:=Aside0.mk (Kd.R_below (za5 HO748) hb);have BK749:=Aside0.mk hbox;have GW749:=zH (w:=w) hg (za7 HB GE730 GE731 GE737 GE743);have GE749:=GW749;replace HB:=Aside0.mk (qab (za7 HB GE730 GE731 GE737 GE743) hb);have NB730_749:=zL BK730 hg;have NB749_730:=zG BK730 hg;replace BK730:=Aside0.mk (qaa (zB BK730) hb);have NB731_749:=zL BK731 hg;have NB749_731:=zG BK731 hg;replace BK731:=Aside0.mk (qaa (zB BK731) hb);have NB737_749:=zL BK737 hg;have NB749_737:=zG BK737 hg;replace BK737:=Aside0.mk (qaa (zB BK737) hb);have NB743_749:=zL BK743 hg;have NB749_743:=zG BK743 hg;replace BK743:=Aside0.mk (qaa (zB BK743) hb);clear hb hbox hg;have hnb96:=NB749_730.out;have hnc96:=NB730_749.out;have hnb97:=NB749_731.out;have hnc97:=NB731_749.out;have hnb98:=NB749_737.out;have hnc98:=NB737_749.out;have hnb99:=NB749_743.out;have hnc99:=NB743_749.out;obtain⟨hcz100_0,hcz100_1,hcz100_2,hfz100_0,hfz100_1,hfz100_2⟩:=zC3 BK749;obtain⟨hcz101_0,hcz101_1,hcz101_2,hfz101_0,hfz101_1,hfz101_2⟩:=zC3 BK731)|((with_reducible refine qae (N:=10) rfl ?_);refine zX (N:=10) (cs:=#[.int .i64 0,.int .i64 0,.slice none 0 0]) (t:=32) ?_;intro gb750 hg w102 hbox hb;replace HO_731001:=Aside0.mk (Kd.Q_below (by(with_reducible repeat(first|apply Kd.Q_alloc|apply Kd.Q_drewN|apply Kd.Q_drew));exact(Kd.Q_mono (Kd.Q_far (p:=⟨gb749,2,none⟩) (Kd.Q_far (p:=⟨gb749,1,none⟩) (Kd.Q_far (p:=⟨gb749,0,none⟩) (Kd.Q_types HO_731001.out BK749.out (by decide)) (fun _ hk=>hk.2) (.int .i64 1)) (fun _ hk=>hk.2) (.int .i64 t726)) (fun _ hk=>hk.2) (.slice Ao94 y746.length co94)) (fun _ h_=>h_.1))) hb);replace HO_732002:=Aside0.mk (Kd.V_below (Kd.V_elderB (by(with_reducible repeat(first|apply Kd.V_alloc|apply Kd.V_drewN|apply Kd.V_drew));exact(Kd.V_mono (Kd.V_far (p:=⟨gb749,2,none⟩) (Kd.V_far (p:=⟨gb749,1,none⟩) (Kd.V_far (p:=⟨gb749,0,none⟩) (Kd.V_mono HO_732002.out (fun k_ hk=>(⟨hk,hk.2⟩:_∧k_≠gb749))) (fun _ hk=>hk.2) (.int .i64 1)) (fun _ hk=>hk.2) (.int .i64 t726)) (fun _ hk=>hk.2) (.slice Ao94 y746.length co94)) (fun _ h_=>h_.1))) gb750 (Nat.le_of_eq hg.symm)) hb);replace HO_738001:=Aside0.mk (Kd.Q_below (by(with_reducible repeat(first|apply Kd.Q_alloc|apply Kd.Q_drewN|apply Kd.Q_drew));exact(Kd.Q_mono (Kd.Q_far (p:=⟨gb749,2,none⟩) (Kd.Q_far (p:=⟨gb749,1,none⟩) (Kd.Q_far (p:=⟨gb749,0,none⟩) (Kd.Q_types HO_738001.out BK749.out (by decide)) (fun _ hk=>hk.2) (.int .i64 1)) (fun _ hk=>hk.2) (.int .i64 t726)) (fun _ hk=>hk.2) (.slice Ao94 y746.length co94)) (fun _ h_=>h_.1))) hb);replace HO_744001:=Aside0.mk (Kd.Q_below (by(with_reducible repeat(first|apply Kd.Q_alloc|apply Kd.Q_drewN|apply Kd.Q_drew));exact(Kd.Q_mono (Kd.Q_far (p:=⟨gb749,2,none⟩) (Kd.Q_far (p:=⟨gb749,1,none⟩) (Kd.Q_far (p:=⟨gb749,0,none⟩) (Kd.Q_types HO_744001.out BK749.out (by decide)) (fun _ hk=>hk.2) (.int .i64 1)) (fun _ hk=>hk.2) (.int .i64 t726)) (fun _ hk=>hk.2) (.slice Ao94 y746.length co94)) (fun _ h_=>h_.1))) hb);replace HO748:=Aside0.mk (Kd.R_below (by(with_reducible repeat(first|apply Kd.R_alloc|apply Kd.R_drewN|apply Kd.R_drew));exact(Kd.R_mono (Kd.R_far (p:=⟨gb749,2,none⟩) (Kd.R_far (p:=⟨gb749,1,none⟩) (Kd.R_far (p:=⟨gb749,0,none⟩) (Kd.R_types HO748.out BK749.out (by decide)) (fun _ hk=>hk.2) (.int .i64 1)) (fun _ hk=>hk.2) (.int .i64 t726)) (fun _ hk=>hk.2) (.slice Ao94 y746.length co94)) (fun _ h_=>h_.1))) hb);have BK750:=Aside0.mk hbox;have GW750:=zH (w:=w) hg (za52 HB GE730 GE731 GE737 GE743 GE749);have GE750:=GW750;replace HB:=Aside0.mk (qab (za52 HB GE730 GE731 GE737 GE743 GE749) hb);have NB730_750:=Aside0.mk ((by rw[hg];exact Nat.ne_of_lt (blk_lt (g:=gb730) (o:=.cells #[.int .i64 t721,.slice Ao12 t722.length co12] 38 (0,0)) (za3 NB730_749 BK730)):gb730≠gb750));have NB750_730:=Aside0.mk ((by rw[hg];exact Nat.ne_of_gt (blk_lt (g:=gb730) (o:=.cells #[.int .i64 t721,.slice Ao12 t722.length co12] 38 (0,0)) (za3 NB730_749 BK730)):gb750≠gb730));replace BK730:=Aside0.mk (qaa (g:=gb730) (o:=.cells #[.int .i64 t721,.slice Ao12 t722.length co12] 38 (0,0)) (za3 NB730_749 BK730) hb);have NB731_750:=Aside0.mk ((by rw[hg];exact Nat.ne_of_lt (blk_lt (g:=gb731) (o:=.cells #[.int .i64 t725,.int .i64 t726,.slice Ao14 t727.length co14] 32 (0,0)) (za3 NB731_749 BK731)):gb731≠gb750));have NB750_731:=Aside0.mk ((by rw[hg];exact Nat.ne_of_gt (blk_lt (g:=gb731) (o:=.cells #[.int .i64 t725,.int .i64 t726,.slice Ao14 t727.length co14] 32 (0,0)) (za3 NB731_749 BK731)):gb750≠gb731));replace BK731:=Aside0.mk (qaa (g:=gb731) (o:=.cells #[.int .i64 t725,.int .i64 t726,.slice Ao14 t727.length co14] 32 (0,0)) (za3 NB731_749 BK731) hb);have NB737_750:=Aside0.mk ((by rw[hg];exact Nat.ne_of_lt (blk_lt (g:=gb737) (o:=.cells #[.int .i64 t732,.slice Ao20 t733.length co20] 38 (0,0)) (za3 NB737_749 BK737)):gb737≠gb750));have NB750_737:=Aside0.mk ((by rw[hg];exact Nat.ne_of_gt (blk_lt (g:=gb737) (o:=.cells #[.int .i64 t732,.slice Ao20 t733.length co20] 38 (0,0)) (za3 NB737_749 BK737)):gb750≠gb737));replace BK737:=Aside0.mk (qaa (g:=gb737) (o:=.cells #[.int .i64 t732,.slice Ao20 t733.length co20] 38 (0,0)) (za3 NB737_749 BK737) hb);have NB743_750:=Aside0.mk ((by rw[hg];exact Nat.ne_of_lt (blk_lt (g:=gb743) (o:=.cells #[.int .i64 t738,.slice Ao29 t739.length co29] 38 (0,0)) (za3 NB743_749 BK743)):gb743≠gb750));have NB750_743:=Aside0.mk ((by rw[hg];exact Nat.ne_of_gt (blk_lt (g:=gb743) (o:=.cells #[.int .i64 t738,.slice Ao29 t739.length co29] 38 (0,0)) (za3 NB743_749 BK743)):gb750≠gb743));replace BK743:=Aside0.mk (qaa (g:=gb743) (o:=.cells #[.int .i64 t738,.slice Ao29 t739.length co29] 38 (0,0)) (za3 NB743_749 BK743) hb);have NB749_750:=Aside0.mk ((by rw[hg];exact Nat.ne_of_lt (blk_lt (g:=gb749) (o:=.cells #[.int .i64 1,.int .i64 t726,.slice Ao94 y746.length co94] 32 (0,0)) (by(with_reducible repeat(first|refine blk_drewN ?_ _|refine blk_drew ?_|refine blk_alloc ?_ _));refine qad (cs:=#[.int .i64 1,.int .i64 t726,.slice none 0 0]) ?_ 2 _ rfl;(with_reducible repeat(first|refine blk_drewN ?_ _|refine blk_drew ?_|refine blk_alloc ?_ _));refine qad (cs:=#[.int .i64 1,.int .i64 0,.slice none 0 0]) ?_ 1 _ rfl;(with_reducible repeat(first|refine blk_drewN ?_ _|refine blk_drew ?_|refine blk_alloc ?_ _));refine qad (cs:=#[.int .i64 0,.int .i64 0,.slice none 0 0]) ?_ 0 _ rfl;(with_reducible repeat(first|refine blk_drewN ?_ _|refine blk_drew ?_|refine blk_alloc ?_ _));exact BK749.out)):gb749≠gb750));have NB750_749:=Aside0.mk ((by rw[hg];exact Nat.ne_of_gt (blk_lt (g:=gb749) (o:=.cells #[.int .i64 1,.int .i64 t726,.slice Ao94 y746.length co94] 32 (0,0)) (by(with_reducible repeat(first|refine blk_drewN ?_ _|refine blk_drew ?_|refine blk_alloc ?_ _));refine qad (cs:=#[.int .i64 1,.int .i64 t726,.slice none 0 0]) ?_ 2 _ rfl;(with_reducible repeat(first|refine blk_drewN ?_ _|refine blk_drew ?_|refine blk_alloc ?_ _));refine qad (cs:=#[.int .i64 1,.int .i64 0,.slice none 0 0]) ?_ 1 _ rfl;(with_reducible repeat(first|refine blk_drewN ?_ _|refine blk_drew ?_|refine blk_alloc ?_ _));refine qad (cs:=#[.int .i64 0,.int .i64 0,.slice none 0 0]) ?_ 0 _ rfl;(with_reducible repeat(first|refine blk_drewN ?_ _|refine blk_drew ?_|refine blk_alloc ?_ _));exact BK749.out)):gb750≠gb749));replace BK749:=Aside0.mk (qaa (g:=gb749) (o:=.cells #[.int .i64 1,.int .i64 t726,.slice Ao94 y746.length co94] 32 (0,0)) (by(with_reducible repeat(first|refine blk_drewN ?_ _|refine blk_drew ?_|refine blk_alloc ?_ _));refine qad (cs:=#[.int .i64 1,.int .i64 t726,.slice none 0 0]) ?_ 2 _ rfl;(with_reducible repeat(first|refine blk_drewN ?_ _|refine blk_drew ?_|refine blk_alloc ?_ _));refine qad (cs:=#[.int .i64 1,.int .i64 0,.slice none 0 0]) ?_ 1 _ rfl;(with_reducible repeat(first|refine blk_drewN ?_ _|refine blk_drew ?_|refine blk_alloc ?_ _));refine qad (cs:=#[.int .i64 0,.int .i64 0,.slice none 0 0]) ?_ 0 _ rfl;(with_reducible repeat(first|refine blk_drewN ?_ _|refine blk_drew ?_|refine blk_alloc ?_ _));exact BK749.out) hb);clear hb hbox hg;have hnb103:=NB750_730.out;have hnc103:=NB730_750.out;have hnb104:=NB750_731.out;have hnc104:=NB731_750.out;have hnb105:=NB750_737.out;have hnc105:=NB737_750.out;have hnb106:=NB750_743.out;have hnc106:=NB743_750.out;have hnb107:=NB750_749.out;have hnc107:=NB749_750.out;obtain⟨hcz108_0,hcz108_1,hcz108_2,hfz108_0,hfz108_1,hfz108_2⟩:=zC3 BK750))
       have n0_:Aside0 (Kd.Q k49 49 (((w102.setCell ⟨gb750,0,none⟩ (.int .i64 2)).setCell ⟨gb750,1,none⟩ (.int .i64 t726)).setCell ⟨gb750,2,none⟩ (.slice none 0 0)) w.heap.size (fun k_=>some k_≠(.slice Ao20 t733.length co20:Value).ownBlock∧some k_≠(.slice Ao29 t739.length co29:Value).ownBlock) (.slice Ao12 t722.length co12) t722):=⟨by(with_reducible repeat(first|apply Kd.Q_alloc|apply Kd.Q_drewN|apply Kd.Q_drew));exact Kd.Q_mono (Kd.Q_far (p:=⟨gb750,2,none⟩) (Kd.Q_far (p:=⟨gb750,1,none⟩) (Kd.Q_far (p:=⟨gb750,0,none⟩) (Kd.Q_types HO_731001.out BK750.out (by decide)) (fun _ hk=>hk.2) (.int .i64 2)) (fun _ hk=>hk.2) (.int .i64 t726)) (fun _ hk=>hk.2) (.slice none 0 0)) (fun _ hk=>⟨hk.1.1,hk.1.2⟩)⟩
       have n1_:Aside0 (Kd.V (Kd.int .i64) 3 (((w102.setCell ⟨gb750,0,none⟩ (.int .i64 2)).setCell ⟨gb750,1,none⟩ (.int .i64 t726)).setCell ⟨gb750,2,none⟩ (.slice none 0 0)) w.heap.size (fun k_=>some k_≠(.slice Ao12 t722.length co12:Value).ownBlock∧some k_≠(.slice Ao20 t733.length co20:Value).ownBlock∧some k_≠(.slice Ao29 t739.length co29:Value).ownBlock∧some k_≠(.slice Ao94 y746.length co94:Value).ownBlock∧k_≠gb730∧k_≠gb731∧k_≠gb737∧k_≠gb743∧k_≠gb749∧k_≠gb750) (.slice Ao14 t727.length co14) t727):=⟨by(with_reducible repeat(first|apply Kd.V_alloc|apply Kd.V_drewN|apply Kd.V_drew));exact Kd.V_mono (Kd.V_far (p:=⟨gb750,2,none⟩) (Kd.V_far (p:=⟨gb750,1,none⟩) (Kd.V_far (p:=⟨gb750,0,none⟩) (Kd.V_mono HO_732002.out (fun k_ hk=>(⟨hk,hk.2⟩:_∧k_≠gb750))) (fun _ hk=>hk.2) (.int .i64 2)) (fun _ hk=>hk.2) (.int .i64 t726)) (fun _ hk=>hk.2) (.slice none 0 0)) (fun _ hk=>⟨hk.1.1.1.1.1,⟨hk.1.1.1.1.2.1,⟨hk.1.1.1.1.2.2.1,⟨hk.1.1.1.2,⟨hk.1.1.1.1.2.2.2.1,⟨hk.1.1.1.1.2.2.2.2.1,⟨hk.1.1.1.1.2.2.2.2.2.1,⟨hk.1.1.1.1.2.2.2.2.2.2,⟨hk.1.1.2,hk.1.2⟩⟩⟩⟩⟩⟩⟩⟩⟩)⟩
       have n2_:Aside0 (Kd.Q k49 49 (((w102.setCell ⟨gb750,0,none⟩ (.int .i64 2)).setCell ⟨gb750,1,none⟩ (.int .i64 t726)).setCell ⟨gb750,2,none⟩ (.slice none 0 0)) w.heap.size (fun k_=>some k_≠(.slice Ao12 t722.length co12:Value).ownBlock∧some k_≠(.slice Ao29 t739.length co29:Value).ownBlock) (.slice Ao20 t733.length co20) t733):=⟨by(with_reducible repeat(first|apply Kd.Q_alloc|apply Kd.Q_drewN|apply Kd.Q_drew));exact Kd.Q_mono (Kd.Q_far (p:=⟨gb750,2,none⟩) (Kd.Q_far (p:=⟨gb750,1,none⟩) (Kd.Q_far (p:=⟨gb750,0,none⟩) (Kd.Q_types HO_738001.out BK750.out (by decide)) (fun _ hk=>hk.2) (.int .i64 2)) (fun _ hk=>hk.2) (.int .i64 t726)) (fun _ hk=>hk.2) (.slice none 0 0)) (fun _ hk=>⟨hk.1.1,hk.1.2⟩)⟩
       have n3_:Aside0 (Kd.Q k49 49 (((w102.setCell ⟨gb750,0,none⟩ (.int .i64 2)).setCell ⟨gb750,1,none⟩ (.int .i64 t726)).setCell ⟨gb750,2,none⟩ (.slice none 0 0)) w.heap.size (fun k_=>some k_≠(.slice Ao12 t722.length co12:Value).ownBlock∧some k_≠(.slice Ao20 t733.length co20:Value).ownBlock) (.slice Ao29 t739.length co29) t739):=⟨by(with_reducible repeat(first|apply Kd.Q_alloc|apply Kd.Q_drewN|apply Kd.Q_drew));exact Kd.Q_mono (Kd.Q_far (p:=⟨gb750,2,none⟩) (Kd.Q_far (p:=⟨gb750,1,none⟩) (Kd.Q_far (p:=⟨gb750,0,none⟩) (Kd.Q_types HO_744001.out BK750.out (by decide)) (fun _ hk=>hk.2) (.int .i64 2)) (fun _ hk=>hk.2) (.int .i64 t726)) (fun _ hk=>hk.2) (.slice none 0 0)) (fun _ hk=>⟨hk.1.1,hk.1.2⟩)⟩
       have n4_:Aside0 (Kd.R (Kd.int .i64) 3 (((w102.setCell ⟨gb750,0,none⟩ (.int .i64 2)).setCell ⟨gb750,1,none⟩ (.int .i64 t726)).setCell ⟨gb750,2,none⟩ (.slice none 0 0)) w.heap.size (fun _=>True) (.slice Ao94 y746.length co94) y746):=⟨by(with_reducible repeat(first|apply Kd.R_alloc|apply Kd.R_drewN|apply Kd.R_drew));exact Kd.R_mono (Kd.R_far (p:=⟨gb750,2,none⟩) (Kd.R_far (p:=⟨gb750,1,none⟩) (Kd.R_far (p:=⟨gb750,0,none⟩) (Kd.R_types HO748.out BK750.out (by decide)) (fun _ hk=>hk.2) (.int .i64 2)) (fun _ hk=>hk.2) (.int .i64 t726)) (fun _ hk=>hk.2) (.slice none 0 0)) (fun _ hk=>trivial)⟩
       have n5_:Aside0 ((((w102.setCell ⟨gb750,0,none⟩ (.int .i64 2)).setCell ⟨gb750,1,none⟩ (.int .i64 t726)).setCell ⟨gb750,2,none⟩ (.slice none 0 0)).heap[gb730]?=some (.cells #[.int .i64 t721,.slice Ao12 t722.length co12] 38 (0,0))):=⟨za3 NB730_750 BK730⟩
       have n6_:Aside0 ((((w102.setCell ⟨gb750,0,none⟩ (.int .i64 2)).setCell ⟨gb750,1,none⟩ (.int .i64 t726)).setCell ⟨gb750,2,none⟩ (.slice none 0 0)).heap[gb731]?=some (.cells #[.int .i64 t725,.int .i64 t726,.slice Ao14 t727.length co14] 32 (0,0))):=⟨za3 NB731_750 BK731⟩
       have n7_:Aside0 ((((w102.setCell ⟨gb750,0,none⟩ (.int .i64 2)).setCell ⟨gb750,1,none⟩ (.int .i64 t726)).setCell ⟨gb750,2,none⟩ (.slice none 0 0)).heap[gb737]?=some (.cells #[.int .i64 t732,.slice Ao20 t733.length co20] 38 (0,0))):=⟨za3 NB737_750 BK737⟩
       have n8_:Aside0 ((((w102.setCell ⟨gb750,0,none⟩ (.int .i64 2)).setCell ⟨gb750,1,none⟩ (.int .i64 t726)).setCell ⟨gb750,2,none⟩ (.slice none 0 0)).heap[gb743]?=some (.cells #[.int .i64 t738,.slice Ao29 t739.length co29] 38 (0,0))):=⟨za3 NB743_750 BK743⟩
       have n9_:Aside0 ((((w102.setCell ⟨gb750,0,none⟩ (.int .i64 2)).setCell ⟨gb750,1,none⟩ (.int .i64 t726)).setCell ⟨gb750,2,none⟩ (.slice none 0 0)).heap[gb749]?=some (.cells #[.int .i64 1,.int .i64 t726,.slice Ao94 y746.length co94] 32 (0,0))):=⟨za3 NB749_750 BK749⟩
       have n10_:Aside0 ((((w102.setCell ⟨gb750,0,none⟩ (.int .i64 2)).setCell ⟨gb750,1,none⟩ (.int .i64 t726)).setCell ⟨gb750,2,none⟩ (.slice none 0 0)).heap[gb750]?=some (.cells #[.int .i64 2,.int .i64 t726,.slice none 0 0] 32 (0,0))):=⟨by(with_reducible repeat(first|refine blk_drewN ?_ _|refine blk_drew ?_|refine blk_alloc ?_ _));refine qad (cs:=#[.int .i64 2,.int .i64 t726,.slice none 0 0]) ?_ 2 _ rfl;(with_reducible repeat(first|refine blk_drewN ?_ _|refine blk_drew ?_|refine blk_alloc ?_ _));refine qad (cs:=#[.int .i64 2,.int .i64 0,.slice none 0 0]) ?_ 1 _ rfl;(with_reducible repeat(first|refine blk_drewN ?_ _|refine blk_drew ?_|refine blk_alloc ?_ _));refine qad (cs:=#[.int .i64 0,.int .i64 0,.slice none 0 0]) ?_ 0 _ rfl;(with_reducible repeat(first|refine blk_drewN ?_ _|refine blk_drew ?_|refine blk_alloc ?_ _));exact BK750.out⟩
       have n11_:Aside0 (Below w.heap.size w (((w102.setCell ⟨gb750,0,none⟩ (.int .i64 2)).setCell ⟨gb750,1,none⟩ (.int .i64 t726)).setCell ⟨gb750,2,none⟩ (.slice none 0 0))):=⟨za46 HB GE730 GE731 GE737 GE743 GE749 GE750⟩
       (try clear HO_731001)
       (try clear HO_732002)
       (try clear HO_738001)
       (try clear HO_744001)
       (try clear HO748)
       (try clear BK730)
       (try clear BK731)
       (try clear BK737)
       (try clear BK743)
       (try clear BK749)
       (try clear BK750)
       (try clear HB)
       generalize (((w102.setCell ⟨gb750,0,none⟩ (.int .i64 2)).setCell ⟨gb750,1,none⟩ (.int .i64 t726)).setCell ⟨gb750,2,none⟩ (.slice none 0 0))=w109 at n0_ n1_ n2_ n3_ n4_ n5_ n6_ n7_ n8_ n9_ n10_ n11_ ⊢
       have HO_731001:=n0_
       have HO_732002:=n1_
       have HO_738001:=n2_
       have HO_744001:=n3_
       have HO748:=n4_
       have BK730:=n5_
       have BK731:=n6_
       have BK737:=n7_
       have BK743:=n8_
       have BK749:=n9_
       have BK750:=n10_
       have HB:=n11_
       clear n0_ n1_ n2_ n3_ n4_ n5_ n6_ n7_ n8_ n9_ n10_ n11_
       replace HO_731001:=Aside0.mk (Kd.Q_drew HO_731001.out)
       replace HO_732002:=Aside0.mk (Kd.V_drew HO_732002.out)
       replace HO_738001:=Aside0.mk (Kd.Q_drew HO_738001.out)
       replace HO_744001:=Aside0.mk (Kd.Q_drew HO_744001.out)
       replace HO748:=Aside0.mk (Kd.R_drew HO748.out)
       replace BK730:=Aside0.mk (blk_drew BK730.out)
       replace BK731:=Aside0.mk (blk_drew BK731.out)
       replace BK737:=Aside0.mk (blk_drew BK737.out)
       replace BK743:=Aside0.mk (blk_drew BK743.out)
       replace BK749:=Aside0.mk (blk_drew BK749.out)
       replace BK750:=Aside0.mk (blk_drew BK750.out)
       replace HB:=Aside0.mk (qao HB.out)
       refine start_ (n:=20) (S:=fun w'=>w'.cell? ⟨gb743,0,none⟩=some (.int .i64 t738)∧w'.cell? ⟨gb743,1,none⟩=some (.slice Ao29 t739.length co29)∧w'.cell? ⟨gb731,0,none⟩=some (.int .i64 t725)∧w'.cell? ⟨gb731,1,none⟩=some (.int .i64 t726)∧w'.cell? ⟨gb731,2,none⟩=some (.slice Ao14 t727.length co14)∧w'.cell? ⟨gb749,0,none⟩=some (.int .i64 1)∧w'.cell? ⟨gb749,1,none⟩=some (.int .i64 t726)∧w'.cell? ⟨gb749,2,none⟩=some (.slice Ao94 y746.length co94)) (ds:=[]) #[false,false,false,false,false,false,false,false,false,false,false,false,false,false,false,false,false,false,false,false] (by kernel_rfl) rfl rfl ⟨(blk_cell BK743.out 0).trans rfl,(blk_cell BK743.out 1).trans rfl,(blk_cell BK731.out 0).trans rfl,(blk_cell BK731.out 1).trans rfl,(blk_cell BK731.out 2).trans rfl,(blk_cell BK749.out 0).trans rfl,(blk_cell BK749.out 1).trans rfl,(blk_cell BK749.out 2).trans rfl⟩ (fun hHeld=>?_);refine with_tabW laws_FnStockTwice.tab10 laws_FnStockTwice.bits10 (fun HT_ HW_=>?_)
       generalize w109.drew=w110 at HO_731001 HO_732002 HO_738001 HO_744001 HO748 BK730 BK731 BK737 BK743 BK749 BK750 HB hHeld ⊢
       refine take_ (i:=0) (N:=some 59) (v:=?_) (a':=?_) #[true,false,false,false,false,false,false,false,false,false,false,false,false,false,false,false,false,false,false,false] rfl rfl (qap HT_.out HW_.out (by kernel_rfl)) (fun _ _ _ h=>h) (Or.inl ⟨by rfl,?_⟩) hHeld ?_ ?_
       rotate_left
       ·rintro w' ⟨s0,s1,s2,s3,s4,s5,s6,s7⟩
        go_simp
        with_reducible rfl
       rotate_left
       ·simp only[Act.put,List.setIfInBounds_toArray,List.set_cons_zero,List.set_cons_succ,qaf,qag]
        rfl
       refine take_ (i:=1) (N:=some 60) (v:=?_) (a':=?_) #[true,true,false,false,false,false,false,false,false,false,false,false,false,false,false,false,false,false,false,false] rfl rfl (qap HT_.out HW_.out (by kernel_rfl)) (fun _ _ _ h=>h) (Or.inl ⟨by rfl,?_⟩) hHeld ?_ ?_
       rotate_left
       ·rintro w' ⟨s0,s1,s2,s3,s4,s5,s6,s7⟩
        go_simp
        with_reducible rfl
       rotate_left
       ·simp only[Act.put,List.setIfInBounds_toArray,List.set_cons_zero,List.set_cons_succ,qaf,qag]
        rfl
       refine one_ (i:=2) (N:=some 61) #[true,true,true,false,false,false,false,false,false,false,false,false,false,false,false,false,false,false,false,false] rfl rfl (one_of HT_.out (by kernel_rfl)) (by decide) (fun K hK=>?_)
       refine goes_ Try.func28 (by kernel_rfl) rfl #[.agg #[.int .i64 t738,.slice Ao29 t739.length co29],.agg #[.int .i64 t725,.int .i64 t726,.slice Ao14 t727.length co14]] (by rfl) rfl rfl (by(try simp only[List.map_toArray,List.map_cons,List.map_nil]);first|done|rfl|(simp only[List.length_drop,List.length_take];rfl)) ?_
       with_reducible refine(impl_StockMay.calls kj5 t738 _ _ t739 t725 t726 _ _ t727 false _ ?side1 ?side2 ?side3 ?side4 A60.out).mono ?_
       (case side1=>repeat(first|exact(Kd.Q_reads' HO_744001.out).2.2|(with_reducible refine Kd.C_alloc ?_ _)|(with_reducible refine Kd.C_drewN ?_ _)|(with_reducible refine Kd.C_drew ?_)))
       (case side2=>exact(Kd.Q_reads' HO_744001.out).2.1)
       (case side3=>repeat(first|exact(Kd.V_reads' HO_732002.out).2.2|(with_reducible refine Kd.C_alloc ?_ _)|(with_reducible refine Kd.C_drewN ?_ _)|(with_reducible refine Kd.C_drew ?_)))
       (case side4=>exact(Kd.V_reads' HO_732002.out).2.1)
       rintro e w111 ⟨rfl,hb⟩
       refine⟨_,rfl,?_⟩
       replace HO_731001:=Aside0.mk (Kd.Q_below (za10 HO_731001) hb)
       replace HO_732002:=Aside0.mk (Kd.V_below (za42 HO_732002) hb)
       replace HO_738001:=Aside0.mk (Kd.Q_below (za10 HO_738001) hb)
       replace HO_744001:=Aside0.mk (Kd.Q_below (za10 HO_744001) hb)
       replace HO748:=Aside0.mk (Kd.R_below (za5 HO748) hb)
       replace BK730:=Aside0.mk (qaa (zB BK730) hb)
       replace BK731:=Aside0.mk (qaa (zB BK731) hb)
       replace BK737:=Aside0.mk (qaa (zB BK737) hb)
       replace BK743:=Aside0.mk (qaa (zB BK743) hb)
       replace BK749:=Aside0.mk (qaa (zB BK749) hb)
       replace BK750:=Aside0.mk (qaa (zB BK750) hb)
       replace HB:=Aside0.mk (qab (za46 HB GE730 GE731 GE737 GE743 GE749 GE750) hb)
       (try clear hb)
       (try clear hb2)
       (try clear hk)
       (try clear hi)
       refine hK.out _ _ ⟨(blk_cell BK743.out 0).trans rfl,(blk_cell BK743.out 1).trans rfl,(blk_cell BK731.out 0).trans rfl,(blk_cell BK731.out 1).trans rfl,(blk_cell BK731.out 2).trans rfl,(blk_cell BK749.out 0).trans rfl,(blk_cell BK749.out 1).trans rfl,(blk_cell BK749.out 2).trans rfl⟩ (fun hHeld=>?_)
       clear hK K
       refine norm_ (a':=?_) ?_ ?_
       rotate_left
       ·show Act.put _ (some 61) _=_
        simp only[Act.put,List.setIfInBounds_toArray,List.set_cons_zero,List.set_cons_succ,qaf,qag]
        rfl
       refine qaj (i:=3) (N:=some 62) (v:=?_) (a':=?_) #[true,true,true,true,false,false,false,false,false,false,false,false,false,false,false,false,false,false,false,false] rfl rfl (qah HT_.out (by kernel_rfl)) (fun _ _ _ h=>h) (Or.inl ⟨by rfl,?_⟩) ?_ ?_
       rotate_left
       ·intro w'
        go_simp
        with_reducible rfl
       rotate_left
       ·simp only[Act.put,List.setIfInBounds_toArray,List.set_cons_zero,List.set_cons_succ,qaf,qag]
        rfl
       refine qaj (i:=4) (N:=some 63) (v:=?_) (a':=?_) #[true,true,true,true,true,false,false,false,false,false,false,false,false,false,false,false,false,false,false,false] rfl rfl (qah HT_.out (by kernel_rfl)) (fun _ _ _ h=>h) (Or.inl ⟨by rfl,?_⟩) ?_ ?_
       rotate_left
       ·intro w'
        go_simp
        with_reducible rfl
       rotate_left
       ·simp only[Act.put,List.setIfInBounds_toArray,List.set_cons_zero,List.set_cons_succ,qaf,qag]
        rfl
       refine take_ (i:=5) (N:=some 64) (v:=?_) (a':=?_) #[true,true,true,true,true,true,false,false,false,false,false,false,false,false,false,false,false,false,false,false] rfl rfl (qap HT_.out HW_.out (by kernel_rfl)) (fun _ _ _ h=>h) (Or.inl ⟨by rfl,?_⟩) hHeld ?_ ?_
       rotate_left
       ·rintro w' ⟨s0,s1,s2,s3,s4,s5,s6,s7⟩
        go_simp
        with_reducible rfl
       rotate_left
       ·simp only[Act.put,List.setIfInBounds_toArray,List.set_cons_zero,List.set_cons_succ,qaf,qag]
        rfl
       refine take_ (i:=6) (N:=some 65) (v:=?_) (a':=?_) #[true,true,true,true,true,true,true,false,false,false,false,false,false,false,false,false,false,false,false,false] rfl rfl (qap HT_.out HW_.out (by kernel_rfl)) (fun _ _ _ h=>h) (Or.inl ⟨by rfl,?_⟩) hHeld ?_ ?_
       rotate_left
       ·rintro w' ⟨s0,s1,s2,s3,s4,s5,s6,s7⟩
        go_simp
        with_reducible rfl
       rotate_left
       ·simp only[Act.put,List.setIfInBounds_toArray,List.set_cons_zero,List.set_cons_succ,qaf,qag]
        rfl
       refine one_ (i:=7) (N:=some 66) #[true,true,true,true,true,true,true,true,false,false,false,false,false,false,false,false,false,false,false,false] rfl rfl (one_of HT_.out (by kernel_rfl)) (by decide) (fun K hK=>?_)
       refine goes_ Try.func28 (by kernel_rfl) rfl #[.agg #[.int .i64 t738,.slice Ao29 t739.length co29],.agg #[.int .i64 1,.int .i64 t726,.slice Ao94 y746.length co94]] (by rfl) rfl rfl (by(try simp only[List.map_toArray,List.map_cons,List.map_nil]);first|done|rfl|(simp only[List.length_drop,List.length_take];rfl)) ?_
       with_reducible refine(impl_StockMay.calls kj5 t738 _ _ t739 1 t726 _ _ y746 true _ ?side1 ?side2 ?side3 ?side4 A86.out).mono ?_
       (case side1=>repeat(first|exact(Kd.Q_reads' HO_744001.out).2.2|(with_reducible refine Kd.C_alloc ?_ _)|(with_reducible refine Kd.C_drewN ?_ _)|(with_reducible refine Kd.C_drew ?_)))
       (case side2=>exact(Kd.Q_reads' HO_744001.out).2.1)
       (case side3=>repeat(first|exact(Kd.R_reads' HO748.out).2.2|(with_reducible refine Kd.C_alloc ?_ _)|(with_reducible refine Kd.C_drewN ?_ _)|(with_reducible refine Kd.C_drew ?_)))
       (case side4=>exact(Kd.R_reads' HO748.out).2.1)
       rintro e w112 ⟨rfl,hb⟩
       refine⟨_,rfl,?_⟩
       replace HO_731001:=Aside0.mk (Kd.Q_below (za10 HO_731001) hb)
       replace HO_732002:=Aside0.mk (Kd.V_below (za42 HO_732002) hb)
       replace HO_738001:=Aside0.mk (Kd.Q_below (za10 HO_738001) hb)
       replace HO_744001:=Aside0.mk (Kd.Q_below (za10 HO_744001) hb)
       replace HO748:=Aside0.mk (Kd.R_below (za5 HO748) hb)
       replace BK730:=Aside0.mk (qaa (zB BK730) hb)
       replace BK731:=Aside0.mk (qaa (zB BK731) hb)
       replace BK737:=Aside0.mk (qaa (zB BK737) hb)
       replace BK743:=Aside0.mk (qaa (zB BK743) hb)
       replace BK749:=Aside0.mk (qaa (zB BK749) hb)
       replace BK750:=Aside0.mk (qaa (zB BK750) hb)
       replace HB:=Aside0.mk (qab (za46 HB GE730 GE731 GE737 GE743 GE749 GE750) hb)
       (try clear hb)
       (try clear hb2)
       (try clear hk)
       (try clear hi)
       refine hK.out _ _ ⟨(blk_cell BK743.out 0).trans rfl,(blk_cell BK743.out 1).trans rfl,(blk_cell BK731.out 0).trans rfl,(blk_cell BK731.out 1).trans rfl,(blk_cell BK731.out 2).trans rfl,(blk_cell BK749.out 0).trans rfl,(blk_cell BK749.out 1).trans rfl,(blk_cell BK749.out 2).trans rfl⟩ (fun hHeld=>?_)
       clear hK K
       refine norm_ (a':=?_) ?_ ?_
       rotate_left
       ·show Act.put _ (some 66) _=_
        simp only[Act.put,List.setIfInBounds_toArray,List.set_cons_zero,List.set_cons_succ,qaf,qag]
        rfl
       refine qaj (i:=8) (N:=some 67) (v:=?_) (a':=?_) #[true,true,true,true,true,true,true,true,true,false,false,false,false,false,false,false,false,false,false,false] rfl rfl (qah HT_.out (by kernel_rfl)) (fun _ _ _ h=>h) (Or.inl ⟨by rfl,?_⟩) ?_ ?_
       rotate_left
       ·intro w'
        go_simp
        with_reducible rfl
       rotate_left
       ·simp only[Act.put,List.setIfInBounds_toArray,List.set_cons_zero,List.set_cons_succ,qaf,qag]
        rfl
       refine qaj (i:=9) (N:=some 68) (v:=?_) (a':=?_) #[true,true,true,true,true,true,true,true,true,true,false,false,false,false,false,false,false,false,false,false] rfl rfl (qah HT_.out (by kernel_rfl)) (fun _ _ _ h=>h) (Or.inl ⟨by rfl,?_⟩) ?_ ?_
       rotate_left
       ·intro w'
        go_simp
        with_reducible rfl
       rotate_left
       ·simp only[Act.put,List.setIfInBounds_toArray,List.set_cons_zero,List.set_cons_succ,qaf,qag]
        rfl
       refine qaj (i:=10) (N:=some 69) (v:=?_) (a':=?_) #[true,true,true,true,true,true,true,true,true,true,true,false,false,false,false,false,false,false,false,false] rfl rfl (qah HT_.out (by kernel_rfl)) (fun _ _ _ h=>h) (Or.inl ⟨by rfl,?_⟩) ?_ ?_
       rotate_left
       ·intro w'
        go_simp
        with_reducible rfl
       rotate_left
       ·simp only[Act.put,List.setIfInBounds_toArray,List.set_cons_zero,List.set_cons_succ,qaf,qag]
        rfl
       refine qaj (i:=11) (N:=some 70) (v:=undef) (a':=?_) #[true,true,true,true,true,true,true,true,true,true,true,true,false,false,false,false,false,false,false,false] rfl rfl (qah HT_.out (by kernel_rfl)) (fun _ _ _ h=>h) (Or.inr ⟨by rfl,rfl⟩) ?_ ?_
       rotate_left
       ·simp only[Act.put,List.setIfInBounds_toArray,List.set_cons_zero,List.set_cons_succ,qaf,qag]
        rfl
       refine qaj (i:=12) (N:=some 71) (v:=undef) (a':=?_) #[true,true,true,true,true,true,true,true,true,true,true,true,true,false,false,false,false,false,false,false] rfl rfl (qah HT_.out (by kernel_rfl)) (fun _ _ _ h=>h) (Or.inr ⟨by rfl,rfl⟩) ?_ ?_
       rotate_left
       ·simp only[Act.put,List.setIfInBounds_toArray,List.set_cons_zero,List.set_cons_succ,qaf,qag]
        rfl
       refine qaj (i:=13) (N:=some 72) (v:=undef) (a':=?_) #[true,true,true,true,true,true,true,true,true,true,true,true,true,true,false,false,false,false,false,false] rfl rfl (qah HT_.out (by kernel_rfl)) (fun _ _ _ h=>h) (Or.inr ⟨by rfl,rfl⟩) ?_ ?_
       rotate_left
       ·simp only[Act.put,List.setIfInBounds_toArray,List.set_cons_zero,List.set_cons_succ,qaf,qag]
        rfl
       refine qaj (i:=14) (N:=some 73) (v:=undef) (a':=?_) #[true,true,true,true,true,true,true,true,true,true,true,true,true,true,true,false,false,false,false,false] rfl rfl (qah HT_.out (by kernel_rfl)) (fun _ _ _ h=>h) (Or.inr ⟨by rfl,rfl⟩) ?_ ?_
       rotate_left
       ·simp only[Act.put,List.setIfInBounds_toArray,List.set_cons_zero,List.set_cons_succ,qaf,qag]
        rfl
       refine qaj (i:=15) (N:=some 74) (v:=undef) (a':=?_) #[true,true,true,true,true,true,true,true,true,true,true,true,true,true,true,true,false,false,false,false] rfl rfl (qah HT_.out (by kernel_rfl)) (fun _ _ _ h=>h) (Or.inr ⟨by rfl,rfl⟩) ?_ ?_
       rotate_left
       ·simp only[Act.put,List.setIfInBounds_toArray,List.set_cons_zero,List.set_cons_succ,qaf,qag]
        rfl
       refine qaj (i:=16) (N:=some 75) (v:=undef) (a':=?_) #[true,true,true,true,true,true,true,true,true,true,true,true,true,true,true,true,true,false,false,false] rfl rfl (qah HT_.out (by kernel_rfl)) (fun _ _ _ h=>h) (Or.inr ⟨by rfl,rfl⟩) ?_ ?_
       rotate_left
       ·simp only[Act.put,List.setIfInBounds_toArray,List.set_cons_zero,List.set_cons_succ,qaf,qag]
        rfl
       refine qaj (i:=17) (N:=some 76) (v:=undef) (a':=?_) #[true,true,true,true,true,true,true,true,true,true,true,true,true,true,true,true,true,true,false,false] rfl rfl (qah HT_.out (by kernel_rfl)) (fun _ _ _ h=>h) (Or.inr ⟨by rfl,rfl⟩) ?_ ?_
       rotate_left
       ·simp only[Act.put,List.setIfInBounds_toArray,List.set_cons_zero,List.set_cons_succ,qaf,qag]
        rfl
       refine qaj (i:=18) (N:=some 77) (v:=?_) (a':=?_) #[true,true,true,true,true,true,true,true,true,true,true,true,true,true,true,true,true,true,true,false] rfl rfl (qah HT_.out (by kernel_rfl)) (fun _ _ _ h=>h) (Or.inl ⟨by rfl,?_⟩) ?_ ?_
       rotate_left
       ·intro w'
        go_simp
        with_reducible rfl
       rotate_left
       ·simp only[Act.put,List.setIfInBounds_toArray,List.set_cons_zero,List.set_cons_succ,qaf,qag]
        rfl
       refine qaj (i:=19) (N:=some 2) (v:=?_) (a':=?_) #[true,true,true,true,true,true,true,true,true,true,true,true,true,true,true,true,true,true,true,true] rfl rfl (qah HT_.out (by kernel_rfl)) (fun _ _ _ h=>h) (Or.inl ⟨by rfl,?_⟩) ?_ ?_
       rotate_left
       ·intro w'
        go_simp
        with_reducible rfl
       rotate_left
       ·simp only[Act.put,List.setIfInBounds_toArray,List.set_cons_zero,List.set_cons_succ,qaf,qag]
        rfl
       refine done_ (done_of HT_.out (by kernel_rfl)) ?_
       try go_wp2
       go_ret
       exact⟨za16,za46 HB GE730 GE731 GE737 GE743 GE749 GE750⟩
      ·replace c87:=Bool.eq_false_iff.mpr c87
       subst c87
       have H1:((impl_StockMay.f kj5 t738 t739 2 t726 ([]:List Int)).bind fun t753=>(some (t753 == (t725 == 1))))=some r:=by rw[if_neg (show ¬(false=true) by decide)] at H;exact H
       clear H
       have H:=H1
       clear H1
       replace H:=Option.bind_eq_some_iff.mp H
       obtain⟨t753,A1130,H⟩:=H
       replace H:(some (t753 == (t725 == 1)))=some r:=H
       have A113:=Aside0.mk A1130
       clear A1130
       obtain rfl:=Option.some.inj H
       have hnb114:=NB731_730.out
       have hnc114:=NB730_731.out
       have hnb115:=NB731_737.out
       have hnc115:=NB737_731.out
       have hnb116:=NB731_743.out
       have hnc116:=NB743_731.out
       obtain⟨hcz117_0,hcz117_1,hcz117_2,hfz117_0,hfz117_1,hfz117_2⟩:=zC3 BK731
       try go_wp2_with(first|((with_reducible refine qae (N:=54) rfl ?_);refine Kd.R_lit (Kd.int .i64) _ 3 (by rfl) (N:=54) (by rfl) (xs:=([1]:List Int)) (inner:=[.int .i64 1]) (ok:=fun _=>True) (okp:=fun _=>True) (by first|(go_simp;done)|(go_simp;rfl)) ?hp (fun _ hk=>hk) trivial (Below.refl _ _) (Nat.le_refl _) (by simp) ?_;(case hp=>exact(Reps.one (show Kd.M (Kd.int .i64) _ _ _ 1 [.int .i64 1] from rfl) (Reps.none _ _)));intro v747 w118 ho119 hb hg_ hnew_;clear hg_ hnew_;(first|rw[←Ny746.out] at ho119|(simp only[Int.reduceToNat] at ho119;rw[←Ny746.out] at ho119));replace HO_731001:=Aside0.mk (Kd.Q_below (za10 HO_731001) hb);replace HO_732002:=Aside0.mk (Kd.V_elder' (za42 HO_732002) (Kd.R_base ho119) hb);replace HO_738001:=Aside0.mk (Kd.Q_below (za10 HO_738001) hb);replace HO_744001:=Aside0.mk (Kd.Q_below (za10 HO_744001) hb);have HO748:=Aside0.mk (Kd.R_lower ho119 (below_size (za7 HB GE730 GE731 GE737 GE743)));replace BK730:=Aside0.mk (qaa (zB BK730) hb);replace BK731:=Aside0.mk (qaa (zB BK731) hb);replace BK737:=Aside0.mk (qaa (zB BK737) hb);replace BK743:=Aside0.mk (qaa (zB BK743) hb);replace HB:=Aside0.mk (qab (za7 HB GE730 GE731 GE737 GE743) hb);clear hb ho119;obtain⟨Ao120,co120,eo120⟩:=Kd.R_slice HO748.out;subst eo120)|((with_reducible refine qae (N:=9) rfl ?_);refine zX (N:=9) (cs:=#[.int .i64 0,.int .i64 0,.slice none 0 0]) (t:=32) ?_;intro gb749 hg w121 hbox hb;replace HO_731001:=Aside0.mk (Kd.Q_below (za10 HO_731001) hb);replace HO_732002:=Aside0.mk (Kd.V_below (Kd.V_elderB (za42 HO_732002) gb749 (Nat.le_of_eq hg.symm)) hb);replace HO_738001:=Aside0.mk (Kd.Q_below (za10 HO_738001) hb);replace HO_744001:=Aside0.mk (Kd.Q_below (za10 HO_744001) hb);replace HO748:=Aside0.mk (Kd.R_below (za5 HO748) hb);have BK749:=Aside0.mk hbox;have GW749:=zH (w:=w) hg (za7 HB GE730 GE731 GE737 GE743);have GE749:=GW749;replace HB:=Aside0.mk (qab (za7 HB GE730 GE731 GE737 GE743) hb);have NB730_749:=zL BK730 hg;have NB749_730:=zG BK730 hg;replace BK730:=Aside0.mk (qaa (zB BK730) hb);have NB731_749:=zL BK731 hg;have NB749_731:=zG BK731 hg;replace BK731:=Aside0.mk (qaa (zB BK731) hb);have NB737_749:=zL BK737 hg;have NB749_737:=zG BK737 hg;replace BK737:=Aside0.mk (qaa (zB BK737) hb);have NB743_749:=zL BK743 hg;have NB749_743:=zG BK743 hg;replace BK743:=Aside0.mk (qaa (zB BK743) hb);clear hb hbox hg;have hnb122:=NB749_730.out;have hnc122:=NB730_749.out;have hnb123:=NB749_731.out;have hnc123:=NB731_749.out;have hnb124:=NB749_737.out;have hnc124:=NB737_749.out;have hnb125:=NB749_743.out;have hnc125:=NB743_749.out;obtain⟨hcz126_0,hcz126_1,hcz126_2,hfz126_0,hfz126_1,hfz126_2⟩:=zC3 BK749;obtain⟨hcz127_0,hcz127_1,hcz127_2,hfz127_0,hfz127_1,hfz127_2⟩:=zC3 BK731)|((with_reducible refine qae (N:=10) rfl ?_);refine zX (N:=10) (cs:=#[.int .i64 0,.int .i64 0,.slice none 0 0]) (t:=32) ?_;intro gb750 hg w128 hbox hb;replace HO_731001:=Aside0.mk (Kd.Q_below (by(with_reducible repeat(first|apply Kd.Q_alloc|apply Kd.Q_drewN|apply Kd.Q_drew));exact(Kd.Q_mono (Kd.Q_far (p:=⟨gb749,2,none⟩) (Kd.Q_far (p:=⟨gb749,1,none⟩) (Kd.Q_far (p:=⟨gb749,0,none⟩) (Kd.Q_types HO_731001.out BK749.out (by decide)) (fun _ hk=>hk.2) (.int .i64 1)) (fun _ hk=>hk.2) (.int .i64 t726)) (fun _ hk=>hk.2) (.slice Ao120 y746.length co120)) (fun _ h_=>h_.1))) hb);replace HO_732002:=Aside0.mk (Kd.V_below (Kd.V_elderB (by(with_reducible repeat(first|apply Kd.V_alloc|apply Kd.V_drewN|apply Kd.V_drew));exact(Kd.V_mono (Kd.V_far (p:=⟨gb749,2,none⟩) (Kd.V_far (p:=⟨gb749,1,none⟩) (Kd.V_far (p:=⟨gb749,0,none⟩) (Kd.V_mono HO_732002.out (fun k_ hk=>(⟨hk,hk.2⟩:_∧k_≠gb749))) (fun _ hk=>hk.2) (.int .i64 1)) (fun _ hk=>hk.2) (.int .i64 t726)) (fun _ hk=>hk.2) (.slice Ao120 y746.length co120)) (fun _ h_=>h_.1))) gb750 (Nat.le_of_eq hg.symm)) hb);replace HO_738001:=Aside0.mk (Kd.Q_below (by(with_reducible repeat(first|apply Kd.Q_alloc|apply Kd.Q_drewN|apply Kd.Q_drew));exact(Kd.Q_mono (Kd.Q_far (p:=⟨gb749,2,none⟩) (Kd.Q_far (p:=⟨gb749,1,none⟩) (Kd.Q_far (p:=⟨gb749,0,none⟩) (Kd.Q_types HO_738001.out BK749.out (by decide)) (fun _ hk=>hk.2) (.int .i64 1)) (fun _ hk=>hk.2) (.int .i64 t726)) (fun _ hk=>hk.2) (.slice Ao120 y746.length co120)) (fun _ h_=>h_.1))) hb);replace HO_744001:=Aside0.mk (Kd.Q_below (by(with_reducible repeat(first|apply Kd.Q_alloc|apply Kd.Q_drewN|apply Kd.Q_drew));exact(Kd.Q_mono (Kd.Q_far (p:=⟨gb749,2,none⟩) (Kd.Q_far (p:=⟨gb749,1,none⟩) (Kd.Q_far (p:=⟨gb749,0,none⟩) (Kd.Q_types HO_744001.out BK749.out (by decide)) (fun _ hk=>hk.2) (.int .i64 1)) (fun _ hk=>hk.2) (.int .i64 t726)) (fun _ hk=>hk.2) (.slice Ao120 y746.length co120)) (fun _ h_=>h_.1))) hb);replace HO748:=Aside0.mk (Kd.R_below (by(with_reducible repeat(first|apply Kd.R_alloc|apply Kd.R_drewN|apply Kd.R_drew));exact(Kd.R_mono (Kd.R_far (p:=⟨gb749,2,none⟩) (Kd.R_far (p:=⟨gb749,1,none⟩) (Kd.R_far (p:=⟨gb749,0,none⟩) (Kd.R_types HO748.out BK749.out (by decide)) (fun _ hk=>hk.2) (.int .i64 1)) (fun _ hk=>hk.2) (.int .i64 t726)) (fun _ hk=>hk.2) (.slice Ao120 y746.length co120)) (fun _ h_=>h_.1))) hb);have BK750:=Aside0.mk hbox;have GW750:=zH (w:=w) hg (za52 HB GE730 GE731 GE737 GE743 GE749);have GE750:=GW750;replace HB:=Aside0.mk (qab (za52 HB GE730 GE731 GE737 GE743 GE749) hb);have NB730_750:=Aside0.mk ((by rw[hg];exact Nat.ne_of_lt (blk_lt (g:=gb730) (o:=.cells #[.int .i64 t721,.slice Ao12 t722.length co12] 38 (0,0)) (za3 NB730_749 BK730)):gb730≠gb750));have NB750_730:=Aside0.mk ((by rw[hg];exact Nat.ne_of_gt (blk_lt (g:=gb730) (o:=.cells #[.int .i64 t721,.slice Ao12 t722.length co12] 38 (0,0)) (za3 NB730_749 BK730)):gb750≠gb730));replace BK730:=Aside0.mk (qaa (g:=gb730) (o:=.cells #[.int .i64 t721,.slice Ao12 t722.length co12] 38 (0,0)) (za3 NB730_749 BK730) hb);have NB731_750:=Aside0.mk ((by rw[hg];exact Nat.ne_of_lt (blk_lt (g:=gb731) (o:=.cells #[.int .i64 t725,.int .i64 t726,.slice Ao14 t727.length co14] 32 (0,0)) (za3 NB731_749 BK731)):gb731≠gb750));have NB750_731:=Aside0.mk ((by rw[hg];exact Nat.ne_of_gt (blk_lt (g:=gb731) (o:=.cells #[.int .i64 t725,.int .i64 t726,.slice Ao14 t727.length co14] 32 (0,0)) (za3 NB731_749 BK731)):gb750≠gb731));replace BK731:=Aside0.mk (qaa (g:=gb731) (o:=.cells #[.int .i64 t725,.int .i64 t726,.slice Ao14 t727.length co14] 32 (0,0)) (za3 NB731_749 BK731) hb);have NB737_750:=Aside0.mk ((by rw[hg];exact Nat.ne_of_lt (blk_lt (g:=gb737) (o:=.cells #[.int .i64 t732,.slice Ao20 t733.length co20] 38 (0,0)) (za3 NB737_749 BK737)):gb737≠gb750));have NB750_737:=Aside0.mk ((by rw[hg];exact Nat.ne_of_gt (blk_lt (g:=gb737) (o:=.cells #[.int .i64 t732,.slice Ao20 t733.length co20] 38 (0,0)) (za3 NB737_749 BK737)):gb750≠gb737));replace BK737:=Aside0.mk (qaa (g:=gb737) (o:=.cells #[.int .i64 t732,.slice Ao20 t733.length co20] 38 (0,0)) (za3 NB737_749 BK737) hb);have NB743_750:=Aside0.mk ((by rw[hg];exact Nat.ne_of_lt (blk_lt (g:=gb743) (o:=.cells #[.int .i64 t738,.slice Ao29 t739.length co29] 38 (0,0)) (za3 NB743_749 BK743)):gb743≠gb750));have NB750_743:=Aside0.mk ((by rw[hg];exact Nat.ne_of_gt (blk_lt (g:=gb743) (o:=.cells #[.int .i64 t738,.slice Ao29 t739.length co29] 38 (0,0)) (za3 NB743_749 BK743)):gb750≠gb743));replace BK743:=Aside0.mk (qaa (g:=gb743) (o:=.cells #[.int .i64 t738,.slice Ao29 t739.length co29] 38 (0,0)) (za3 NB743_749 BK743) hb);have NB749_750:=Aside0.mk ((by rw[hg];exact Nat.ne_of_lt (blk_lt (g:=gb749) (o:=.cells #[.int .i64 1,.int .i64 t726,.slice Ao120 y746.length co120] 32 (0,0)) (by(with_reducible repeat(first|refine blk_drewN ?_ _|refine blk_drew ?_|refine blk_alloc ?_ _));refine qad (cs:=#[.int .i64 1,.int .i64 t726,.slice none 0 0]) ?_ 2 _ rfl;(with_reducible repeat(first|refine blk_drewN ?_ _|refine blk_drew ?_|refine blk_alloc ?_ _));refine qad (cs:=#[.int .i64 1,.int .i64 0,.slice none 0 0]) ?_ 1 _ rfl;(with_reducible repeat(first|refine blk_drewN ?_ _|refine blk_drew ?_|refine blk_alloc ?_ _));refine qad (cs:=#[.int .i64 0,.int .i64 0,.slice none 0 0]) ?_ 0 _ rfl;(with_reducible repeat(first|refine blk_drewN ?_ _|refine blk_drew ?_|refine blk_alloc ?_ _));exact BK749.out)):gb749≠gb750));have NB750_749:=Aside0.mk ((by rw[hg];exact Nat.ne_of_gt (blk_lt (g:=gb749) (o:=.cells #[.int .i64 1,.int .i64 t726,.slice Ao120 y746.length co120] 32 (0,0)) (by(with_reducible repeat(first|refine blk_drewN ?_ _|refine blk_drew ?_|refine blk_alloc ?_ _));refine qad (cs:=#[.int .i64 1,.int .i64 t726,.slice none 0 0]) ?_ 2 _ rfl;(with_reducible repeat(first|refine blk_drewN ?_ _|refine blk_drew ?_|refine blk_alloc ?_ _));refine qad (cs:=#[.int .i64 1,.int .i64 0,.slice none 0 0]) ?_ 1 _ rfl;(with_reducible repeat(first|refine blk_drewN ?_ _|refine blk_drew ?_|refine blk_alloc ?_ _));refine qad (cs:=#[.int .i64 0,.int .i64 0,.slice none 0 0]) ?_ 0 _ rfl;(with_reducible repeat(first|refine blk_drewN ?_ _|refine blk_drew ?_|refine blk_alloc ?_ _));exact BK749.out)):gb750≠gb749));replace BK749:=Aside0.mk (qaa (g:=gb749) (o:=.cells #[.int .i64 1,.int .i64 t726,.slice Ao120 y746.length co120] 32 (0,0)) (by(with_reducible repeat(first|refine blk_drewN ?_ _|refine blk_drew ?_|refine blk_alloc ?_ _));refine qad (cs:=#[.int .i64 1,.int .i64 t726,.slice none 0 0]) ?_ 2 _ rfl;(with_reducible repeat(first|refine blk_drewN ?_ _|refine blk_drew ?_|refine blk_alloc ?_ _));refine qad (cs:=#[.int .i64 1,.int .i64 0,.slice none 0 0]) ?_ 1 _ rfl;(with_reducible repeat(first|refine blk_drewN ?_ _|refine blk_drew ?_|refine blk_alloc ?_ _));refine qad (cs:=#[.int .i64 0,.int .i64 0,.slice none 0 0]) ?_ 0 _ rfl;(with_reducible repeat(first|refine blk_drewN ?_ _|refine blk_drew ?_|refine blk_alloc ?_ _));exact BK749.out) hb);clear hb hbox hg;have hnb129:=NB750_730.out;have hnc129:=NB730_750.out;have hnb130:=NB750_731.out;have hnc130:=NB731_750.out;have hnb131:=NB750_737.out;have hnc131:=NB737_750.out;have hnb132:=NB750_743.out;have hnc132:=NB743_750.out;have hnb133:=NB750_749.out;have hnc133:=NB749_750.out;obtain⟨hcz134_0,hcz134_1,hcz134_2,hfz134_0,hfz134_1,hfz134_2⟩:=zC3 BK750))
       have n0_:Aside0 (Kd.Q k49 49 (((w128.setCell ⟨gb750,0,none⟩ (.int .i64 2)).setCell ⟨gb750,1,none⟩ (.int .i64 t726)).setCell ⟨gb750,2,none⟩ (.slice none 0 0)) w.heap.size (fun k_=>some k_≠(.slice Ao20 t733.length co20:Value).ownBlock∧some k_≠(.slice Ao29 t739.length co29:Value).ownBlock) (.slice Ao12 t722.length co12) t722):=⟨by(with_reducible repeat(first|apply Kd.Q_alloc|apply Kd.Q_drewN|apply Kd.Q_drew));exact Kd.Q_mono (Kd.Q_far (p:=⟨gb750,2,none⟩) (Kd.Q_far (p:=⟨gb750,1,none⟩) (Kd.Q_far (p:=⟨gb750,0,none⟩) (Kd.Q_types HO_731001.out BK750.out (by decide)) (fun _ hk=>hk.2) (.int .i64 2)) (fun _ hk=>hk.2) (.int .i64 t726)) (fun _ hk=>hk.2) (.slice none 0 0)) (fun _ hk=>⟨hk.1.1,hk.1.2⟩)⟩
       have n1_:Aside0 (Kd.V (Kd.int .i64) 3 (((w128.setCell ⟨gb750,0,none⟩ (.int .i64 2)).setCell ⟨gb750,1,none⟩ (.int .i64 t726)).setCell ⟨gb750,2,none⟩ (.slice none 0 0)) w.heap.size (fun k_=>some k_≠(.slice Ao12 t722.length co12:Value).ownBlock∧some k_≠(.slice Ao20 t733.length co20:Value).ownBlock∧some k_≠(.slice Ao29 t739.length co29:Value).ownBlock∧some k_≠(.slice Ao120 y746.length co120:Value).ownBlock∧k_≠gb730∧k_≠gb731∧k_≠gb737∧k_≠gb743∧k_≠gb749∧k_≠gb750) (.slice Ao14 t727.length co14) t727):=⟨by(with_reducible repeat(first|apply Kd.V_alloc|apply Kd.V_drewN|apply Kd.V_drew));exact Kd.V_mono (Kd.V_far (p:=⟨gb750,2,none⟩) (Kd.V_far (p:=⟨gb750,1,none⟩) (Kd.V_far (p:=⟨gb750,0,none⟩) (Kd.V_mono HO_732002.out (fun k_ hk=>(⟨hk,hk.2⟩:_∧k_≠gb750))) (fun _ hk=>hk.2) (.int .i64 2)) (fun _ hk=>hk.2) (.int .i64 t726)) (fun _ hk=>hk.2) (.slice none 0 0)) (fun _ hk=>⟨hk.1.1.1.1.1,⟨hk.1.1.1.1.2.1,⟨hk.1.1.1.1.2.2.1,⟨hk.1.1.1.2,⟨hk.1.1.1.1.2.2.2.1,⟨hk.1.1.1.1.2.2.2.2.1,⟨hk.1.1.1.1.2.2.2.2.2.1,⟨hk.1.1.1.1.2.2.2.2.2.2,⟨hk.1.1.2,hk.1.2⟩⟩⟩⟩⟩⟩⟩⟩⟩)⟩
       have n2_:Aside0 (Kd.Q k49 49 (((w128.setCell ⟨gb750,0,none⟩ (.int .i64 2)).setCell ⟨gb750,1,none⟩ (.int .i64 t726)).setCell ⟨gb750,2,none⟩ (.slice none 0 0)) w.heap.size (fun k_=>some k_≠(.slice Ao12 t722.length co12:Value).ownBlock∧some k_≠(.slice Ao29 t739.length co29:Value).ownBlock) (.slice Ao20 t733.length co20) t733):=⟨by(with_reducible repeat(first|apply Kd.Q_alloc|apply Kd.Q_drewN|apply Kd.Q_drew));exact Kd.Q_mono (Kd.Q_far (p:=⟨gb750,2,none⟩) (Kd.Q_far (p:=⟨gb750,1,none⟩) (Kd.Q_far (p:=⟨gb750,0,none⟩) (Kd.Q_types HO_738001.out BK750.out (by decide)) (fun _ hk=>hk.2) (.int .i64 2)) (fun _ hk=>hk.2) (.int .i64 t726)) (fun _ hk=>hk.2) (.slice none 0 0)) (fun _ hk=>⟨hk.1.1,hk.1.2⟩)⟩
       have n3_:Aside0 (Kd.Q k49 49 (((w128.setCell ⟨gb750,0,none⟩ (.int .i64 2)).setCell ⟨gb750,1,none⟩ (.int .i64 t726)).setCell ⟨gb750,2,none⟩ (.slice none 0 0)) w.heap.size (fun k_=>some k_≠(.slice Ao12 t722.length co12:Value).ownBlock∧some k_≠(.slice Ao20 t733.length co20:Value).ownBlock) (.slice Ao29 t739.length co29) t739):=⟨by(with_reducible repeat(first|apply Kd.Q_alloc|apply Kd.Q_drewN|apply Kd.Q_drew));exact Kd.Q_mono (Kd.Q_far (p:=⟨gb750,2,none⟩) (Kd.Q_far (p:=⟨gb750,1,none⟩) (Kd.Q_far (p:=⟨gb750,0,none⟩) (Kd.Q_types HO_744001.out BK750.out (by decide)) (fun _ hk=>hk.2) (.int .i64 2)) (fun _ hk=>hk.2) (.int .i64 t726)) (fun _ hk=>hk.2) (.slice none 0 0)) (fun _ hk=>⟨hk.1.1,hk.1.2⟩)⟩
       have n4_:Aside0 (Kd.R (Kd.int .i64) 3 (((w128.setCell ⟨gb750,0,none⟩ (.int .i64 2)).setCell ⟨gb750,1,none⟩ (.int .i64 t726)).setCell ⟨gb750,2,none⟩ (.slice none 0 0)) w.heap.size (fun _=>True) (.slice Ao120 y746.length co120) y746):=⟨by(with_reducible repeat(first|apply Kd.R_alloc|apply Kd.R_drewN|apply Kd.R_drew));exact Kd.R_mono (Kd.R_far (p:=⟨gb750,2,none⟩) (Kd.R_far (p:=⟨gb750,1,none⟩) (Kd.R_far (p:=⟨gb750,0,none⟩) (Kd.R_types HO748.out BK750.out (by decide)) (fun _ hk=>hk.2) (.int .i64 2)) (fun _ hk=>hk.2) (.int .i64 t726)) (fun _ hk=>hk.2) (.slice none 0 0)) (fun _ hk=>trivial)⟩
       have n5_:Aside0 ((((w128.setCell ⟨gb750,0,none⟩ (.int .i64 2)).setCell ⟨gb750,1,none⟩ (.int .i64 t726)).setCell ⟨gb750,2,none⟩ (.slice none 0 0)).heap[gb730]?=some (.cells #[.int .i64 t721,.slice Ao12 t722.length co12] 38 (0,0))):=⟨za3 NB730_750 BK730⟩
       have n6_:Aside0 ((((w128.setCell ⟨gb750,0,none⟩ (.int .i64 2)).setCell ⟨gb750,1,none⟩ (.int .i64 t726)).setCell ⟨gb750,2,none⟩ (.slice none 0 0)).heap[gb731]?=some (.cells #[.int .i64 t725,.int .i64 t726,.slice Ao14 t727.length co14] 32 (0,0))):=⟨za3 NB731_750 BK731⟩
       have n7_:Aside0 ((((w128.setCell ⟨gb750,0,none⟩ (.int .i64 2)).setCell ⟨gb750,1,none⟩ (.int .i64 t726)).setCell ⟨gb750,2,none⟩ (.slice none 0 0)).heap[gb737]?=some (.cells #[.int .i64 t732,.slice Ao20 t733.length co20] 38 (0,0))):=⟨za3 NB737_750 BK737⟩
       have n8_:Aside0 ((((w128.setCell ⟨gb750,0,none⟩ (.int .i64 2)).setCell ⟨gb750,1,none⟩ (.int .i64 t726)).setCell ⟨gb750,2,none⟩ (.slice none 0 0)).heap[gb743]?=some (.cells #[.int .i64 t738,.slice Ao29 t739.length co29] 38 (0,0))):=⟨za3 NB743_750 BK743⟩
       have n9_:Aside0 ((((w128.setCell ⟨gb750,0,none⟩ (.int .i64 2)).setCell ⟨gb750,1,none⟩ (.int .i64 t726)).setCell ⟨gb750,2,none⟩ (.slice none 0 0)).heap[gb749]?=some (.cells #[.int .i64 1,.int .i64 t726,.slice Ao120 y746.length co120] 32 (0,0))):=⟨za3 NB749_750 BK749⟩
       have n10_:Aside0 ((((w128.setCell ⟨gb750,0,none⟩ (.int .i64 2)).setCell ⟨gb750,1,none⟩ (.int .i64 t726)).setCell ⟨gb750,2,none⟩ (.slice none 0 0)).heap[gb750]?=some (.cells #[.int .i64 2,.int .i64 t726,.slice none 0 0] 32 (0,0))):=⟨by(with_reducible repeat(first|refine blk_drewN ?_ _|refine blk_drew ?_|refine blk_alloc ?_ _));refine qad (cs:=#[.int .i64 2,.int .i64 t726,.slice none 0 0]) ?_ 2 _ rfl;(with_reducible repeat(first|refine blk_drewN ?_ _|refine blk_drew ?_|refine blk_alloc ?_ _));refine qad (cs:=#[.int .i64 2,.int .i64 0,.slice none 0 0]) ?_ 1 _ rfl;(with_reducible repeat(first|refine blk_drewN ?_ _|refine blk_drew ?_|refine blk_alloc ?_ _));refine qad (cs:=#[.int .i64 0,.int .i64 0,.slice none 0 0]) ?_ 0 _ rfl;(with_reducible repeat(first|refine blk_drewN ?_ _|refine blk_drew ?_|refine blk_alloc ?_ _));exact BK750.out⟩
       have n11_:Aside0 (Below w.heap.size w (((w128.setCell ⟨gb750,0,none⟩ (.int .i64 2)).setCell ⟨gb750,1,none⟩ (.int .i64 t726)).setCell ⟨gb750,2,none⟩ (.slice none 0 0))):=⟨za46 HB GE730 GE731 GE737 GE743 GE749 GE750⟩
       (try clear HO_731001)
       (try clear HO_732002)
       (try clear HO_738001)
       (try clear HO_744001)
       (try clear HO748)
       (try clear BK730)
       (try clear BK731)
       (try clear BK737)
       (try clear BK743)
       (try clear BK749)
       (try clear BK750)
       (try clear HB)
       generalize (((w128.setCell ⟨gb750,0,none⟩ (.int .i64 2)).setCell ⟨gb750,1,none⟩ (.int .i64 t726)).setCell ⟨gb750,2,none⟩ (.slice none 0 0))=w135 at n0_ n1_ n2_ n3_ n4_ n5_ n6_ n7_ n8_ n9_ n10_ n11_ ⊢
       have HO_731001:=n0_
       have HO_732002:=n1_
       have HO_738001:=n2_
       have HO_744001:=n3_
       have HO748:=n4_
       have BK730:=n5_
       have BK731:=n6_
       have BK737:=n7_
       have BK743:=n8_
       have BK749:=n9_
       have BK750:=n10_
       have HB:=n11_
       clear n0_ n1_ n2_ n3_ n4_ n5_ n6_ n7_ n8_ n9_ n10_ n11_
       replace HO_731001:=Aside0.mk (Kd.Q_drew HO_731001.out)
       replace HO_732002:=Aside0.mk (Kd.V_drew HO_732002.out)
       replace HO_738001:=Aside0.mk (Kd.Q_drew HO_738001.out)
       replace HO_744001:=Aside0.mk (Kd.Q_drew HO_744001.out)
       replace HO748:=Aside0.mk (Kd.R_drew HO748.out)
       replace BK730:=Aside0.mk (blk_drew BK730.out)
       replace BK731:=Aside0.mk (blk_drew BK731.out)
       replace BK737:=Aside0.mk (blk_drew BK737.out)
       replace BK743:=Aside0.mk (blk_drew BK743.out)
       replace BK749:=Aside0.mk (blk_drew BK749.out)
       replace BK750:=Aside0.mk (blk_drew BK750.out)
       replace HB:=Aside0.mk (qao HB.out)
       refine start_ (n:=20) (S:=fun w'=>w'.cell? ⟨gb743,0,none⟩=some (.int .i64 t738)∧w'.cell? ⟨gb743,1,none⟩=some (.slice Ao29 t739.length co29)∧w'.cell? ⟨gb731,0,none⟩=some (.int .i64 t725)∧w'.cell? ⟨gb731,1,none⟩=some (.int .i64 t726)∧w'.cell? ⟨gb731,2,none⟩=some (.slice Ao14 t727.length co14)∧w'.cell? ⟨gb749,0,none⟩=some (.int .i64 1)∧w'.cell? ⟨gb749,1,none⟩=some (.int .i64 t726)∧w'.cell? ⟨gb749,2,none⟩=some (.slice Ao120 y746.length co120)∧w'.cell? ⟨gb750,0,none⟩=some (.int .i64 2)∧w'.cell? ⟨gb750,1,none⟩=some (.int .i64 t726)∧w'.cell? ⟨gb750,2,none⟩=some (.slice none 0 0)) (ds:=[]) #[false,false,false,false,false,false,false,false,false,false,false,false,false,false,false,false,false,false,false,false] (by kernel_rfl) rfl rfl ⟨(blk_cell BK743.out 0).trans rfl,(blk_cell BK743.out 1).trans rfl,(blk_cell BK731.out 0).trans rfl,(blk_cell BK731.out 1).trans rfl,(blk_cell BK731.out 2).trans rfl,(blk_cell BK749.out 0).trans rfl,(blk_cell BK749.out 1).trans rfl,(blk_cell BK749.out 2).trans rfl,(blk_cell BK750.out 0).trans rfl,(blk_cell BK750.out 1).trans rfl,(blk_cell BK750.out 2).trans rfl⟩ (fun hHeld=>?_);refine with_tabW laws_FnStockTwice.tab10 laws_FnStockTwice.bits10 (fun HT_ HW_=>?_)
       generalize w135.drew=w136 at HO_731001 HO_732002 HO_738001 HO_744001 HO748 BK730 BK731 BK737 BK743 BK749 BK750 HB hHeld ⊢
       refine take_ (i:=0) (N:=some 59) (v:=?_) (a':=?_) #[true,false,false,false,false,false,false,false,false,false,false,false,false,false,false,false,false,false,false,false] rfl rfl (qap HT_.out HW_.out (by kernel_rfl)) (fun _ _ _ h=>h) (Or.inl ⟨by rfl,?_⟩) hHeld ?_ ?_
       rotate_left
       ·rintro w' ⟨s0,s1,s2,s3,s4,s5,s6,s7,s8,s9,s10⟩
        go_simp
        with_reducible rfl
       rotate_left
       ·simp only[Act.put,List.setIfInBounds_toArray,List.set_cons_zero,List.set_cons_succ,qaf,qag]
        rfl
       refine take_ (i:=1) (N:=some 60) (v:=?_) (a':=?_) #[true,true,false,false,false,false,false,false,false,false,false,false,false,false,false,false,false,false,false,false] rfl rfl (qap HT_.out HW_.out (by kernel_rfl)) (fun _ _ _ h=>h) (Or.inl ⟨by rfl,?_⟩) hHeld ?_ ?_
       rotate_left
       ·rintro w' ⟨s0,s1,s2,s3,s4,s5,s6,s7,s8,s9,s10⟩
        go_simp
        with_reducible rfl
       rotate_left
       ·simp only[Act.put,List.setIfInBounds_toArray,List.set_cons_zero,List.set_cons_succ,qaf,qag]
        rfl
       refine one_ (i:=2) (N:=some 61) #[true,true,true,false,false,false,false,false,false,false,false,false,false,false,false,false,false,false,false,false] rfl rfl (one_of HT_.out (by kernel_rfl)) (by decide) (fun K hK=>?_)
       refine goes_ Try.func28 (by kernel_rfl) rfl #[.agg #[.int .i64 t738,.slice Ao29 t739.length co29],.agg #[.int .i64 t725,.int .i64 t726,.slice Ao14 t727.length co14]] (by rfl) rfl rfl (by(try simp only[List.map_toArray,List.map_cons,List.map_nil]);first|done|rfl|(simp only[List.length_drop,List.length_take];rfl)) ?_
       with_reducible refine(impl_StockMay.calls kj5 t738 _ _ t739 t725 t726 _ _ t727 false _ ?side1 ?side2 ?side3 ?side4 A60.out).mono ?_
       (case side1=>repeat(first|exact(Kd.Q_reads' HO_744001.out).2.2|(with_reducible refine Kd.C_alloc ?_ _)|(with_reducible refine Kd.C_drewN ?_ _)|(with_reducible refine Kd.C_drew ?_)))
       (case side2=>exact(Kd.Q_reads' HO_744001.out).2.1)
       (case side3=>repeat(first|exact(Kd.V_reads' HO_732002.out).2.2|(with_reducible refine Kd.C_alloc ?_ _)|(with_reducible refine Kd.C_drewN ?_ _)|(with_reducible refine Kd.C_drew ?_)))
       (case side4=>exact(Kd.V_reads' HO_732002.out).2.1)
       rintro e w137 ⟨rfl,hb⟩
       refine⟨_,rfl,?_⟩
       replace HO_731001:=Aside0.mk (Kd.Q_below (za10 HO_731001) hb)
       replace HO_732002:=Aside0.mk (Kd.V_below (za42 HO_732002) hb)
       replace HO_738001:=Aside0.mk (Kd.Q_below (za10 HO_738001) hb)
       replace HO_744001:=Aside0.mk (Kd.Q_below (za10 HO_744001) hb)
       replace HO748:=Aside0.mk (Kd.R_below (za5 HO748) hb)
       replace BK730:=Aside0.mk (qaa (zB BK730) hb)
       replace BK731:=Aside0.mk (qaa (zB BK731) hb)
       replace BK737:=Aside0.mk (qaa (zB BK737) hb)
       replace BK743:=Aside0.mk (qaa (zB BK743) hb)
       replace BK749:=Aside0.mk (qaa (zB BK749) hb)
       replace BK750:=Aside0.mk (qaa (zB BK750) hb)
       replace HB:=Aside0.mk (qab (za46 HB GE730 GE731 GE737 GE743 GE749 GE750) hb)
       (try clear hb)
       (try clear hb2)
       (try clear hk)
       (try clear hi)
       refine hK.out _ _ ⟨(blk_cell BK743.out 0).trans rfl,(blk_cell BK743.out 1).trans rfl,(blk_cell BK731.out 0).trans rfl,(blk_cell BK731.out 1).trans rfl,(blk_cell BK731.out 2).trans rfl,(blk_cell BK749.out 0).trans rfl,(blk_cell BK749.out 1).trans rfl,(blk_cell BK749.out 2).trans rfl,(blk_cell BK750.out 0).trans rfl,(blk_cell BK750.out 1).trans rfl,(blk_cell BK750.out 2).trans rfl⟩ (fun hHeld=>?_)
       clear hK K
       refine norm_ (a':=?_) ?_ ?_
       rotate_left
       ·show Act.put _ (some 61) _=_
        simp only[Act.put,List.setIfInBounds_toArray,List.set_cons_zero,List.set_cons_succ,qaf,qag]
        rfl
       refine qaj (i:=3) (N:=some 62) (v:=?_) (a':=?_) #[true,true,true,true,false,false,false,false,false,false,false,false,false,false,false,false,false,false,false,false] rfl rfl (qah HT_.out (by kernel_rfl)) (fun _ _ _ h=>h) (Or.inl ⟨by rfl,?_⟩) ?_ ?_
       rotate_left
       ·intro w'
        go_simp
        with_reducible rfl
       rotate_left
       ·simp only[Act.put,List.setIfInBounds_toArray,List.set_cons_zero,List.set_cons_succ,qaf,qag]
        rfl
       refine qaj (i:=4) (N:=some 63) (v:=?_) (a':=?_) #[true,true,true,true,true,false,false,false,false,false,false,false,false,false,false,false,false,false,false,false] rfl rfl (qah HT_.out (by kernel_rfl)) (fun _ _ _ h=>h) (Or.inl ⟨by rfl,?_⟩) ?_ ?_
       rotate_left
       ·intro w'
        go_simp
        with_reducible rfl
       rotate_left
       ·simp only[Act.put,List.setIfInBounds_toArray,List.set_cons_zero,List.set_cons_succ,qaf,qag]
        rfl
       refine take_ (i:=5) (N:=some 64) (v:=?_) (a':=?_) #[true,true,true,true,true,true,false,false,false,false,false,false,false,false,false,false,false,false,false,false] rfl rfl (qap HT_.out HW_.out (by kernel_rfl)) (fun _ _ _ h=>h) (Or.inl ⟨by rfl,?_⟩) hHeld ?_ ?_
       rotate_left
       ·rintro w' ⟨s0,s1,s2,s3,s4,s5,s6,s7,s8,s9,s10⟩
        go_simp
        with_reducible rfl
       rotate_left
       ·simp only[Act.put,List.setIfInBounds_toArray,List.set_cons_zero,List.set_cons_succ,qaf,qag]
        rfl
       refine take_ (i:=6) (N:=some 65) (v:=?_) (a':=?_) #[true,true,true,true,true,true,true,false,false,false,false,false,false,false,false,false,false,false,false,false] rfl rfl (qap HT_.out HW_.out (by kernel_rfl)) (fun _ _ _ h=>h) (Or.inl ⟨by rfl,?_⟩) hHeld ?_ ?_
       rotate_left
       ·rintro w' ⟨s0,s1,s2,s3,s4,s5,s6,s7,s8,s9,s10⟩
        go_simp
        with_reducible rfl
       rotate_left
       ·simp only[Act.put,List.setIfInBounds_toArray,List.set_cons_zero,List.set_cons_succ,qaf,qag]
        rfl
       refine one_ (i:=7) (N:=some 66) #[true,true,true,true,true,true,true,true,false,false,false,false,false,false,false,false,false,false,false,false] rfl rfl (one_of HT_.out (by kernel_rfl)) (by decide) (fun K hK=>?_)
       refine goes_ Try.func28 (by kernel_rfl) rfl #[.agg #[.int .i64 t738,.slice Ao29 t739.length co29],.agg #[.int .i64 1,.int .i64 t726,.slice Ao120 y746.length co120]] (by rfl) rfl rfl (by(try simp only[List.map_toArray,List.map_cons,List.map_nil]);first|done|rfl|(simp only[List.length_drop,List.length_take];rfl)) ?_
       with_reducible refine(impl_StockMay.calls kj5 t738 _ _ t739 1 t726 _ _ y746 false _ ?side1 ?side2 ?side3 ?side4 A86.out).mono ?_
       (case side1=>repeat(first|exact(Kd.Q_reads' HO_744001.out).2.2|(with_reducible refine Kd.C_alloc ?_ _)|(with_reducible refine Kd.C_drewN ?_ _)|(with_reducible refine Kd.C_drew ?_)))
       (case side2=>exact(Kd.Q_reads' HO_744001.out).2.1)
       (case side3=>repeat(first|exact(Kd.R_reads' HO748.out).2.2|(with_reducible refine Kd.C_alloc ?_ _)|(with_reducible refine Kd.C_drewN ?_ _)|(with_reducible refine Kd.C_drew ?_)))
       (case side4=>exact(Kd.R_reads' HO748.out).2.1)
       rintro e w138 ⟨rfl,hb⟩
       refine⟨_,rfl,?_⟩
       replace HO_731001:=Aside0.mk (Kd.Q_below (za10 HO_731001) hb)
       replace HO_732002:=Aside0.mk (Kd.V_below (za42 HO_732002) hb)
       replace HO_738001:=Aside0.mk (Kd.Q_below (za10 HO_738001) hb)
       replace HO_744001:=Aside0.mk (Kd.Q_below (za10 HO_744001) hb)
       replace HO748:=Aside0.mk (Kd.R_below (za5 HO748) hb)
       replace BK730:=Aside0.mk (qaa (zB BK730) hb)
       replace BK731:=Aside0.mk (qaa (zB BK731) hb)
       replace BK737:=Aside0.mk (qaa (zB BK737) hb)
       replace BK743:=Aside0.mk (qaa (zB BK743) hb)
       replace BK749:=Aside0.mk (qaa (zB BK749) hb)
       replace BK750:=Aside0.mk (qaa (zB BK750) hb)
       replace HB:=Aside0.mk (qab (za46 HB GE730 GE731 GE737 GE743 GE749 GE750) hb)
       (try clear hb)
       (try clear hb2)
       (try clear hk)
       (try clear hi)
       refine hK.out _ _ ⟨(blk_cell BK743.out 0).trans rfl,(blk_cell BK743.out 1).trans rfl,(blk_cell BK731.out 0).trans rfl,(blk_cell BK731.out 1).trans rfl,(blk_cell BK731.out 2).trans rfl,(blk_cell BK749.out 0).trans rfl,(blk_cell BK749.out 1).trans rfl,(blk_cell BK749.out 2).trans rfl,(blk_cell BK750.out 0).trans rfl,(blk_cell BK750.out 1).trans rfl,(blk_cell BK750.out 2).trans rfl⟩ (fun hHeld=>?_)
       clear hK K
       refine norm_ (a':=?_) ?_ ?_
       rotate_left
       ·show Act.put _ (some 66) _=_
        simp only[Act.put,List.setIfInBounds_toArray,List.set_cons_zero,List.set_cons_succ,qaf,qag]
        rfl
       refine qaj (i:=8) (N:=some 67) (v:=?_) (a':=?_) #[true,true,true,true,true,true,true,true,true,false,false,false,false,false,false,false,false,false,false,false] rfl rfl (qah HT_.out (by kernel_rfl)) (fun _ _ _ h=>h) (Or.inl ⟨by rfl,?_⟩) ?_ ?_
       rotate_left
       ·intro w'
        go_simp
        with_reducible rfl
       rotate_left
       ·simp only[Act.put,List.setIfInBounds_toArray,List.set_cons_zero,List.set_cons_succ,qaf,qag]
        rfl
       refine qaj (i:=9) (N:=some 68) (v:=?_) (a':=?_) #[true,true,true,true,true,true,true,true,true,true,false,false,false,false,false,false,false,false,false,false] rfl rfl (qah HT_.out (by kernel_rfl)) (fun _ _ _ h=>h) (Or.inl ⟨by rfl,?_⟩) ?_ ?_
       rotate_left
       ·intro w'
        go_simp
        with_reducible rfl
       rotate_left
       ·simp only[Act.put,List.setIfInBounds_toArray,List.set_cons_zero,List.set_cons_succ,qaf,qag]
        rfl
       refine qaj (i:=10) (N:=some 69) (v:=?_) (a':=?_) #[true,true,true,true,true,true,true,true,true,true,true,false,false,false,false,false,false,false,false,false] rfl rfl (qah HT_.out (by kernel_rfl)) (fun _ _ _ h=>h) (Or.inl ⟨by rfl,?_⟩) ?_ ?_
       rotate_left
       ·intro w'
        go_simp
        with_reducible rfl
       rotate_left
       ·simp only[Act.put,List.setIfInBounds_toArray,List.set_cons_zero,List.set_cons_succ,qaf,qag]
        rfl
       refine qaj (i:=14) (N:=some 73) (v:=?_) (a':=?_) #[true,true,true,true,true,true,true,true,true,true,true,false,false,false,true,false,false,false,false,false] rfl rfl (qah HT_.out (by kernel_rfl)) (fun _ _ _ h=>h) (Or.inl ⟨by rfl,?_⟩) ?_ ?_
       rotate_left
       ·intro w'
        go_simp
        with_reducible rfl
       rotate_left
       ·simp only[Act.put,List.setIfInBounds_toArray,List.set_cons_zero,List.set_cons_succ,qaf,qag]
        rfl
       refine take_ (i:=11) (N:=some 70) (v:=?_) (a':=?_) #[true,true,true,true,true,true,true,true,true,true,true,true,false,false,true,false,false,false,false,false] rfl rfl (qap HT_.out HW_.out (by kernel_rfl)) (fun _ _ _ h=>h) (Or.inl ⟨by rfl,?_⟩) hHeld ?_ ?_
       rotate_left
       ·rintro w' ⟨s0,s1,s2,s3,s4,s5,s6,s7,s8,s9,s10⟩
        go_simp
        with_reducible rfl
       rotate_left
       ·simp only[Act.put,List.setIfInBounds_toArray,List.set_cons_zero,List.set_cons_succ,qaf,qag]
        rfl
       refine take_ (i:=12) (N:=some 71) (v:=?_) (a':=?_) #[true,true,true,true,true,true,true,true,true,true,true,true,true,false,true,false,false,false,false,false] rfl rfl (qap HT_.out HW_.out (by kernel_rfl)) (fun _ _ _ h=>h) (Or.inl ⟨by rfl,?_⟩) hHeld ?_ ?_
       rotate_left
       ·rintro w' ⟨s0,s1,s2,s3,s4,s5,s6,s7,s8,s9,s10⟩
        go_simp
        with_reducible rfl
       rotate_left
       ·simp only[Act.put,List.setIfInBounds_toArray,List.set_cons_zero,List.set_cons_succ,qaf,qag]
        rfl
       refine take_ (i:=15) (N:=some 74) (v:=?_) (a':=?_) #[true,true,true,true,true,true,true,true,true,true,true,true,true,false,true,true,false,false,false,false] rfl rfl (qap HT_.out HW_.out (by kernel_rfl)) (fun _ _ _ h=>h) (Or.inl ⟨by rfl,?_⟩) hHeld ?_ ?_
       rotate_left
       ·rintro w' ⟨s0,s1,s2,s3,s4,s5,s6,s7,s8,s9,s10⟩
        go_simp
        with_reducible rfl
       rotate_left
       ·simp only[Act.put,List.setIfInBounds_toArray,List.set_cons_zero,List.set_cons_succ,qaf,qag]
        rfl
       refine qaj (i:=16) (N:=some 75) (v:=?_) (a':=?_) #[true,true,true,true,true,true,true,true,true,true,true,true,true,false,true,true,true,false,false,false] rfl rfl (qah HT_.out (by kernel_rfl)) (fun _ _ _ h=>h) (Or.inl ⟨by rfl,?_⟩) ?_ ?_
       rotate_left
       ·intro w'
        go_simp
        with_reducible rfl
       rotate_left
       ·simp only[Act.put,List.setIfInBounds_toArray,List.set_cons_zero,List.set_cons_succ,qaf,qag]
        rfl
       refine one_ (i:=13) (N:=some 72) #[true,true,true,true,true,true,true,true,true,true,true,true,true,true,true,true,true,false,false,false] rfl rfl (one_of HT_.out (by kernel_rfl)) (by decide) (fun K hK=>?_)
       refine goes_ Try.func28 (by kernel_rfl) rfl #[.agg #[.int .i64 t738,.slice Ao29 t739.length co29],.agg #[.int .i64 2,.int .i64 t726,.slice none 0 0]] (by rfl) rfl rfl (by(try simp only[List.map_toArray,List.map_cons,List.map_nil]);first|done|rfl|(simp only[List.length_drop,List.length_take];rfl)) ?_
       refine(impl_StockMay.calls kj5 t738 _ _ t739 2 t726 _ _ ([]:List Int) t753 _ ?side1 ?side2 ?side3 ?side4 A113.out).mono ?_
       (case side1=>repeat(first|exact(Kd.Q_reads' HO_744001.out).2.2|(with_reducible refine Kd.C_alloc ?_ _)|(with_reducible refine Kd.C_drewN ?_ _)|(with_reducible refine Kd.C_drew ?_)))
       (case side2=>exact(Kd.Q_reads' HO_744001.out).2.1)
       (case side3=>exact Kd.C_nil _ _)
       (case side4=>exact Nat.le_refl _)
       rintro e w139 ⟨rfl,hb⟩
       refine⟨_,rfl,?_⟩
       replace HO_731001:=Aside0.mk (Kd.Q_below (za10 HO_731001) hb)
       replace HO_732002:=Aside0.mk (Kd.V_below (za42 HO_732002) hb)
       replace HO_738001:=Aside0.mk (Kd.Q_below (za10 HO_738001) hb)
       replace HO_744001:=Aside0.mk (Kd.Q_below (za10 HO_744001) hb)
       replace HO748:=Aside0.mk (Kd.R_below (za5 HO748) hb)
       replace BK730:=Aside0.mk (qaa (zB BK730) hb)
       replace BK731:=Aside0.mk (qaa (zB BK731) hb)
       replace BK737:=Aside0.mk (qaa (zB BK737) hb)
       replace BK743:=Aside0.mk (qaa (zB BK743) hb)
       replace BK749:=Aside0.mk (qaa (zB BK749) hb)
       replace BK750:=Aside0.mk (qaa (zB BK750) hb)
       replace HB:=Aside0.mk (qab (za46 HB GE730 GE731 GE737 GE743 GE749 GE750) hb)
       (try clear hb)
       (try clear hb2)
       (try clear hk)
       (try clear hi)
       refine hK.out _ _ ⟨(blk_cell BK743.out 0).trans rfl,(blk_cell BK743.out 1).trans rfl,(blk_cell BK731.out 0).trans rfl,(blk_cell BK731.out 1).trans rfl,(blk_cell BK731.out 2).trans rfl,(blk_cell BK749.out 0).trans rfl,(blk_cell BK749.out 1).trans rfl,(blk_cell BK749.out 2).trans rfl,(blk_cell BK750.out 0).trans rfl,(blk_cell BK750.out 1).trans rfl,(blk_cell BK750.out 2).trans rfl⟩ (fun hHeld=>?_)
       clear hK K
       refine norm_ (a':=?_) ?_ ?_
       rotate_left
       ·show Act.put _ (some 72) _=_
        simp only[Act.put,List.setIfInBounds_toArray,List.set_cons_zero,List.set_cons_succ,qaf,qag]
        rfl
       refine qaj (i:=17) (N:=some 76) (v:=?_) (a':=?_) #[true,true,true,true,true,true,true,true,true,true,true,true,true,true,true,true,true,true,false,false] rfl rfl (qah HT_.out (by kernel_rfl)) (fun _ _ _ h=>h) (Or.inl ⟨by rfl,?_⟩) ?_ ?_
       rotate_left
       ·intro w'
        go_simp
        with_reducible rfl
       rotate_left
       ·simp only[Act.put,List.setIfInBounds_toArray,List.set_cons_zero,List.set_cons_succ,qaf,qag]
        rfl
       refine qaj (i:=18) (N:=some 77) (v:=?_) (a':=?_) #[true,true,true,true,true,true,true,true,true,true,true,true,true,true,true,true,true,true,true,false] rfl rfl (qah HT_.out (by kernel_rfl)) (fun _ _ _ h=>h) (Or.inl ⟨by rfl,?_⟩) ?_ ?_
       rotate_left
       ·intro w'
        go_simp
        with_reducible rfl
       rotate_left
       ·simp only[Act.put,List.setIfInBounds_toArray,List.set_cons_zero,List.set_cons_succ,qaf,qag]
        rfl
       refine qaj (i:=19) (N:=some 2) (v:=?_) (a':=?_) #[true,true,true,true,true,true,true,true,true,true,true,true,true,true,true,true,true,true,true,true] rfl rfl (qah HT_.out (by kernel_rfl)) (fun _ _ _ h=>h) (Or.inl ⟨by rfl,?_⟩) ?_ ?_
       rotate_left
       ·intro w'
        go_simp
        with_reducible rfl
       rotate_left
       ·simp only[Act.put,List.setIfInBounds_toArray,List.set_cons_zero,List.set_cons_succ,qaf,qag]
        rfl
       refine done_ (done_of HT_.out (by kernel_rfl)) ?_
       try go_wp2
       go_ret
       exact⟨za16,za46 HB GE730 GE731 GE737 GE743 GE749 GE750⟩
def laws_FnStockTwice.Pure:Prop:=∀(l0:List Int),l0.length≤maxLen→l0.length*1≤140737488351232→(∀x ∈ l0,(Lit.int .u8 x).wf=true)→∃k,laws_FnStockTwice.f k l0=some true
theorem laws_FnStockTwice.walk (P:laws_FnStockTwice.Pure) (a0:Option Addr) (len0 cap0:Nat) (z0:List Int) (w:World) (w0:(a0=none∧len0=0∧cap0=0∧z0=[])∨∃x,a0=some x∧len0≤cap0∧cap0≤maxLen∧z0.length=cap0∧(∀i,i<z0.length→w.cell? (x.add i)=some (.int .u8 (z0.getD i 0)))∧∀n ∈ z0,(Lit.int .u8 n).wf=true) (y0:len0*1≤140737488351232) :
  Calls Try.prog 7 #[.slice a0 len0 cap0] w fun e w'=>e=.returned (.bool true)∧Below w.heap.size w w':=by
 obtain⟨l0,rfl,hr0,hm0,hw0,hc0⟩:=ReadsInt.ofRowC w0
 obtain⟨k,h⟩:=P l0 hm0 y0 hw0
 refine(laws_FnStockTwice.calls k _ _ l0 true w (Kd.C_of_reads (d:=(0:Int)) (h1:=fun _=>rfl) hr0) hc0 h).mono ?_
 rintro e w' ⟨rfl,hd⟩
 exact⟨rfl,hd⟩
end Go.Proofs.Ytmbdphefnalenaa.Print
