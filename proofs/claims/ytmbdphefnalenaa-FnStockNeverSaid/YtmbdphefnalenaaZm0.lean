-- Written by squeeze.py: not trusted, Lean checks it.
import Derived.Test.YtmbdphefnalenaaZK
import Derived.Test.YtmbdphefnalenaaZa0
import Derived.Test.YtmbdphefnalenaaZb4
import Derived.Test.YtmbdphefnalenaaZc6
import Derived.Test.YtmbdphefnalenaaZc8
import Derived.Test.YtmbdphefnalenaaZh0
import Derived.Test.YtmbdphefnalenaaZj2
namespace Go.Proofs.Ytmbdphefnalenaa.Print
open Go.RowKit Go.Proofs.YtmbdphefnalenaaW.PrintWords Go.Proofs.YtmbdphefnalenaaW.PrintLast Go.Proofs.YtmbdphefnalenaaW.PrintMore
attribute [local go_sem] max2_int min2_int max_two min_two max_three min_three max_four min_four
set_option linter.unusedVariables false
set_option linter.unusedSimpArgs false
def laws_FnStockNever.j0:Nat→Bool→Bool→Bool→Int→List (S49)→Int→List (S49)→Int→List (S49)→Option (Bool)
 |0,_,_,_,_,_,_,_,_,_=>none
 |k+1,x6,x8,x41,x801000,x801001,x808000,x808001,x814000,x814001=>if x41=true then(if(x8 == x6)=true then((laws_lnStock.f k x814000 x814001 x808000 x808001).bind fun t815=>(some t815)) else(some false)) else((impl_StockOk.f k x814000 x814001).bind fun t816=>(if t816=true then((impl_StockFree.f k x814000 x814001).bind fun t817=>(if t817≥0 then(some (x814000 == x801000)) else(some false))) else(some false)))
def laws_FnStockNever.f (k:Nat) (l0:List Int):Option (Bool):=if(l0.length:Int)>1048576 then(some true) else((spec_DrawStockDo.f k l0).bind fun bt791=>((spec_StockDo.f k bt791.1 bt791.2.1 bt791.2.2.1 bt791.2.2.2.1 bt791.2.2.2.2).bind fun bt802=>((impl_StockDo.f k bt791.1 bt791.2.1 bt791.2.2.1 bt791.2.2.2.1 bt791.2.2.2.2).bind fun bt808=>(if(bt808.2.2 != bt802.2.2)=true then(laws_FnStockNever.j0 k bt802.2.2 bt808.2.2 true bt791.1 bt791.2.1 bt802.1 bt802.2.1 bt808.1 bt808.2.1) else((laws_lnStock.f k bt808.1 bt808.2.1 bt802.1 bt802.2.1).bind fun t814=>(if t814=true then(laws_FnStockNever.j0 k bt802.2.2 bt808.2.2 (!bt808.2.2) bt791.1 bt791.2.1 bt802.1 bt802.2.1 bt808.1 bt808.2.1) else(laws_FnStockNever.j0 k bt802.2.2 bt808.2.2 true bt791.1 bt791.2.1 bt802.1 bt802.2.1 bt808.1 bt808.2.1)))))))
theorem laws_FnStockNever.mono_l:∀k,(∀y0 y1 y2 y3 y4 y5 y6 y7 y8,LeO (laws_FnStockNever.j0 k y0 y1 y2 y3 y4 y5 y6 y7 y8) (laws_FnStockNever.j0 (k+1) y0 y1 y2 y3 y4 y5 y6 y7 y8))
 |0=>fun _ _ _ _ _ _ _ _ _ r h=>by simp[laws_FnStockNever.j0] at h
 |k+1=>by
  have ih0:=laws_FnStockNever.mono_l k
  ·intro y0 y1 y2 y3 y4 y5 y6 y7 y8
   unfold laws_FnStockNever.j0
   repeat' first
   |(with_reducible exact ih0 _ _ _ _ _ _ _ _ _)
   |(with_reducible exact impl_StockDo.mono _ _ _ _ _ _)
   |(with_reducible exact impl_StockFree.mono _ _ _)
   |(with_reducible exact impl_StockOk.mono _ _ _)
   |(with_reducible exact laws_lnStock.mono _ _ _ _ _)
   |(with_reducible exact spec_DrawStockDo.mono _ _)
   |(with_reducible exact spec_StockDo.mono _ _ _ _ _ _)
   |(with_reducible exact LeO.refl _)
   |(with_reducible exact LeO.none _)
   |(with_reducible refine LeO.ite ?_ ?_)
   |(with_reducible refine LeO.bind ?_ (fun _=>?_))
   |exact ih0 _ _ _ _ _ _ _ _ _
   |exact impl_StockDo.mono _ _ _ _ _ _
   |exact impl_StockFree.mono _ _ _
   |exact impl_StockOk.mono _ _ _
   |exact laws_lnStock.mono _ _ _ _ _
   |exact spec_DrawStockDo.mono _ _
   |exact spec_StockDo.mono _ _ _ _ _ _
   |exact LeO.none _
   |refine LeO.ite ?_ ?_
   |refine LeO.bind ?_ (fun _=>?_)
theorem laws_FnStockNever.mono:∀a0 k,LeO (laws_FnStockNever.f k a0) (laws_FnStockNever.f (k+1) a0):=by
 intro a0 k
 have ih0:=laws_FnStockNever.mono_l k
 unfold laws_FnStockNever.f
 repeat' first
   |(with_reducible exact ih0 _ _ _ _ _ _ _ _ _)
   |(with_reducible exact impl_StockDo.mono _ _ _ _ _ _)
   |(with_reducible exact impl_StockFree.mono _ _ _)
   |(with_reducible exact impl_StockOk.mono _ _ _)
   |(with_reducible exact laws_lnStock.mono _ _ _ _ _)
   |(with_reducible exact spec_DrawStockDo.mono _ _)
   |(with_reducible exact spec_StockDo.mono _ _ _ _ _ _)
   |(with_reducible exact LeO.refl _)
   |(with_reducible exact LeO.none _)
   |(with_reducible refine LeO.ite ?_ ?_)
   |(with_reducible refine LeO.bind ?_ (fun _=>?_))
   |exact ih0 _ _ _ _ _ _ _ _ _
   |exact impl_StockDo.mono _ _ _ _ _ _
   |exact impl_StockFree.mono _ _ _
   |exact impl_StockOk.mono _ _ _
   |exact laws_lnStock.mono _ _ _ _ _
   |exact spec_DrawStockDo.mono _ _
   |exact spec_StockDo.mono _ _ _ _ _ _
   |exact LeO.none _
   |refine LeO.ite ?_ ?_
   |refine LeO.bind ?_ (fun _=>?_)
set_option maxHeartbeats 8000000 in
set_option maxRecDepth 100000 in
theorem laws_FnStockNever.calls (k:Nat) (A0:Option Addr) (c0:Nat) (l0:List Int) (r:Bool) (w:World) (hr0:Kd.C (Kd.int .u8) w A0 l0.length l0) (hc0:l0.length≤c0) (h:laws_FnStockNever.f k l0=some r) :
  Calls Try.prog 9 #[.slice A0 l0.length c0] w fun e w'=>e=.returned (.bool r)∧Below w.heap.size w w':=by
 have hu38:=Try.underlying38
 have hu32:=Try.underlying32
 have HR0:=Aside0.mk hr0
 have HC0:=Aside0.mk hc0
 clear hr0 hc0
 have HB:=Aside0.mk (Below.refl w.heap.size w)
 have H:(if(l0.length:Int)>1048576 then(some true) else((spec_DrawStockDo.f k l0).bind fun bt791=>((spec_StockDo.f k bt791.1 bt791.2.1 bt791.2.2.1 bt791.2.2.2.1 bt791.2.2.2.2).bind fun bt802=>((impl_StockDo.f k bt791.1 bt791.2.1 bt791.2.2.1 bt791.2.2.2.1 bt791.2.2.2.2).bind fun bt808=>(if(bt808.2.2 != bt802.2.2)=true then(laws_FnStockNever.j0 k bt802.2.2 bt808.2.2 true bt791.1 bt791.2.1 bt802.1 bt802.2.1 bt808.1 bt808.2.1) else((laws_lnStock.f k bt808.1 bt808.2.1 bt802.1 bt802.2.1).bind fun t814=>(if t814=true then(laws_FnStockNever.j0 k bt802.2.2 bt808.2.2 (!bt808.2.2) bt791.1 bt791.2.1 bt802.1 bt802.2.1 bt808.1 bt808.2.1) else(laws_FnStockNever.j0 k bt802.2.2 bt808.2.2 true bt791.1 bt791.2.1 bt802.1 bt802.2.1 bt808.1 bt808.2.1))))))))=some r:=h
 clear h
 by_cases c2:(l0.length:Int)>1048576
 ·rw[if_pos c2] at H
  have c2b0:decide (1048576<(l0.length:Int))=true:=decide_eq_true c2
  have c2b1:decide (1048576<l0.length)=true:=decide_eq_true (by omega)
  clear c2
  obtain rfl:=Option.some.inj H
  go_enter Try.func9,Try.ntmps9
  go_wp2
  go_ret
  exact⟨za16,za4 HB⟩
 ·rw[if_neg c2] at H
  have c2b0:decide (1048576<(l0.length:Int))=false:=decide_eq_false c2
  have c2b1:decide (1048576<l0.length)=false:=decide_eq_false (by omega)
  clear c2
  replace H:=Option.bind_eq_some_iff.mp H
  obtain⟨⟨t791,t792,t795,t796,t797⟩,A30,H⟩:=H
  replace H:((spec_StockDo.f k t791 t792 t795 t796 t797).bind fun bt802=>((impl_StockDo.f k t791 t792 t795 t796 t797).bind fun bt808=>(if(bt808.2.2 != bt802.2.2)=true then(laws_FnStockNever.j0 k bt802.2.2 bt808.2.2 true t791 t792 bt802.1 bt802.2.1 bt808.1 bt808.2.1) else((laws_lnStock.f k bt808.1 bt808.2.1 bt802.1 bt802.2.1).bind fun t814=>(if t814=true then(laws_FnStockNever.j0 k bt802.2.2 bt808.2.2 (!bt808.2.2) t791 t792 bt802.1 bt802.2.1 bt808.1 bt808.2.1) else(laws_FnStockNever.j0 k bt802.2.2 bt808.2.2 true t791 t792 bt802.1 bt802.2.1 bt808.1 bt808.2.1))))))=some r:=H
  have A3:=Aside0.mk A30
  clear A30
  replace H:=Option.bind_eq_some_iff.mp H
  obtain⟨⟨t802,t803,t806⟩,A40,H⟩:=H
  replace H:((impl_StockDo.f k t791 t792 t795 t796 t797).bind fun bt808=>(if(bt808.2.2 != t806)=true then(laws_FnStockNever.j0 k t806 bt808.2.2 true t791 t792 t802 t803 bt808.1 bt808.2.1) else((laws_lnStock.f k bt808.1 bt808.2.1 t802 t803).bind fun t814=>(if t814=true then(laws_FnStockNever.j0 k t806 bt808.2.2 (!bt808.2.2) t791 t792 t802 t803 bt808.1 bt808.2.1) else(laws_FnStockNever.j0 k t806 bt808.2.2 true t791 t792 t802 t803 bt808.1 bt808.2.1)))))=some r:=H
  have A4:=Aside0.mk A40
  clear A40
  replace H:=Option.bind_eq_some_iff.mp H
  obtain⟨⟨t808,t809,t812⟩,A50,H⟩:=H
  replace H:(if(t812 != t806)=true then(laws_FnStockNever.j0 k t806 t812 true t791 t792 t802 t803 t808 t809) else((laws_lnStock.f k t808 t809 t802 t803).bind fun t814=>(if t814=true then(laws_FnStockNever.j0 k t806 t812 (!t812) t791 t792 t802 t803 t808 t809) else(laws_FnStockNever.j0 k t806 t812 true t791 t792 t802 t803 t808 t809))))=some r:=H
  have A5:=Aside0.mk A50
  clear A50
  have HC6:=Aside0.mk H
  clear H
  go_enter Try.func9,Try.ntmps9
  go_upto_region 6 with(first|((with_reducible refine qac (f:=26) rfl ?_);refine zF (some 14) Try.func26 #[.slice A0 l0.length c0] ?_;(with_reducible refine(spec_DrawStockDo.calls k _ _ l0 t791 t792 t795 t796 t797 _ ?side1 ?side2 A3.out).mono ?_);(case side1=>repeat(first|exact HR0.out|(with_reducible refine Kd.C_alloc ?_ _)|(with_reducible refine Kd.C_drewN ?_ _)|(with_reducible refine Kd.C_drew ?_)));(case side2=>exact HC0.out);rintro e w7 ⟨v793,v798,rfl,ho0,ho1,hb⟩;refine⟨_,rfl,?_⟩;have HO794:=Aside0.mk (Kd.Q_lower (Kd.Q_mono (ok':=fun k_=>True) ho0 (fun _ hk_=>trivial)) (below_size (za4 HB)));have HO799:=Aside0.mk (Kd.V_lower (Kd.V_mono (ok':=fun k_=>some k_≠(v793:Value).ownBlock) ho1 (fun k_ hk_=>hk_.2)) (below_size (za4 HB)));replace HB:=Aside0.mk (qab (za4 HB) hb);(try clear hb);(try clear ho0);(try clear ho1))|((with_reducible refine qae (N:=3) rfl ?_);refine zX (N:=3) (cs:=#[.int .i64 0,.slice none 0 0]) (t:=38) ?_;intro gb800 hg w8 hbox hb;replace HO794:=Aside0.mk (Kd.Q_below (za10 HO794) hb);replace HO799:=Aside0.mk (Kd.V_below (Kd.V_elderB (za42 HO799) gb800 (Nat.le_of_eq hg.symm)) hb);have BK800:=Aside0.mk hbox;have GW800:=zH (w:=w) hg (za4 HB);have GE800:=GW800;replace HB:=Aside0.mk (qab (za4 HB) hb);clear hb hbox hg)|((with_reducible refine qae (N:=4) rfl ?_);refine zX (N:=4) (cs:=#[.int .i64 0,.int .i64 0,.slice none 0 0]) (t:=32) ?_;intro gb801 hg w9 hbox hb;replace HO794:=Aside0.mk (Kd.Q_below (za10 HO794) hb);replace HO799:=Aside0.mk (Kd.V_below (Kd.V_elderB (za42 HO799) gb801 (Nat.le_of_eq hg.symm)) hb);have BK801:=Aside0.mk hbox;have GW801:=zH (w:=w) hg (za1 HB GE800);have GE801:=GW801;replace HB:=Aside0.mk (qab (za1 HB GE800) hb);have NB800_801:=zL BK800 hg;have NB801_800:=zG BK800 hg;replace BK800:=Aside0.mk (qaa (zB BK800) hb);clear hb hbox hg;have hnb10:=NB800_801.out;have hnc10:=NB801_800.out;obtain⟨hcz11_0,hcz11_1,hfz11_0,hfz11_1⟩:=zC2 BK800;obtain⟨Ao12,co12,eo12,_⟩:=Kd.Q_slice HO794.out;subst eo12;obtain⟨hcz13_0,hcz13_1,hcz13_2,hfz13_0,hfz13_1,hfz13_2⟩:=zC3 BK801;obtain⟨Ao14,co14,eo14⟩:=Kd.V_slice HO799.out;subst eo14)|((with_reducible refine qac (f:=27) rfl ?_);refine zF (some 20) Try.func27 #[.agg #[.int .i64 t791,.slice Ao12 t792.length co12],.agg #[.int .i64 t795,.int .i64 t796,.slice Ao14 t797.length co14]] ?_;(with_reducible refine(spec_StockDo.calls k t791 _ _ t792 t795 t796 _ _ t797 t802 t803 t806 _ ?side1 ?side2 ?side3 ?side4 A4.out).mono ?_);(case side1=>refine(Kd.Q_reads' (e:=49) (base:=w.heap.size) (ok:=fun k_=>True) (n:=t792.length) (c:=co12) ?_).2.2;exact(by(with_reducible repeat(first|apply Kd.Q_alloc|apply Kd.Q_drewN|apply Kd.Q_drew));exact(Kd.Q_mono (Kd.Q_mono (Kd.Q_far (p:=⟨gb801,2,none⟩) (Kd.Q_far (p:=⟨gb801,1,none⟩) (Kd.Q_far (p:=⟨gb801,0,none⟩) (Kd.Q_far (p:=⟨gb800,1,none⟩) (Kd.Q_far (p:=⟨gb800,0,none⟩) (Kd.Q_types (Kd.Q_types HO794.out BK800.out (by decide)) BK801.out (by decide)) (fun _ hk=>hk.1.2) (.int .i64 t791)) (fun _ hk=>hk.1.2) (.slice Ao12 t792.length co12)) (fun _ hk=>hk.2) (.int .i64 t795)) (fun _ hk=>hk.2) (.int .i64 t796)) (fun _ hk=>hk.2) (.slice Ao14 t797.length co14)) (fun _ h_=>h_.1)) (fun _ h_=>h_.1))));(case side2=>exact(Kd.Q_reads' HO794.out).2.1);(case side3=>refine(Kd.V_reads' (e:=3) (base:=w.heap.size) (ok:=fun k_=>((some k_≠(.slice Ao12 t792.length co12:Value).ownBlock∧k_≠gb800)∧k_≠gb801)) (n:=t797.length) (c:=co14) ?_).2.2;exact(by(with_reducible repeat(first|apply Kd.V_alloc|apply Kd.V_drewN|apply Kd.V_drew));exact(Kd.V_mono (Kd.V_mono (Kd.V_far (p:=⟨gb801,2,none⟩) (Kd.V_far (p:=⟨gb801,1,none⟩) (Kd.V_far (p:=⟨gb801,0,none⟩) (Kd.V_far (p:=⟨gb800,1,none⟩) (Kd.V_far (p:=⟨gb800,0,none⟩) (Kd.V_mono (Kd.V_mono HO799.out (fun k_ hk=>(⟨hk,hk.1.2⟩:_∧k_≠gb800))) (fun k_ hk=>(⟨hk,hk.1.2⟩:_∧k_≠gb801))) (fun _ hk=>hk.1.2) (.int .i64 t791)) (fun _ hk=>hk.1.2) (.slice Ao12 t792.length co12)) (fun _ hk=>hk.2) (.int .i64 t795)) (fun _ hk=>hk.2) (.int .i64 t796)) (fun _ hk=>hk.2) (.slice Ao14 t797.length co14)) (fun _ h_=>h_.1)) (fun _ h_=>h_.1))));(case side4=>exact(Kd.V_reads' HO799.out).2.1);rintro e w15 ⟨v804,rfl,ho0,hb⟩;refine⟨_,rfl,?_⟩;replace HO799:=Aside0.mk (Kd.V_elder' (by(with_reducible repeat(first|apply Kd.V_alloc|apply Kd.V_drewN|apply Kd.V_drew));exact(Kd.V_mono (Kd.V_mono (Kd.V_far (p:=⟨gb801,2,none⟩) (Kd.V_far (p:=⟨gb801,1,none⟩) (Kd.V_far (p:=⟨gb801,0,none⟩) (Kd.V_far (p:=⟨gb800,1,none⟩) (Kd.V_far (p:=⟨gb800,0,none⟩) (Kd.V_mono (Kd.V_mono HO799.out (fun k_ hk=>(⟨hk,hk.1.2⟩:_∧k_≠gb800))) (fun k_ hk=>(⟨hk,hk.1.2⟩:_∧k_≠gb801))) (fun _ hk=>hk.1.2) (.int .i64 t791)) (fun _ hk=>hk.1.2) (.slice Ao12 t792.length co12)) (fun _ hk=>hk.2) (.int .i64 t795)) (fun _ hk=>hk.2) (.int .i64 t796)) (fun _ hk=>hk.2) (.slice Ao14 t797.length co14)) (fun _ h_=>h_.1)) (fun _ h_=>h_.1))) (Kd.R_base ho0) hb);have HO805:=Aside0.mk (Kd.R_lower (Kd.R_new' ho0 (Kd.Q_lt (by(with_reducible repeat(first|apply Kd.Q_alloc|apply Kd.Q_drewN|apply Kd.Q_drew));exact(Kd.Q_mono (Kd.Q_mono (Kd.Q_far (p:=⟨gb801,2,none⟩) (Kd.Q_far (p:=⟨gb801,1,none⟩) (Kd.Q_far (p:=⟨gb801,0,none⟩) (Kd.Q_far (p:=⟨gb800,1,none⟩) (Kd.Q_far (p:=⟨gb800,0,none⟩) (Kd.Q_types (Kd.Q_types HO794.out BK800.out (by decide)) BK801.out (by decide)) (fun _ hk=>hk.1.2) (.int .i64 t791)) (fun _ hk=>hk.1.2) (.slice Ao12 t792.length co12)) (fun _ hk=>hk.2) (.int .i64 t795)) (fun _ hk=>hk.2) (.int .i64 t796)) (fun _ hk=>hk.2) (.slice Ao14 t797.length co14)) (fun _ h_=>h_.1)) (fun _ h_=>h_.1))))) (below_size (za2 HB GE800 GE801)));replace HO794:=Aside0.mk (Kd.Q_elder' (by(with_reducible repeat(first|apply Kd.Q_alloc|apply Kd.Q_drewN|apply Kd.Q_drew));exact(Kd.Q_mono (Kd.Q_mono (Kd.Q_far (p:=⟨gb801,2,none⟩) (Kd.Q_far (p:=⟨gb801,1,none⟩) (Kd.Q_far (p:=⟨gb801,0,none⟩) (Kd.Q_far (p:=⟨gb800,1,none⟩) (Kd.Q_far (p:=⟨gb800,0,none⟩) (Kd.Q_types (Kd.Q_types HO794.out BK800.out (by decide)) BK801.out (by decide)) (fun _ hk=>hk.1.2) (.int .i64 t791)) (fun _ hk=>hk.1.2) (.slice Ao12 t792.length co12)) (fun _ hk=>hk.2) (.int .i64 t795)) (fun _ hk=>hk.2) (.int .i64 t796)) (fun _ hk=>hk.2) (.slice Ao14 t797.length co14)) (fun _ h_=>h_.1)) (fun _ h_=>h_.1))) (Kd.R_base ho0) hb);replace BK800:=Aside0.mk (qaa (g:=gb800) (o:=.cells #[.int .i64 t791,.slice Ao12 t792.length co12] 38 (0,0)) (by(with_reducible repeat(first|refine blk_drewN ?_ _|refine blk_drew ?_|refine blk_alloc ?_ _));refine blk_far ?_ NB800_801.out _;(with_reducible repeat(first|refine blk_drewN ?_ _|refine blk_drew ?_|refine blk_alloc ?_ _));refine blk_far ?_ NB800_801.out _;(with_reducible repeat(first|refine blk_drewN ?_ _|refine blk_drew ?_|refine blk_alloc ?_ _));refine blk_far ?_ NB800_801.out _;(with_reducible repeat(first|refine blk_drewN ?_ _|refine blk_drew ?_|refine blk_alloc ?_ _));refine qad (cs:=#[.int .i64 t791,.slice none 0 0]) ?_ 1 _ rfl;(with_reducible repeat(first|refine blk_drewN ?_ _|refine blk_drew ?_|refine blk_alloc ?_ _));refine qad (cs:=#[.int .i64 0,.slice none 0 0]) ?_ 0 _ rfl;(with_reducible repeat(first|refine blk_drewN ?_ _|refine blk_drew ?_|refine blk_alloc ?_ _));exact BK800.out) hb);replace BK801:=Aside0.mk (qaa (g:=gb801) (o:=.cells #[.int .i64 t795,.int .i64 t796,.slice Ao14 t797.length co14] 32 (0,0)) (by(with_reducible repeat(first|refine blk_drewN ?_ _|refine blk_drew ?_|refine blk_alloc ?_ _));refine qad (cs:=#[.int .i64 t795,.int .i64 t796,.slice none 0 0]) ?_ 2 _ rfl;(with_reducible repeat(first|refine blk_drewN ?_ _|refine blk_drew ?_|refine blk_alloc ?_ _));refine qad (cs:=#[.int .i64 t795,.int .i64 0,.slice none 0 0]) ?_ 1 _ rfl;(with_reducible repeat(first|refine blk_drewN ?_ _|refine blk_drew ?_|refine blk_alloc ?_ _));refine qad (cs:=#[.int .i64 0,.int .i64 0,.slice none 0 0]) ?_ 0 _ rfl;(with_reducible repeat(first|refine blk_drewN ?_ _|refine blk_drew ?_|refine blk_alloc ?_ _));refine blk_far ?_ NB801_800.out _;(with_reducible repeat(first|refine blk_drewN ?_ _|refine blk_drew ?_|refine blk_alloc ?_ _));refine blk_far ?_ NB801_800.out _;(with_reducible repeat(first|refine blk_drewN ?_ _|refine blk_drew ?_|refine blk_alloc ?_ _));exact BK801.out) hb);replace HB:=Aside0.mk (qab (za2 HB GE800 GE801) hb);(try clear hb);(try clear ho0))|((with_reducible refine qae (N:=5) rfl ?_);refine zX (N:=5) (cs:=#[.int .i64 0,.slice none 0 0]) (t:=38) ?_;intro gb807 hg w16 hbox hb;replace HO794:=Aside0.mk (Kd.Q_below (za10 HO794) hb);replace HO799:=Aside0.mk (Kd.V_below (Kd.V_elderB (za42 HO799) gb807 (Nat.le_of_eq hg.symm)) hb);replace HO805:=Aside0.mk (Kd.R_below (za5 HO805) hb);have BK807:=Aside0.mk hbox;have GW807:=zH (w:=w) hg (za2 HB GE800 GE801);have GE807:=GW807;replace HB:=Aside0.mk (qab (za2 HB GE800 GE801) hb);have NB800_807:=zL BK800 hg;have NB807_800:=zG BK800 hg;replace BK800:=Aside0.mk (qaa (zB BK800) hb);have NB801_807:=zL BK801 hg;have NB807_801:=zG BK801 hg;replace BK801:=Aside0.mk (qaa (zB BK801) hb);clear hb hbox hg;have hnb17:=NB807_800.out;have hnc17:=NB800_807.out;have hnb18:=NB807_801.out;have hnc18:=NB801_807.out;obtain⟨hcz19_0,hcz19_1,hfz19_0,hfz19_1⟩:=zC2 BK807;obtain⟨Ao20,co20,eo20⟩:=Kd.R_slice HO805.out;subst eo20;obtain⟨hcz21_0,hcz21_1,hfz21_0,hfz21_1⟩:=zC2 BK800;obtain⟨hcz22_0,hcz22_1,hcz22_2,hfz22_0,hfz22_1,hfz22_2⟩:=zC3 BK801)|((with_reducible refine qac (f:=24) rfl ?_);refine zF (some 26) Try.func24 #[.agg #[.int .i64 t791,.slice Ao12 t792.length co12],.agg #[.int .i64 t795,.int .i64 t796,.slice Ao14 t797.length co14]] ?_;(with_reducible refine(impl_StockDo.calls k t791 _ _ t792 t795 t796 _ _ t797 t808 t809 t812 _ ?side1 ?side2 ?side3 ?side4 A5.out).mono ?_);(case side1=>refine(Kd.Q_reads' (e:=49) (base:=w.heap.size) (ok:=fun k_=>(True∧some k_≠(.slice Ao20 t803.length co20:Value).ownBlock)) (n:=t792.length) (c:=co12) ?_).2.2;exact(by(with_reducible repeat(first|apply Kd.Q_alloc|apply Kd.Q_drewN|apply Kd.Q_drew));exact(Kd.Q_mono (Kd.Q_far (p:=⟨gb807,1,none⟩) (Kd.Q_far (p:=⟨gb807,0,none⟩) (Kd.Q_types HO794.out BK807.out (by decide)) (fun _ hk=>hk.2) (.int .i64 t802)) (fun _ hk=>hk.2) (.slice Ao20 t803.length co20)) (fun _ h_=>h_.1))));(case side2=>exact(Kd.Q_reads' HO794.out).2.1);(case side3=>refine(Kd.V_reads' (e:=3) (base:=w.heap.size) (ok:=fun k_=>((((some k_≠(.slice Ao12 t792.length co12:Value).ownBlock∧k_≠gb800)∧k_≠gb801)∧some k_≠(.slice Ao20 t803.length co20:Value).ownBlock)∧k_≠gb807)) (n:=t797.length) (c:=co14) ?_).2.2;exact(by(with_reducible repeat(first|apply Kd.V_alloc|apply Kd.V_drewN|apply Kd.V_drew));exact(Kd.V_mono (Kd.V_far (p:=⟨gb807,1,none⟩) (Kd.V_far (p:=⟨gb807,0,none⟩) (Kd.V_mono HO799.out (fun k_ hk=>(⟨hk,hk.2⟩:_∧k_≠gb807))) (fun _ hk=>hk.2) (.int .i64 t802)) (fun _ hk=>hk.2) (.slice Ao20 t803.length co20)) (fun _ h_=>h_.1))));(case side4=>exact(Kd.V_reads' HO799.out).2.1);rintro e w23 ⟨v810,rfl,ho0,hb⟩;refine⟨_,rfl,?_⟩;replace HO799:=Aside0.mk (Kd.V_elder' (by(with_reducible repeat(first|apply Kd.V_alloc|apply Kd.V_drewN|apply Kd.V_drew));exact(Kd.V_mono (Kd.V_far (p:=⟨gb807,1,none⟩) (Kd.V_far (p:=⟨gb807,0,none⟩) (Kd.V_mono HO799.out (fun k_ hk=>(⟨hk,hk.2⟩:_∧k_≠gb807))) (fun _ hk=>hk.2) (.int .i64 t802)) (fun _ hk=>hk.2) (.slice Ao20 t803.length co20)) (fun _ h_=>h_.1))) (Kd.R_base ho0) hb);have HO811:=Aside0.mk (Kd.R_lower (Kd.R_new' (Kd.R_new' ho0 (Kd.Q_lt (by(with_reducible repeat(first|apply Kd.Q_alloc|apply Kd.Q_drewN|apply Kd.Q_drew));exact(Kd.Q_mono (Kd.Q_far (p:=⟨gb807,1,none⟩) (Kd.Q_far (p:=⟨gb807,0,none⟩) (Kd.Q_types HO794.out BK807.out (by decide)) (fun _ hk=>hk.2) (.int .i64 t802)) (fun _ hk=>hk.2) (.slice Ao20 t803.length co20)) (fun _ h_=>h_.1))))) (Kd.R_lt (by(with_reducible repeat(first|apply Kd.R_alloc|apply Kd.R_drewN|apply Kd.R_drew));exact(Kd.R_mono (Kd.R_far (p:=⟨gb807,1,none⟩) (Kd.R_far (p:=⟨gb807,0,none⟩) (Kd.R_types HO805.out BK807.out (by decide)) (fun _ hk=>hk.2) (.int .i64 t802)) (fun _ hk=>hk.2) (.slice Ao20 t803.length co20)) (fun _ h_=>h_.1))))) (below_size (za6 HB GE800 GE801 GE807)));replace HO794:=Aside0.mk (Kd.Q_elder' (by(with_reducible repeat(first|apply Kd.Q_alloc|apply Kd.Q_drewN|apply Kd.Q_drew));exact(Kd.Q_mono (Kd.Q_far (p:=⟨gb807,1,none⟩) (Kd.Q_far (p:=⟨gb807,0,none⟩) (Kd.Q_types HO794.out BK807.out (by decide)) (fun _ hk=>hk.2) (.int .i64 t802)) (fun _ hk=>hk.2) (.slice Ao20 t803.length co20)) (fun _ h_=>h_.1))) (Kd.R_base ho0) hb);replace HO805:=Aside0.mk (Kd.R_elder' (by(with_reducible repeat(first|apply Kd.R_alloc|apply Kd.R_drewN|apply Kd.R_drew));exact(Kd.R_mono (Kd.R_far (p:=⟨gb807,1,none⟩) (Kd.R_far (p:=⟨gb807,0,none⟩) (Kd.R_types HO805.out BK807.out (by decide)) (fun _ hk=>hk.2) (.int .i64 t802)) (fun _ hk=>hk.2) (.slice Ao20 t803.length co20)) (fun _ h_=>h_.1))) (Kd.R_base ho0) hb);replace BK800:=Aside0.mk (qaa (g:=gb800) (o:=.cells #[.int .i64 t791,.slice Ao12 t792.length co12] 38 (0,0)) (za0 NB800_807 BK800) hb);replace BK801:=Aside0.mk (qaa (g:=gb801) (o:=.cells #[.int .i64 t795,.int .i64 t796,.slice Ao14 t797.length co14] 32 (0,0)) (za0 NB801_807 BK801) hb);replace BK807:=Aside0.mk (qaa (g:=gb807) (o:=.cells #[.int .i64 t802,.slice Ao20 t803.length co20] 38 (0,0)) (by(with_reducible repeat(first|refine blk_drewN ?_ _|refine blk_drew ?_|refine blk_alloc ?_ _));refine qad (cs:=#[.int .i64 t802,.slice none 0 0]) ?_ 1 _ rfl;(with_reducible repeat(first|refine blk_drewN ?_ _|refine blk_drew ?_|refine blk_alloc ?_ _));refine qad (cs:=#[.int .i64 0,.slice none 0 0]) ?_ 0 _ rfl;(with_reducible repeat(first|refine blk_drewN ?_ _|refine blk_drew ?_|refine blk_alloc ?_ _));exact BK807.out) hb);replace HB:=Aside0.mk (qab (za6 HB GE800 GE801 GE807) hb);(try clear hb);(try clear ho0))|((with_reducible refine qae (N:=7) rfl ?_);refine zX (N:=7) (cs:=#[.int .i64 0,.slice none 0 0]) (t:=38) ?_;intro gb813 hg w24 hbox hb;replace HO794:=Aside0.mk (Kd.Q_below (za10 HO794) hb);replace HO799:=Aside0.mk (Kd.V_below (Kd.V_elderB (za42 HO799) gb813 (Nat.le_of_eq hg.symm)) hb);replace HO805:=Aside0.mk (Kd.R_below (za5 HO805) hb);replace HO811:=Aside0.mk (Kd.R_below (za5 HO811) hb);have BK813:=Aside0.mk hbox;have GW813:=zH (w:=w) hg (za6 HB GE800 GE801 GE807);have GE813:=GW813;replace HB:=Aside0.mk (qab (za6 HB GE800 GE801 GE807) hb);have NB800_813:=zL BK800 hg;have NB813_800:=zG BK800 hg;replace BK800:=Aside0.mk (qaa (zB BK800) hb);have NB801_813:=zL BK801 hg;have NB813_801:=zG BK801 hg;replace BK801:=Aside0.mk (qaa (zB BK801) hb);have NB807_813:=zL BK807 hg;have NB813_807:=zG BK807 hg;replace BK807:=Aside0.mk (qaa (zB BK807) hb);clear hb hbox hg;have hnb25:=NB813_800.out;have hnc25:=NB800_813.out;have hnb26:=NB813_801.out;have hnc26:=NB801_813.out;have hnb27:=NB813_807.out;have hnc27:=NB807_813.out;obtain⟨hcz28_0,hcz28_1,hfz28_0,hfz28_1⟩:=zC2 BK813;obtain⟨Ao29,co29,eo29⟩:=Kd.R_slice HO811.out;subst eo29))
  (try simp only[Act.put,List.setIfInBounds_toArray,List.set_cons_zero,List.set_cons_succ])
  go_cut [41] (fun v41 wc=>∃(kq:Nat) (x41_5:Bool),v41=.bool x41_5∧Aside0 (laws_FnStockNever.j0 kq t806 t812 x41_5 t791 t792 t802 t803 t808 t809=some r)∧Aside0 (kq≤k)∧Aside0 (Kd.Q k49 49 wc w.heap.size (fun k_=>some k_≠((.slice Ao20 t803.length co20):Value).ownBlock∧some k_≠((.slice Ao29 t809.length co29):Value).ownBlock) (.slice Ao12 t792.length co12) t792)∧Aside0 (Kd.V (Kd.int .i64) 3 wc w.heap.size (fun k_=>some k_≠((.slice Ao12 t792.length co12):Value).ownBlock∧some k_≠((.slice Ao20 t803.length co20):Value).ownBlock∧some k_≠((.slice Ao29 t809.length co29):Value).ownBlock∧k_≠gb800∧k_≠gb801∧k_≠gb807∧k_≠gb813) (.slice Ao14 t797.length co14) t797)∧Aside0 (Kd.Q k49 49 wc w.heap.size (fun k_=>some k_≠((.slice Ao12 t792.length co12):Value).ownBlock∧some k_≠((.slice Ao29 t809.length co29):Value).ownBlock) (.slice Ao20 t803.length co20) t803)∧Aside0 (Kd.Q k49 49 wc w.heap.size (fun k_=>some k_≠((.slice Ao12 t792.length co12):Value).ownBlock∧some k_≠((.slice Ao20 t803.length co20):Value).ownBlock) (.slice Ao29 t809.length co29) t809)∧Aside0 (wc.heap[gb800]?=some (.cells #[.int .i64 t791,(.slice Ao12 t792.length co12)] 38 (0,0)))∧Aside0 (wc.heap[gb801]?=some (.cells #[.int .i64 t795,.int .i64 t796,(.slice Ao14 t797.length co14)] 32 (0,0)))∧Aside0 (wc.heap[gb807]?=some (.cells #[.int .i64 t802,(.slice Ao20 t803.length co20)] 38 (0,0)))∧Aside0 (wc.heap[gb813]?=some (.cells #[.int .i64 t808,(.slice Ao29 t809.length co29)] 38 (0,0)))∧Aside0 (Below w.heap.size w wc))
  case first=>
   have H:=HC6.out
   clear HC6
   by_cases c30:(t812 != t806)=true
   ·rw[if_pos c30] at H
    have c30b0:(t812 != t806)=true:=c30
    (try(have c30b1:decide (t812=t806)=false:=by simpa using c30))
    (try(have c30b2:(t812 == t806)=false:=by simpa using c30))
    (try(have c30b3:¬(t812=t806):=by simpa using c30))
    clear c30
    (first|rw[c30b0]|(simp only[qaf,qag];rw[c30b0])|skip)
    have H':=Aside0.mk H
    clear H
    go_wp2
    go_meet
    case rel=>exact⟨_,(true),(za43),H',⟨za57⟩,⟨by(with_reducible repeat(first|apply Kd.Q_alloc|apply Kd.Q_drewN|apply Kd.Q_drew));exact Kd.Q_mono (Kd.Q_far (p:=⟨gb813,1,none⟩) (Kd.Q_far (p:=⟨gb813,0,none⟩) (Kd.Q_types HO794.out BK813.out (by decide)) (fun _ hk=>hk.2) (.int .i64 t808)) (fun _ hk=>hk.2) (.slice Ao29 t809.length co29)) (fun _ hk=>⟨hk.1.1.2,hk.1.2⟩)⟩,⟨by(with_reducible repeat(first|apply Kd.V_alloc|apply Kd.V_drewN|apply Kd.V_drew));exact Kd.V_mono (Kd.V_far (p:=⟨gb813,1,none⟩) (Kd.V_far (p:=⟨gb813,0,none⟩) (Kd.V_mono HO799.out (fun k_ hk=>(⟨hk,hk.2⟩:_∧k_≠gb813))) (fun _ hk=>hk.2) (.int .i64 t808)) (fun _ hk=>hk.2) (.slice Ao29 t809.length co29)) (fun _ hk=>⟨hk.1.1.1.1.1.1.1,⟨hk.1.1.1.1.2,⟨hk.1.1.2,⟨hk.1.1.1.1.1.1.2,⟨hk.1.1.1.1.1.2,⟨hk.1.1.1.2,hk.1.2⟩⟩⟩⟩⟩⟩)⟩,⟨Kd.Q_of_R (by(with_reducible repeat(first|apply Kd.R_alloc|apply Kd.R_drewN|apply Kd.R_drew));exact Kd.R_mono (Kd.R_far (p:=⟨gb813,1,none⟩) (Kd.R_far (p:=⟨gb813,0,none⟩) (Kd.R_types HO805.out BK813.out (by decide)) (fun _ hk=>hk.2) (.int .i64 t808)) (fun _ hk=>hk.2) (.slice Ao29 t809.length co29)) (fun _ hk=>⟨hk.1.1.2,hk.1.2⟩))⟩,⟨Kd.Q_of_R (by(with_reducible repeat(first|apply Kd.R_alloc|apply Kd.R_drewN|apply Kd.R_drew));exact Kd.R_mono (Kd.R_far (p:=⟨gb813,1,none⟩) (Kd.R_far (p:=⟨gb813,0,none⟩) (Kd.R_types HO811.out BK813.out (by decide)) (fun _ hk=>hk.2) (.int .i64 t808)) (fun _ hk=>hk.2) (.slice Ao29 t809.length co29)) (fun _ hk=>⟨hk.1.1.2,hk.1.2⟩))⟩,⟨za0 NB800_813 BK800⟩,⟨za0 NB801_813 BK801⟩,⟨za0 NB807_813 BK807⟩,⟨by(with_reducible repeat(first|refine blk_drewN ?_ _|refine blk_drew ?_|refine blk_alloc ?_ _));refine qad (cs:=#[.int .i64 t808,.slice none 0 0]) ?_ 1 _ rfl;(with_reducible repeat(first|refine blk_drewN ?_ _|refine blk_drew ?_|refine blk_alloc ?_ _));refine qad (cs:=#[.int .i64 0,.slice none 0 0]) ?_ 0 _ rfl;(with_reducible repeat(first|refine blk_drewN ?_ _|refine blk_drew ?_|refine blk_alloc ?_ _));exact BK813.out⟩,⟨za7 HB GE800 GE801 GE807 GE813⟩⟩
   ·rw[if_neg c30] at H
    have c30b0:(t812 != t806)=false:=by simpa using c30
    (try(have c30b1:decide (t812=t806)=true:=by simpa using c30))
    (try(have c30b2:(t812 == t806)=true:=by simpa using c30))
    clear c30
    (first|rw[c30b0]|(simp only[qaf,qag];rw[c30b0])|skip)
    replace H:=Option.bind_eq_some_iff.mp H
    obtain⟨t814,A310,H⟩:=H
    replace H:(if t814=true then(laws_FnStockNever.j0 k t806 t812 (!t812) t791 t792 t802 t803 t808 t809) else(laws_FnStockNever.j0 k t806 t812 true t791 t792 t802 t803 t808 t809))=some r:=H
    have A31:=Aside0.mk A310
    clear A310
    by_cases c32:t814=true
    ·subst c32
     have H1:(laws_FnStockNever.j0 k t806 t812 (!t812) t791 t792 t802 t803 t808 t809)=some r:=by rw[if_pos rfl] at H;exact H
     clear H
     have H:=H1
     clear H1
     have H':=Aside0.mk H
     clear H
     have hnb33:=NB813_800.out
     have hnc33:=NB800_813.out
     have hnb34:=NB813_801.out
     have hnc34:=NB801_813.out
     have hnb35:=NB813_807.out
     have hnc35:=NB807_813.out
     obtain⟨hcz36_0,hcz36_1,hfz36_0,hfz36_1⟩:=zC2 BK813
     have hnb37:=NB807_800.out
     have hnc37:=NB800_807.out
     have hnb38:=NB807_801.out
     have hnc38:=NB801_807.out
     obtain⟨hcz39_0,hcz39_1,hfz39_0,hfz39_1⟩:=zC2 BK807
     go_wp2_with(first|(go_at_call 23;(with_reducible refine(laws_lnStock.calls k t808 _ _ t809 t802 _ _ t803 true _ ?side1 ?side2 ?side3 ?side4 A31.out).mono ?_);(case side1=>refine(Kd.R_reads' (e:=49) (base:=w.heap.size) (ok:=fun k_=>((True∧some k_≠(.slice Ao12 t792.length co12:Value).ownBlock)∧some k_≠(.slice Ao20 t803.length co20:Value).ownBlock)) (n:=t809.length) (c:=co29) ?_).2.2;exact(by(with_reducible repeat(first|apply Kd.R_alloc|apply Kd.R_drewN|apply Kd.R_drew));exact(Kd.R_mono (Kd.R_far (p:=⟨gb813,1,none⟩) (Kd.R_far (p:=⟨gb813,0,none⟩) (Kd.R_types HO811.out BK813.out (by decide)) (fun _ hk=>hk.2) (.int .i64 t808)) (fun _ hk=>hk.2) (.slice Ao29 t809.length co29)) (fun _ h_=>h_.1))));(case side2=>exact(Kd.R_reads' HO811.out).2.1);(case side3=>refine(Kd.R_reads' (e:=49) (base:=w.heap.size) (ok:=fun k_=>((True∧some k_≠(.slice Ao12 t792.length co12:Value).ownBlock)∧some k_≠(.slice Ao29 t809.length co29:Value).ownBlock)) (n:=t803.length) (c:=co20) ?_).2.2;exact(by(with_reducible repeat(first|apply Kd.R_alloc|apply Kd.R_drewN|apply Kd.R_drew));exact(Kd.R_mono (Kd.R_far (p:=⟨gb813,1,none⟩) (Kd.R_far (p:=⟨gb813,0,none⟩) (Kd.R_types HO805.out BK813.out (by decide)) (fun _ hk=>hk.2) (.int .i64 t808)) (fun _ hk=>hk.2) (.slice Ao29 t809.length co29)) (fun _ h_=>h_.1))));(case side4=>exact(Kd.R_reads' HO805.out).2.1);rintro e w40 ⟨rfl,hb⟩;replace HO794:=Aside0.mk (Kd.Q_below (by(with_reducible repeat(first|apply Kd.Q_alloc|apply Kd.Q_drewN|apply Kd.Q_drew));exact(Kd.Q_mono (Kd.Q_far (p:=⟨gb813,1,none⟩) (Kd.Q_far (p:=⟨gb813,0,none⟩) (Kd.Q_types HO794.out BK813.out (by decide)) (fun _ hk=>hk.2) (.int .i64 t808)) (fun _ hk=>hk.2) (.slice Ao29 t809.length co29)) (fun _ h_=>h_.1))) hb);replace HO799:=Aside0.mk (Kd.V_below (by(with_reducible repeat(first|apply Kd.V_alloc|apply Kd.V_drewN|apply Kd.V_drew));exact(Kd.V_mono (Kd.V_far (p:=⟨gb813,1,none⟩) (Kd.V_far (p:=⟨gb813,0,none⟩) (Kd.V_mono HO799.out (fun k_ hk=>(⟨hk,hk.2⟩:_∧k_≠gb813))) (fun _ hk=>hk.2) (.int .i64 t808)) (fun _ hk=>hk.2) (.slice Ao29 t809.length co29)) (fun _ h_=>h_.1))) hb);replace HO805:=Aside0.mk (Kd.R_below (by(with_reducible repeat(first|apply Kd.R_alloc|apply Kd.R_drewN|apply Kd.R_drew));exact(Kd.R_mono (Kd.R_far (p:=⟨gb813,1,none⟩) (Kd.R_far (p:=⟨gb813,0,none⟩) (Kd.R_types HO805.out BK813.out (by decide)) (fun _ hk=>hk.2) (.int .i64 t808)) (fun _ hk=>hk.2) (.slice Ao29 t809.length co29)) (fun _ h_=>h_.1))) hb);replace HO811:=Aside0.mk (Kd.R_below (by(with_reducible repeat(first|apply Kd.R_alloc|apply Kd.R_drewN|apply Kd.R_drew));exact(Kd.R_mono (Kd.R_far (p:=⟨gb813,1,none⟩) (Kd.R_far (p:=⟨gb813,0,none⟩) (Kd.R_types HO811.out BK813.out (by decide)) (fun _ hk=>hk.2) (.int .i64 t808)) (fun _ hk=>hk.2) (.slice Ao29 t809.length co29)) (fun _ h_=>h_.1))) hb);replace BK800:=Aside0.mk (qaa (g:=gb800) (o:=.cells #[.int .i64 t791,.slice Ao12 t792.length co12] 38 (0,0)) (za0 NB800_813 BK800) hb);replace BK801:=Aside0.mk (qaa (g:=gb801) (o:=.cells #[.int .i64 t795,.int .i64 t796,.slice Ao14 t797.length co14] 32 (0,0)) (za0 NB801_813 BK801) hb);replace BK807:=Aside0.mk (qaa (g:=gb807) (o:=.cells #[.int .i64 t802,.slice Ao20 t803.length co20] 38 (0,0)) (za0 NB807_813 BK807) hb);replace BK813:=Aside0.mk (qaa (g:=gb813) (o:=.cells #[.int .i64 t808,.slice Ao29 t809.length co29] 38 (0,0)) (by(with_reducible repeat(first|refine blk_drewN ?_ _|refine blk_drew ?_|refine blk_alloc ?_ _));refine qad (cs:=#[.int .i64 t808,.slice none 0 0]) ?_ 1 _ rfl;(with_reducible repeat(first|refine blk_drewN ?_ _|refine blk_drew ?_|refine blk_alloc ?_ _));refine qad (cs:=#[.int .i64 0,.slice none 0 0]) ?_ 0 _ rfl;(with_reducible repeat(first|refine blk_drewN ?_ _|refine blk_drew ?_|refine blk_alloc ?_ _));exact BK813.out) hb);replace HB:=Aside0.mk (qab (za7 HB GE800 GE801 GE807 GE813) hb);(try clear hb)))
     go_meet
     case rel=>exact⟨_,(!t812),(za43),H',⟨za57⟩,⟨by(with_reducible repeat(first|apply Kd.Q_alloc|apply Kd.Q_drewN|apply Kd.Q_drew));exact Kd.Q_mono HO794.out (fun _ hk=>⟨hk.1.2,hk.2⟩)⟩,⟨by(with_reducible repeat(first|apply Kd.V_alloc|apply Kd.V_drewN|apply Kd.V_drew));exact Kd.V_mono HO799.out (fun _ hk=>⟨hk.1.1.1.1.1.1,⟨hk.1.1.1.2,⟨hk.1.2,⟨hk.1.1.1.1.1.2,⟨hk.1.1.1.1.2,⟨hk.1.1.2,hk.2⟩⟩⟩⟩⟩⟩)⟩,⟨Kd.Q_of_R (by(with_reducible repeat(first|apply Kd.R_alloc|apply Kd.R_drewN|apply Kd.R_drew));exact Kd.R_mono HO805.out (fun _ hk=>⟨hk.1.2,hk.2⟩))⟩,⟨Kd.Q_of_R (by(with_reducible repeat(first|apply Kd.R_alloc|apply Kd.R_drewN|apply Kd.R_drew));exact Kd.R_mono HO811.out (fun _ hk=>⟨hk.1.2,hk.2⟩))⟩,⟨za24 BK800⟩,⟨za24 BK801⟩,⟨za24 BK807⟩,⟨za24 BK813⟩,⟨za7 HB GE800 GE801 GE807 GE813⟩⟩
    ·replace c32:=Bool.eq_false_iff.mpr c32
     subst c32
     have H1:(laws_FnStockNever.j0 k t806 t812 true t791 t792 t802 t803 t808 t809)=some r:=by rw[if_neg (show ¬(false=true) by decide)] at H;exact H
     clear H
     have H:=H1
     clear H1
     have H':=Aside0.mk H
     clear H
     have hnb41:=NB813_800.out
     have hnc41:=NB800_813.out
     have hnb42:=NB813_801.out
     have hnc42:=NB801_813.out
     have hnb43:=NB813_807.out
     have hnc43:=NB807_813.out
     obtain⟨hcz44_0,hcz44_1,hfz44_0,hfz44_1⟩:=zC2 BK813
     have hnb45:=NB807_800.out
     have hnc45:=NB800_807.out
     have hnb46:=NB807_801.out
     have hnc46:=NB801_807.out
     obtain⟨hcz47_0,hcz47_1,hfz47_0,hfz47_1⟩:=zC2 BK807
     go_wp2_with(first|(go_at_call 23;(with_reducible refine(laws_lnStock.calls k t808 _ _ t809 t802 _ _ t803 false _ ?side1 ?side2 ?side3 ?side4 A31.out).mono ?_);(case side1=>refine(Kd.R_reads' (e:=49) (base:=w.heap.size) (ok:=fun k_=>((True∧some k_≠(.slice Ao12 t792.length co12:Value).ownBlock)∧some k_≠(.slice Ao20 t803.length co20:Value).ownBlock)) (n:=t809.length) (c:=co29) ?_).2.2;exact(by(with_reducible repeat(first|apply Kd.R_alloc|apply Kd.R_drewN|apply Kd.R_drew));exact(Kd.R_mono (Kd.R_far (p:=⟨gb813,1,none⟩) (Kd.R_far (p:=⟨gb813,0,none⟩) (Kd.R_types HO811.out BK813.out (by decide)) (fun _ hk=>hk.2) (.int .i64 t808)) (fun _ hk=>hk.2) (.slice Ao29 t809.length co29)) (fun _ h_=>h_.1))));(case side2=>exact(Kd.R_reads' HO811.out).2.1);(case side3=>refine(Kd.R_reads' (e:=49) (base:=w.heap.size) (ok:=fun k_=>((True∧some k_≠(.slice Ao12 t792.length co12:Value).ownBlock)∧some k_≠(.slice Ao29 t809.length co29:Value).ownBlock)) (n:=t803.length) (c:=co20) ?_).2.2;exact(by(with_reducible repeat(first|apply Kd.R_alloc|apply Kd.R_drewN|apply Kd.R_drew));exact(Kd.R_mono (Kd.R_far (p:=⟨gb813,1,none⟩) (Kd.R_far (p:=⟨gb813,0,none⟩) (Kd.R_types HO805.out BK813.out (by decide)) (fun _ hk=>hk.2) (.int .i64 t808)) (fun _ hk=>hk.2) (.slice Ao29 t809.length co29)) (fun _ h_=>h_.1))));(case side4=>exact(Kd.R_reads' HO805.out).2.1);rintro e w48 ⟨rfl,hb⟩;replace HO794:=Aside0.mk (Kd.Q_below (by(with_reducible repeat(first|apply Kd.Q_alloc|apply Kd.Q_drewN|apply Kd.Q_drew));exact(Kd.Q_mono (Kd.Q_far (p:=⟨gb813,1,none⟩) (Kd.Q_far (p:=⟨gb813,0,none⟩) (Kd.Q_types HO794.out BK813.out (by decide)) (fun _ hk=>hk.2) (.int .i64 t808)) (fun _ hk=>hk.2) (.slice Ao29 t809.length co29)) (fun _ h_=>h_.1))) hb);replace HO799:=Aside0.mk (Kd.V_below (by(with_reducible repeat(first|apply Kd.V_alloc|apply Kd.V_drewN|apply Kd.V_drew));exact(Kd.V_mono (Kd.V_far (p:=⟨gb813,1,none⟩) (Kd.V_far (p:=⟨gb813,0,none⟩) (Kd.V_mono HO799.out (fun k_ hk=>(⟨hk,hk.2⟩:_∧k_≠gb813))) (fun _ hk=>hk.2) (.int .i64 t808)) (fun _ hk=>hk.2) (.slice Ao29 t809.length co29)) (fun _ h_=>h_.1))) hb);replace HO805:=Aside0.mk (Kd.R_below (by(with_reducible repeat(first|apply Kd.R_alloc|apply Kd.R_drewN|apply Kd.R_drew));exact(Kd.R_mono (Kd.R_far (p:=⟨gb813,1,none⟩) (Kd.R_far (p:=⟨gb813,0,none⟩) (Kd.R_types HO805.out BK813.out (by decide)) (fun _ hk=>hk.2) (.int .i64 t808)) (fun _ hk=>hk.2) (.slice Ao29 t809.length co29)) (fun _ h_=>h_.1))) hb);replace HO811:=Aside0.mk (Kd.R_below (by(with_reducible repeat(first|apply Kd.R_alloc|apply Kd.R_drewN|apply Kd.R_drew));exact(Kd.R_mono (Kd.R_far (p:=⟨gb813,1,none⟩) (Kd.R_far (p:=⟨gb813,0,none⟩) (Kd.R_types HO811.out BK813.out (by decide)) (fun _ hk=>hk.2) (.int .i64 t808)) (fun _ hk=>hk.2) (.slice Ao29 t809.length co29)) (fun _ h_=>h_.1))) hb);replace BK800:=Aside0.mk (qaa (g:=gb800) (o:=.cells #[.int .i64 t791,.slice Ao12 t792.length co12] 38 (0,0)) (za0 NB800_813 BK800) hb);replace BK801:=Aside0.mk (qaa (g:=gb801) (o:=.cells #[.int .i64 t795,.int .i64 t796,.slice Ao14 t797.length co14] 32 (0,0)) (za0 NB801_813 BK801) hb);replace BK807:=Aside0.mk (qaa (g:=gb807) (o:=.cells #[.int .i64 t802,.slice Ao20 t803.length co20] 38 (0,0)) (za0 NB807_813 BK807) hb);replace BK813:=Aside0.mk (qaa (g:=gb813) (o:=.cells #[.int .i64 t808,.slice Ao29 t809.length co29] 38 (0,0)) (by(with_reducible repeat(first|refine blk_drewN ?_ _|refine blk_drew ?_|refine blk_alloc ?_ _));refine qad (cs:=#[.int .i64 t808,.slice none 0 0]) ?_ 1 _ rfl;(with_reducible repeat(first|refine blk_drewN ?_ _|refine blk_drew ?_|refine blk_alloc ?_ _));refine qad (cs:=#[.int .i64 0,.slice none 0 0]) ?_ 0 _ rfl;(with_reducible repeat(first|refine blk_drewN ?_ _|refine blk_drew ?_|refine blk_alloc ?_ _));exact BK813.out) hb);replace HB:=Aside0.mk (qab (za7 HB GE800 GE801 GE807 GE813) hb);(try clear hb)))
     go_meet
     case rel=>exact⟨_,(true),(za43),H',⟨za57⟩,⟨by(with_reducible repeat(first|apply Kd.Q_alloc|apply Kd.Q_drewN|apply Kd.Q_drew));exact Kd.Q_mono HO794.out (fun _ hk=>⟨hk.1.2,hk.2⟩)⟩,⟨by(with_reducible repeat(first|apply Kd.V_alloc|apply Kd.V_drewN|apply Kd.V_drew));exact Kd.V_mono HO799.out (fun _ hk=>⟨hk.1.1.1.1.1.1,⟨hk.1.1.1.2,⟨hk.1.2,⟨hk.1.1.1.1.1.2,⟨hk.1.1.1.1.2,⟨hk.1.1.2,hk.2⟩⟩⟩⟩⟩⟩)⟩,⟨Kd.Q_of_R (by(with_reducible repeat(first|apply Kd.R_alloc|apply Kd.R_drewN|apply Kd.R_drew));exact Kd.R_mono HO805.out (fun _ hk=>⟨hk.1.2,hk.2⟩))⟩,⟨Kd.Q_of_R (by(with_reducible repeat(first|apply Kd.R_alloc|apply Kd.R_drewN|apply Kd.R_drew));exact Kd.R_mono HO811.out (fun _ hk=>⟨hk.1.2,hk.2⟩))⟩,⟨za24 BK800⟩,⟨za24 BK801⟩,⟨za24 BK807⟩,⟨za24 BK813⟩,⟨za7 HB GE800 GE801 GE807 GE813⟩⟩
  case rest=>
   clear HC6
   try clear c1
   try clear c2
   try clear c2b0
   try clear c2b1
   try clear p2
   try clear c3
   try clear c4
   try clear c9
   try clear c10
   try clear c17
   try clear c18
   try clear c24
   try clear c25
   try clear c26
   try clear c27
   try clear c30
   try clear c30b0
   try clear c30b1
   try clear c30b2
   try clear c32
   try clear c33
   try clear c34
   try clear c35
   try clear c37
   try clear c38
   try clear c41
   try clear c42
   try clear c43
   try clear c45
   try clear c46
   try clear hcz11_0
   try clear hcz11_1
   try clear hcz13_0
   try clear hcz13_1
   try clear hcz13_2
   try clear hcz19_0
   try clear hcz19_1
   try clear hcz21_0
   try clear hcz21_1
   try clear hcz22_0
   try clear hcz22_1
   try clear hcz22_2
   try clear hcz28_0
   try clear hcz28_1
   try clear hcz36_0
   try clear hcz36_1
   try clear hcz39_0
   try clear hcz39_1
   try clear hcz44_0
   try clear hcz44_1
   try clear hcz47_0
   try clear hcz47_1
   try clear hfz11_0
   try clear hfz11_1
   try clear hfz13_0
   try clear hfz13_1
   try clear hfz13_2
   try clear hfz19_0
   try clear hfz19_1
   try clear hfz21_0
   try clear hfz21_1
   try clear hfz22_0
   try clear hfz22_1
   try clear hfz22_2
   try clear hfz28_0
   try clear hfz28_1
   try clear hfz36_0
   try clear hfz36_1
   try clear hfz39_0
   try clear hfz39_1
   try clear hfz44_0
   try clear hfz44_1
   try clear hfz47_0
   try clear hfz47_1
   obtain⟨kq,x41_5,rfl,HA,HJ5,HO_801001,HO_802002,HO_808001,HO_814001,BK800,BK801,BK807,BK813,HB⟩:=hcut
   cases kq with
   |zero=>exact absurd HA.out (by simp[laws_FnStockNever.j0])
   |succ kj5=>
    have H:=HA.out
    clear HA
    simp only[laws_FnStockNever.j0] at H
    by_cases c49:x41_5=true
    ·subst c49
     have H1:(if(t812 == t806)=true then((laws_lnStock.f kj5 t808 t809 t802 t803).bind fun t815=>(some t815)) else(some false))=some r:=by rw[if_pos rfl] at H;exact H
     clear H
     have H:=H1
     clear H1
     by_cases c50:(t812 == t806)=true
     ·rw[if_pos c50] at H
      have c50b0:(t812 == t806)=true:=c50
      (try(have c50b1:decide (t812=t806)=true:=by simpa using c50))
      (try(have c50b2:(t812 == t806)=true:=by simpa using c50))
      clear c50
      replace H:=Option.bind_eq_some_iff.mp H
      obtain⟨t815,A510,H⟩:=H
      replace H:(some t815)=some r:=H
      have A51:=Aside0.mk A510
      clear A510
      obtain rfl:=Option.some.inj H
      have hnb52:=NB813_800.out
      have hnc52:=NB800_813.out
      have hnb53:=NB813_801.out
      have hnc53:=NB801_813.out
      have hnb54:=NB813_807.out
      have hnc54:=NB807_813.out
      obtain⟨hcz55_0,hcz55_1,hfz55_0,hfz55_1⟩:=zC2 BK813
      have hnb56:=NB807_800.out
      have hnc56:=NB800_807.out
      have hnb57:=NB807_801.out
      have hnc57:=NB801_807.out
      obtain⟨hcz58_0,hcz58_1,hfz58_0,hfz58_1⟩:=zC2 BK807
      go_wp2_with(first|(go_at_call 23;(with_reducible refine(laws_lnStock.calls kj5 t808 _ _ t809 t802 _ _ t803 t815 _ ?side1 ?side2 ?side3 ?side4 A51.out).mono ?_);(case side1=>repeat(first|exact(Kd.Q_reads' HO_814001.out).2.2|(with_reducible refine Kd.C_alloc ?_ _)|(with_reducible refine Kd.C_drewN ?_ _)|(with_reducible refine Kd.C_drew ?_)));(case side2=>exact(Kd.Q_reads' HO_814001.out).2.1);(case side3=>repeat(first|exact(Kd.Q_reads' HO_808001.out).2.2|(with_reducible refine Kd.C_alloc ?_ _)|(with_reducible refine Kd.C_drewN ?_ _)|(with_reducible refine Kd.C_drew ?_)));(case side4=>exact(Kd.Q_reads' HO_808001.out).2.1);rintro e w59 ⟨rfl,hb⟩;replace HO_801001:=Aside0.mk (Kd.Q_below (za10 HO_801001) hb);replace HO_802002:=Aside0.mk (Kd.V_below (za42 HO_802002) hb);replace HO_808001:=Aside0.mk (Kd.Q_below (za10 HO_808001) hb);replace HO_814001:=Aside0.mk (Kd.Q_below (za10 HO_814001) hb);replace BK800:=Aside0.mk (qaa (zB BK800) hb);replace BK801:=Aside0.mk (qaa (zB BK801) hb);replace BK807:=Aside0.mk (qaa (zB BK807) hb);replace BK813:=Aside0.mk (qaa (zB BK813) hb);replace HB:=Aside0.mk (qab (za7 HB GE800 GE801 GE807 GE813) hb);(try clear hb)))
      go_ret
      exact⟨za16,za7 HB GE800 GE801 GE807 GE813⟩
     ·rw[if_neg c50] at H
      have c50b0:(t812 == t806)=false:=by simpa using c50
      (try(have c50b1:decide (t812=t806)=false:=by simpa using c50))
      (try(have c50b2:(t812 == t806)=false:=by simpa using c50))
      (try(have c50b3:¬(t812=t806):=by simpa using c50))
      clear c50
      obtain rfl:=Option.some.inj H
      go_wp2
      go_ret
      exact⟨za16,za7 HB GE800 GE801 GE807 GE813⟩
    ·replace c49:=Bool.eq_false_iff.mpr c49
     subst c49
     have H1:((impl_StockOk.f kj5 t808 t809).bind fun t816=>(if t816=true then((impl_StockFree.f kj5 t808 t809).bind fun t817=>(if t817≥0 then(some (t808 == t791)) else(some false))) else(some false)))=some r:=by rw[if_neg (show ¬(false=true) by decide)] at H;exact H
     clear H
     have H:=H1
     clear H1
     replace H:=Option.bind_eq_some_iff.mp H
     obtain⟨t816,A600,H⟩:=H
     replace H:(if t816=true then((impl_StockFree.f kj5 t808 t809).bind fun t817=>(if t817≥0 then(some (t808 == t791)) else(some false))) else(some false))=some r:=H
     have A60:=Aside0.mk A600
     clear A600
     by_cases c61:t816=true
     ·subst c61
      have H1:((impl_StockFree.f kj5 t808 t809).bind fun t817=>(if t817≥0 then(some (t808 == t791)) else(some false)))=some r:=by rw[if_pos rfl] at H;exact H
      clear H
      have H:=H1
      clear H1
      replace H:=Option.bind_eq_some_iff.mp H
      obtain⟨t817,A620,H⟩:=H
      replace H:(if t817≥0 then(some (t808 == t791)) else(some false))=some r:=H
      have A62:=Aside0.mk A620
      clear A620
      by_cases c63:t817≥0
      ·rw[if_pos c63] at H
       have c63b0:decide (0≤t817)=true:=decide_eq_true c63
       clear c63
       obtain rfl:=Option.some.inj H
       have hnb64:=NB813_800.out
       have hnc64:=NB800_813.out
       have hnb65:=NB813_801.out
       have hnc65:=NB801_813.out
       have hnb66:=NB813_807.out
       have hnc66:=NB807_813.out
       obtain⟨hcz67_0,hcz67_1,hfz67_0,hfz67_1⟩:=zC2 BK813
       go_wp2_with(first|((with_reducible refine qac (f:=29) rfl ?_);refine zF (some 51) Try.func29 #[.agg #[.int .i64 t808,.slice Ao29 t809.length co29]] ?_;(with_reducible refine(impl_StockOk.calls kj5 t808 _ _ t809 true _ ?side1 ?side2 A60.out).mono ?_);(case side1=>repeat(first|exact(Kd.Q_reads' HO_814001.out).2.2|(with_reducible refine Kd.C_alloc ?_ _)|(with_reducible refine Kd.C_drewN ?_ _)|(with_reducible refine Kd.C_drew ?_)));(case side2=>exact(Kd.Q_reads' HO_814001.out).2.1);rintro e w68 ⟨rfl,hb⟩;refine⟨_,rfl,?_⟩;replace HO_801001:=Aside0.mk (Kd.Q_below (za10 HO_801001) hb);replace HO_802002:=Aside0.mk (Kd.V_below (za42 HO_802002) hb);replace HO_808001:=Aside0.mk (Kd.Q_below (za10 HO_808001) hb);replace HO_814001:=Aside0.mk (Kd.Q_below (za10 HO_814001) hb);replace BK800:=Aside0.mk (qaa (zB BK800) hb);replace BK801:=Aside0.mk (qaa (zB BK801) hb);replace BK807:=Aside0.mk (qaa (zB BK807) hb);replace BK813:=Aside0.mk (qaa (zB BK813) hb);replace HB:=Aside0.mk (qab (za7 HB GE800 GE801 GE807 GE813) hb);(try clear hb);obtain⟨hcz69_0,hcz69_1,hfz69_0,hfz69_1⟩:=zC2 BK813)|(go_at_call 25;(with_reducible refine(impl_StockFree.calls kj5 t808 _ _ t809 t817 _ ?side1 ?side2 A62.out).mono ?_);(case side1=>repeat(first|exact(Kd.Q_reads' HO_814001.out).2.2|(with_reducible refine Kd.C_alloc ?_ _)|(with_reducible refine Kd.C_drewN ?_ _)|(with_reducible refine Kd.C_drew ?_)));(case side2=>exact(Kd.Q_reads' HO_814001.out).2.1);rintro e w70 ⟨rfl,hb⟩;replace HO_801001:=Aside0.mk (Kd.Q_below (za10 HO_801001) hb);replace HO_802002:=Aside0.mk (Kd.V_below (za42 HO_802002) hb);replace HO_808001:=Aside0.mk (Kd.Q_below (za10 HO_808001) hb);replace HO_814001:=Aside0.mk (Kd.Q_below (za10 HO_814001) hb);replace BK800:=Aside0.mk (qaa (zB BK800) hb);replace BK801:=Aside0.mk (qaa (zB BK801) hb);replace BK807:=Aside0.mk (qaa (zB BK807) hb);replace BK813:=Aside0.mk (qaa (zB BK813) hb);replace HB:=Aside0.mk (qab (za7 HB GE800 GE801 GE807 GE813) hb);(try clear hb);obtain⟨hcz71_0,hcz71_1,hfz71_0,hfz71_1⟩:=zC2 BK813;have hnb72:=NB800_801.out;have hnc72:=NB801_800.out;have hnb73:=NB800_807.out;have hnc73:=NB807_800.out;obtain⟨hcz74_0,hcz74_1,hfz74_0,hfz74_1⟩:=zC2 BK800))
       go_ret
       exact⟨za16,za7 HB GE800 GE801 GE807 GE813⟩
      ·rw[if_neg c63] at H
       have c63b0:decide (0≤t817)=false:=decide_eq_false c63
       clear c63
       obtain rfl:=Option.some.inj H
       have hnb75:=NB813_800.out
       have hnc75:=NB800_813.out
       have hnb76:=NB813_801.out
       have hnc76:=NB801_813.out
       have hnb77:=NB813_807.out
       have hnc77:=NB807_813.out
       obtain⟨hcz78_0,hcz78_1,hfz78_0,hfz78_1⟩:=zC2 BK813
       go_wp2_with(first|((with_reducible refine qac (f:=29) rfl ?_);refine zF (some 51) Try.func29 #[.agg #[.int .i64 t808,.slice Ao29 t809.length co29]] ?_;(with_reducible refine(impl_StockOk.calls kj5 t808 _ _ t809 true _ ?side1 ?side2 A60.out).mono ?_);(case side1=>repeat(first|exact(Kd.Q_reads' HO_814001.out).2.2|(with_reducible refine Kd.C_alloc ?_ _)|(with_reducible refine Kd.C_drewN ?_ _)|(with_reducible refine Kd.C_drew ?_)));(case side2=>exact(Kd.Q_reads' HO_814001.out).2.1);rintro e w79 ⟨rfl,hb⟩;refine⟨_,rfl,?_⟩;replace HO_801001:=Aside0.mk (Kd.Q_below (za10 HO_801001) hb);replace HO_802002:=Aside0.mk (Kd.V_below (za42 HO_802002) hb);replace HO_808001:=Aside0.mk (Kd.Q_below (za10 HO_808001) hb);replace HO_814001:=Aside0.mk (Kd.Q_below (za10 HO_814001) hb);replace BK800:=Aside0.mk (qaa (zB BK800) hb);replace BK801:=Aside0.mk (qaa (zB BK801) hb);replace BK807:=Aside0.mk (qaa (zB BK807) hb);replace BK813:=Aside0.mk (qaa (zB BK813) hb);replace HB:=Aside0.mk (qab (za7 HB GE800 GE801 GE807 GE813) hb);(try clear hb);obtain⟨hcz80_0,hcz80_1,hfz80_0,hfz80_1⟩:=zC2 BK813)|(go_at_call 25;(with_reducible refine(impl_StockFree.calls kj5 t808 _ _ t809 t817 _ ?side1 ?side2 A62.out).mono ?_);(case side1=>repeat(first|exact(Kd.Q_reads' HO_814001.out).2.2|(with_reducible refine Kd.C_alloc ?_ _)|(with_reducible refine Kd.C_drewN ?_ _)|(with_reducible refine Kd.C_drew ?_)));(case side2=>exact(Kd.Q_reads' HO_814001.out).2.1);rintro e w81 ⟨rfl,hb⟩;replace HO_801001:=Aside0.mk (Kd.Q_below (za10 HO_801001) hb);replace HO_802002:=Aside0.mk (Kd.V_below (za42 HO_802002) hb);replace HO_808001:=Aside0.mk (Kd.Q_below (za10 HO_808001) hb);replace HO_814001:=Aside0.mk (Kd.Q_below (za10 HO_814001) hb);replace BK800:=Aside0.mk (qaa (zB BK800) hb);replace BK801:=Aside0.mk (qaa (zB BK801) hb);replace BK807:=Aside0.mk (qaa (zB BK807) hb);replace BK813:=Aside0.mk (qaa (zB BK813) hb);replace HB:=Aside0.mk (qab (za7 HB GE800 GE801 GE807 GE813) hb);(try clear hb)))
       go_ret
       exact⟨za16,za7 HB GE800 GE801 GE807 GE813⟩
     ·replace c61:=Bool.eq_false_iff.mpr c61
      subst c61
      have H1:(some false)=some r:=by rw[if_neg (show ¬(false=true) by decide)] at H;exact H
      clear H
      have H:=H1
      clear H1
      obtain rfl:=Option.some.inj H
      have hnb82:=NB813_800.out
      have hnc82:=NB800_813.out
      have hnb83:=NB813_801.out
      have hnc83:=NB801_813.out
      have hnb84:=NB813_807.out
      have hnc84:=NB807_813.out
      obtain⟨hcz85_0,hcz85_1,hfz85_0,hfz85_1⟩:=zC2 BK813
      go_wp2_with(first|((with_reducible refine qac (f:=29) rfl ?_);refine zF (some 51) Try.func29 #[.agg #[.int .i64 t808,.slice Ao29 t809.length co29]] ?_;(with_reducible refine(impl_StockOk.calls kj5 t808 _ _ t809 false _ ?side1 ?side2 A60.out).mono ?_);(case side1=>repeat(first|exact(Kd.Q_reads' HO_814001.out).2.2|(with_reducible refine Kd.C_alloc ?_ _)|(with_reducible refine Kd.C_drewN ?_ _)|(with_reducible refine Kd.C_drew ?_)));(case side2=>exact(Kd.Q_reads' HO_814001.out).2.1);rintro e w86 ⟨rfl,hb⟩;refine⟨_,rfl,?_⟩;replace HO_801001:=Aside0.mk (Kd.Q_below (za10 HO_801001) hb);replace HO_802002:=Aside0.mk (Kd.V_below (za42 HO_802002) hb);replace HO_808001:=Aside0.mk (Kd.Q_below (za10 HO_808001) hb);replace HO_814001:=Aside0.mk (Kd.Q_below (za10 HO_814001) hb);replace BK800:=Aside0.mk (qaa (zB BK800) hb);replace BK801:=Aside0.mk (qaa (zB BK801) hb);replace BK807:=Aside0.mk (qaa (zB BK807) hb);replace BK813:=Aside0.mk (qaa (zB BK813) hb);replace HB:=Aside0.mk (qab (za7 HB GE800 GE801 GE807 GE813) hb);(try clear hb)))
      go_ret
      exact⟨za16,za7 HB GE800 GE801 GE807 GE813⟩
def laws_FnStockNever.Pure:Prop:=∀(l0:List Int),l0.length≤maxLen→l0.length*1≤140737488351232→(∀x ∈ l0,(Lit.int .u8 x).wf=true)→∃k,laws_FnStockNever.f k l0=some true
theorem laws_FnStockNever.walk (P:laws_FnStockNever.Pure) (a0:Option Addr) (len0 cap0:Nat) (z0:List Int) (w:World) (w0:(a0=none∧len0=0∧cap0=0∧z0=[])∨∃x,a0=some x∧len0≤cap0∧cap0≤maxLen∧z0.length=cap0∧(∀i,i<z0.length→w.cell? (x.add i)=some (.int .u8 (z0.getD i 0)))∧∀n ∈ z0,(Lit.int .u8 n).wf=true) (y0:len0*1≤140737488351232) :
  Calls Try.prog 9 #[.slice a0 len0 cap0] w fun e w'=>e=.returned (.bool true)∧Below w.heap.size w w':=by
 obtain⟨l0,rfl,hr0,hm0,hw0,hc0⟩:=ReadsInt.ofRowC w0
 obtain⟨k,h⟩:=P l0 hm0 y0 hw0
 refine(laws_FnStockNever.calls k _ _ l0 true w (Kd.C_of_reads (d:=(0:Int)) (h1:=fun _=>rfl) hr0) hc0 h).mono ?_
 rintro e w' ⟨rfl,hd⟩
 exact⟨rfl,hd⟩
end Go.Proofs.Ytmbdphefnalenaa.Print
