-- Written by squeeze.py: not trusted, Lean checks it.
import Derived.Test.YtjccnaklodbbfaaZK
import Derived.Test.YtjccnaklodbbfaaZc0
import Derived.Test.YtjccnaklodbbfaaZk0
import Derived.Test.YtjccnaklodbbfaaZl0
import Derived.Test.YtjccnaklodbbfaaZl1
import Derived.Test.YtjccnaklodbbfaaZm0
import Derived.Test.YtjccnaklodbbfaaZu0
namespace Go.Proofs.Ytjccnaklodbbfaa.Print
open Go.RowKit Go.Proofs.YtjccnaklodbbfaaW.PrintWords Go.Proofs.YtjccnaklodbbfaaW.PrintLast Go.Proofs.YtjccnaklodbbfaaW.PrintMore
attribute [local go_sem] max2_int min2_int max_two min_two max_three min_three max_four min_four
set_option linter.unusedVariables false
set_option linter.unusedSimpArgs false
def laws_FnStockMay.j0:Nat→Bool→Bool→Int→List (S46)→Int→Int→List Int→Option (Bool)
 |0,_,_,_,_,_,_,_=>none
 |k+1,x5,x32,x754000,x754001,x755000,x755001,x755002=>if x32=true then((spec_StockMay.f k x754000 x754001 x755000 x755001 x755002).bind fun t759=>(some (x5 == t759))) else(if 0≤(wrap64 (x755001 - 1)) then(if(wrap64 (x755001 - 1))<(x754001.length:Int) then(if x755000=1 then(if((rd_T46 x754001 (wrap64 (x755001 - 1))).f1)=0 then(if 0<(x755002.length:Int) then((impl_StockFree.f k x754000 x754001).bind fun t762=>(some (x5 == (decide ((rd x755002 0)≤t762))))) else(none)) else(some (x5 == false))) else(if x755000=2 then(some (x5 == (((rd_T46 x754001 (wrap64 (x755001 - 1))).f1) == 1))) else(if x755000=3 then(if((rd_T46 x754001 (wrap64 (x755001 - 1))).f1)=1 then(some (x5 == true)) else(some (x5 == (((rd_T46 x754001 (wrap64 (x755001 - 1))).f1) == 0)))) else(some (!x5))))) else(none)) else(none))
def laws_FnStockMay.f (k:Nat) (l0:List Int):Option (Bool):=if(l0.length:Int)>1048576 then(some true) else((spec_DrawStockMay.f k l0).bind fun bt744=>((impl_StockMay.f k bt744.1 bt744.2.1 bt744.2.2.1 bt744.2.2.2.1 bt744.2.2.2.2).bind fun t755=>((spec_StockMay.f k bt744.1 bt744.2.1 bt744.2.2.1 bt744.2.2.2.1 bt744.2.2.2.2).bind fun t756=>(if(t755 != t756)=true then(laws_FnStockMay.j0 k t755 true bt744.1 bt744.2.1 bt744.2.2.1 bt744.2.2.2.1 bt744.2.2.2.2) else((spec_StockOk.f k bt744.1 bt744.2.1).bind fun t757=>(if t757=true then((spec_RecOk.f k bt744.2.2.1 bt744.2.2.2.1 bt744.2.2.2.2).bind fun t758=>(laws_FnStockMay.j0 k t755 (!t758) bt744.1 bt744.2.1 bt744.2.2.1 bt744.2.2.2.1 bt744.2.2.2.2)) else(laws_FnStockMay.j0 k t755 true bt744.1 bt744.2.1 bt744.2.2.1 bt744.2.2.2.1 bt744.2.2.2.2)))))))
theorem laws_FnStockMay.mono_l:∀k,(∀y0 y1 y2 y3 y4 y5 y6,LeO (laws_FnStockMay.j0 k y0 y1 y2 y3 y4 y5 y6) (laws_FnStockMay.j0 (k+1) y0 y1 y2 y3 y4 y5 y6))
 |0=>fun _ _ _ _ _ _ _ r h=>by simp[laws_FnStockMay.j0] at h
 |k+1=>by
  have ih0:=laws_FnStockMay.mono_l k
  ·intro y0 y1 y2 y3 y4 y5 y6
   unfold laws_FnStockMay.j0
   repeat' first
   |(with_reducible exact ih0 _ _ _ _ _ _ _)
   |(with_reducible exact impl_StockFree.mono _ _ _)
   |(with_reducible exact impl_StockMay.mono _ _ _ _ _ _)
   |(with_reducible exact spec_DrawStockMay.mono _ _)
   |(with_reducible exact spec_RecOk.mono _ _ _ _)
   |(with_reducible exact spec_StockMay.mono _ _ _ _ _ _)
   |(with_reducible exact spec_StockOk.mono _ _ _)
   |(with_reducible exact LeO.refl _)
   |(with_reducible exact LeO.none _)
   |(with_reducible refine LeO.ite ?_ ?_)
   |(with_reducible refine LeO.bind ?_ (fun _=>?_))
   |exact ih0 _ _ _ _ _ _ _
   |exact impl_StockFree.mono _ _ _
   |exact impl_StockMay.mono _ _ _ _ _ _
   |exact spec_DrawStockMay.mono _ _
   |exact spec_RecOk.mono _ _ _ _
   |exact spec_StockMay.mono _ _ _ _ _ _
   |exact spec_StockOk.mono _ _ _
   |exact LeO.none _
   |refine LeO.ite ?_ ?_
   |refine LeO.bind ?_ (fun _=>?_)
theorem laws_FnStockMay.mono:∀a0 k,LeO (laws_FnStockMay.f k a0) (laws_FnStockMay.f (k+1) a0):=by
 intro a0 k
 have ih0:=laws_FnStockMay.mono_l k
 unfold laws_FnStockMay.f
 repeat' first
   |(with_reducible exact ih0 _ _ _ _ _ _ _)
   |(with_reducible exact impl_StockFree.mono _ _ _)
   |(with_reducible exact impl_StockMay.mono _ _ _ _ _ _)
   |(with_reducible exact spec_DrawStockMay.mono _ _)
   |(with_reducible exact spec_RecOk.mono _ _ _ _)
   |(with_reducible exact spec_StockMay.mono _ _ _ _ _ _)
   |(with_reducible exact spec_StockOk.mono _ _ _)
   |(with_reducible exact LeO.refl _)
   |(with_reducible exact LeO.none _)
   |(with_reducible refine LeO.ite ?_ ?_)
   |(with_reducible refine LeO.bind ?_ (fun _=>?_))
   |exact ih0 _ _ _ _ _ _ _
   |exact impl_StockFree.mono _ _ _
   |exact impl_StockMay.mono _ _ _ _ _ _
   |exact spec_DrawStockMay.mono _ _
   |exact spec_RecOk.mono _ _ _ _
   |exact spec_StockMay.mono _ _ _ _ _ _
   |exact spec_StockOk.mono _ _ _
   |exact LeO.none _
   |refine LeO.ite ?_ ?_
   |refine LeO.bind ?_ (fun _=>?_)
def laws_FnStockMay.T10:Bool × List (List Nat × List Nat):=(true,[([],[]),([],[]),([1],[1]),([2],[2]),([3],[3]),([4,3],[3,4]),([5,3],[3,5]),([6,3],[3,6]),([3],[3]),([8,3,3],[3,8]),([7,9,3],[3,7,9]),([3,10],[3,10]),([0,11],[0,11]),([12,9,0,1,2,3,4,5,6,7,8,9,10,11,12],[12])])
def laws_FnStockMay.B10:List Nat:=[0,0,2,6,14,30,62,126,14,270,1022,2046,4095,8191]
theorem laws_FnStockMay.tab10:rtab .any (opsOf Try.f9 10)=laws_FnStockMay.T10:=by kernel_rfl
theorem laws_FnStockMay.bits10:waitsOk laws_FnStockMay.T10.2 laws_FnStockMay.B10=true:=by kernel_rfl
set_option maxHeartbeats 8000000 in
set_option maxRecDepth 100000 in
theorem laws_FnStockMay.calls (k:Nat) (A0:Option Addr) (c0:Nat) (l0:List Int) (r:Bool) (w:World) (hr0:Kd.C (Kd.int .u8) w A0 l0.length l0) (hc0:l0.length≤c0) (h:laws_FnStockMay.f k l0=some r) :
  Calls Try.prog 9 #[.slice A0 l0.length c0] w fun e w'=>e=.returned (.bool r)∧Below w.heap.size w w':=by
 have hu36:=Try.underlying36
 have hu62:=Try.underlying62
 have HR0:=Aside0.mk hr0
 have HC0:=Aside0.mk hc0
 clear hr0 hc0
 have HB:=Aside0.mk (Below.refl w.heap.size w)
 have H:(if(l0.length:Int)>1048576 then(some true) else((spec_DrawStockMay.f k l0).bind fun bt744=>((impl_StockMay.f k bt744.1 bt744.2.1 bt744.2.2.1 bt744.2.2.2.1 bt744.2.2.2.2).bind fun t755=>((spec_StockMay.f k bt744.1 bt744.2.1 bt744.2.2.1 bt744.2.2.2.1 bt744.2.2.2.2).bind fun t756=>(if(t755 != t756)=true then(laws_FnStockMay.j0 k t755 true bt744.1 bt744.2.1 bt744.2.2.1 bt744.2.2.2.1 bt744.2.2.2.2) else((spec_StockOk.f k bt744.1 bt744.2.1).bind fun t757=>(if t757=true then((spec_RecOk.f k bt744.2.2.1 bt744.2.2.2.1 bt744.2.2.2.2).bind fun t758=>(laws_FnStockMay.j0 k t755 (!t758) bt744.1 bt744.2.1 bt744.2.2.1 bt744.2.2.2.1 bt744.2.2.2.2)) else(laws_FnStockMay.j0 k t755 true bt744.1 bt744.2.1 bt744.2.2.1 bt744.2.2.2.1 bt744.2.2.2.2))))))))=some r:=h
 clear h
 by_cases c2:(l0.length:Int)>1048576
 ·rw[if_pos c2] at H
  have c2b0:decide (1048576<(l0.length:Int))=true:=decide_eq_true c2
  have c2b1:decide (1048576<l0.length)=true:=decide_eq_true (by omega)
  clear c2
  obtain rfl:=Option.some.inj H
  go_enter Try.func9,Try.ntmps9
  go_wp2
  go_ret
  exact⟨za9,za1 HB⟩
 ·rw[if_neg c2] at H
  have c2b0:decide (1048576<(l0.length:Int))=false:=decide_eq_false c2
  have c2b1:decide (1048576<l0.length)=false:=decide_eq_false (by omega)
  clear c2
  replace H:=Option.bind_eq_some_iff.mp H
  obtain⟨⟨t744,t745,t748,t749,t750⟩,A30,H⟩:=H
  replace H:((impl_StockMay.f k t744 t745 t748 t749 t750).bind fun t755=>((spec_StockMay.f k t744 t745 t748 t749 t750).bind fun t756=>(if(t755 != t756)=true then(laws_FnStockMay.j0 k t755 true t744 t745 t748 t749 t750) else((spec_StockOk.f k t744 t745).bind fun t757=>(if t757=true then((spec_RecOk.f k t748 t749 t750).bind fun t758=>(laws_FnStockMay.j0 k t755 (!t758) t744 t745 t748 t749 t750)) else(laws_FnStockMay.j0 k t755 true t744 t745 t748 t749 t750))))))=some r:=H
  have A3:=Aside0.mk A30
  clear A30
  replace H:=Option.bind_eq_some_iff.mp H
  obtain⟨t755,A40,H⟩:=H
  replace H:((spec_StockMay.f k t744 t745 t748 t749 t750).bind fun t756=>(if(t755 != t756)=true then(laws_FnStockMay.j0 k t755 true t744 t745 t748 t749 t750) else((spec_StockOk.f k t744 t745).bind fun t757=>(if t757=true then((spec_RecOk.f k t748 t749 t750).bind fun t758=>(laws_FnStockMay.j0 k t755 (!t758) t744 t745 t748 t749 t750)) else(laws_FnStockMay.j0 k t755 true t744 t745 t748 t749 t750)))))=some r:=H
  have A4:=Aside0.mk A40
  clear A40
  have HC5:=Aside0.mk H
  clear H
  go_enter Try.func9,Try.ntmps9
  go_upto_region 5 with(first|((with_reducible refine qaf (f:=43) rfl ?_);refine zF (some 12) Try.func43 #[.slice A0 l0.length c0] ?_;(with_reducible refine(spec_DrawStockMay.calls k _ _ l0 t744 t745 t748 t749 t750 _ ?side1 ?side2 A3.out).mono ?_);(case side1=>repeat(first|exact HR0.out|(with_reducible refine Kd.C_alloc ?_ _)|(with_reducible refine Kd.C_drewN ?_ _)|(with_reducible refine Kd.C_drew ?_)));(case side2=>exact HC0.out);rintro e w6 ⟨v746,v751,rfl,ho0,ho1,hb⟩;refine⟨_,rfl,?_⟩;have HO747:=Aside0.mk (Kd.Q_lower (Kd.Q_mono (ok':=fun k_=>True) ho0 (fun _ hk_=>trivial)) (below_size (za1 HB)));have HO752:=Aside0.mk (Kd.V_lower (Kd.V_mono (ok':=fun k_=>some k_≠(v746:Value).ownBlock) ho1 (fun k_ hk_=>hk_.2)) (below_size (za1 HB)));replace HB:=Aside0.mk (qab (za1 HB) hb);(try clear hb);(try clear ho0);(try clear ho1))|((with_reducible refine qah (N:=3) rfl ?_);refine zX (N:=3) (cs:=#[.int .i64 0,.slice none 0 0]) (t:=36) ?_;intro gb753 hg w7 hbox hb;replace HO747:=Aside0.mk (Kd.Q_below (za18 HO747) hb);replace HO752:=Aside0.mk (Kd.V_below (Kd.V_elderB (za19 HO752) gb753 (Nat.le_of_eq hg.symm)) hb);have BK753:=Aside0.mk hbox;have GW753:=zH (w:=w) hg (za1 HB);have GE753:=GW753;replace HB:=Aside0.mk (qab (za1 HB) hb);clear hb hbox hg)|((with_reducible refine qah (N:=4) rfl ?_);refine zX (N:=4) (cs:=#[.int .i64 0,.int .i64 0,.slice none 0 0]) (t:=62) ?_;intro gb754 hg w8 hbox hb;replace HO747:=Aside0.mk (Kd.Q_below (za18 HO747) hb);replace HO752:=Aside0.mk (Kd.V_below (Kd.V_elderB (za19 HO752) gb754 (Nat.le_of_eq hg.symm)) hb);have BK754:=Aside0.mk hbox;have GW754:=zH (w:=w) hg (za0 HB GE753);have GE754:=GW754;replace HB:=Aside0.mk (qab (za0 HB GE753) hb);have NB753_754:=zL BK753 hg;have NB754_753:=zG BK753 hg;replace BK753:=Aside0.mk (qaa (zB BK753) hb);clear hb hbox hg;have hnb9:=NB753_754.out;have hnc9:=NB754_753.out;obtain⟨hcz10_0,hcz10_1,hfz10_0,hfz10_1⟩:=zC2 BK753;obtain⟨Ao11,co11,eo11,_⟩:=Kd.Q_slice HO747.out;subst eo11;obtain⟨hcz12_0,hcz12_1,hcz12_2,hfz12_0,hfz12_1,hfz12_2⟩:=zC3 BK754;obtain⟨Ao13,co13,eo13⟩:=Kd.V_slice HO752.out;subst eo13)|((with_reducible refine qaf (f:=40) rfl ?_);refine zF (some 17) Try.func40 #[.agg #[.int .i64 t744,.slice Ao11 t745.length co11],.agg #[.int .i64 t748,.int .i64 t749,.slice Ao13 t750.length co13]] ?_;(with_reducible refine(impl_StockMay.calls k t744 _ _ t745 t748 t749 _ _ t750 t755 _ ?side1 ?side2 ?side3 ?side4 A4.out).mono ?_);(case side1=>refine(Kd.Q_reads' (e:=46) (base:=w.heap.size) (ok:=fun k_=>True) (n:=t745.length) (c:=co11) ?_).2.2;exact(by(with_reducible repeat(first|apply Kd.Q_alloc|apply Kd.Q_drewN|apply Kd.Q_drew));exact(Kd.Q_mono (Kd.Q_mono (Kd.Q_far (p:=⟨gb754,2,none⟩) (Kd.Q_far (p:=⟨gb754,1,none⟩) (Kd.Q_far (p:=⟨gb754,0,none⟩) (Kd.Q_far (p:=⟨gb753,1,none⟩) (Kd.Q_far (p:=⟨gb753,0,none⟩) (Kd.Q_types (Kd.Q_types HO747.out BK753.out (by decide)) BK754.out (by decide)) (fun _ hk=>hk.1.2) (.int .i64 t744)) (fun _ hk=>hk.1.2) (.slice Ao11 t745.length co11)) (fun _ hk=>hk.2) (.int .i64 t748)) (fun _ hk=>hk.2) (.int .i64 t749)) (fun _ hk=>hk.2) (.slice Ao13 t750.length co13)) (fun _ h_=>h_.1)) (fun _ h_=>h_.1))));(case side2=>exact(Kd.Q_reads' HO747.out).2.1);(case side3=>refine(Kd.V_reads' (e:=3) (base:=w.heap.size) (ok:=fun k_=>((some k_≠(.slice Ao11 t745.length co11:Value).ownBlock∧k_≠gb753)∧k_≠gb754)) (n:=t750.length) (c:=co13) ?_).2.2;exact(by(with_reducible repeat(first|apply Kd.V_alloc|apply Kd.V_drewN|apply Kd.V_drew));exact(Kd.V_mono (Kd.V_mono (Kd.V_far (p:=⟨gb754,2,none⟩) (Kd.V_far (p:=⟨gb754,1,none⟩) (Kd.V_far (p:=⟨gb754,0,none⟩) (Kd.V_far (p:=⟨gb753,1,none⟩) (Kd.V_far (p:=⟨gb753,0,none⟩) (Kd.V_mono (Kd.V_mono HO752.out (fun k_ hk=>(⟨hk,hk.1.2⟩:_∧k_≠gb753))) (fun k_ hk=>(⟨hk,hk.1.2⟩:_∧k_≠gb754))) (fun _ hk=>hk.1.2) (.int .i64 t744)) (fun _ hk=>hk.1.2) (.slice Ao11 t745.length co11)) (fun _ hk=>hk.2) (.int .i64 t748)) (fun _ hk=>hk.2) (.int .i64 t749)) (fun _ hk=>hk.2) (.slice Ao13 t750.length co13)) (fun _ h_=>h_.1)) (fun _ h_=>h_.1))));(case side4=>exact(Kd.V_reads' HO752.out).2.1);rintro e w14 ⟨rfl,hb⟩;refine⟨_,rfl,?_⟩;replace HO747:=Aside0.mk (Kd.Q_below (by(with_reducible repeat(first|apply Kd.Q_alloc|apply Kd.Q_drewN|apply Kd.Q_drew));exact(Kd.Q_mono (Kd.Q_mono (Kd.Q_far (p:=⟨gb754,2,none⟩) (Kd.Q_far (p:=⟨gb754,1,none⟩) (Kd.Q_far (p:=⟨gb754,0,none⟩) (Kd.Q_far (p:=⟨gb753,1,none⟩) (Kd.Q_far (p:=⟨gb753,0,none⟩) (Kd.Q_types (Kd.Q_types HO747.out BK753.out (by decide)) BK754.out (by decide)) (fun _ hk=>hk.1.2) (.int .i64 t744)) (fun _ hk=>hk.1.2) (.slice Ao11 t745.length co11)) (fun _ hk=>hk.2) (.int .i64 t748)) (fun _ hk=>hk.2) (.int .i64 t749)) (fun _ hk=>hk.2) (.slice Ao13 t750.length co13)) (fun _ h_=>h_.1)) (fun _ h_=>h_.1))) hb);replace HO752:=Aside0.mk (Kd.V_below (by(with_reducible repeat(first|apply Kd.V_alloc|apply Kd.V_drewN|apply Kd.V_drew));exact(Kd.V_mono (Kd.V_mono (Kd.V_far (p:=⟨gb754,2,none⟩) (Kd.V_far (p:=⟨gb754,1,none⟩) (Kd.V_far (p:=⟨gb754,0,none⟩) (Kd.V_far (p:=⟨gb753,1,none⟩) (Kd.V_far (p:=⟨gb753,0,none⟩) (Kd.V_mono (Kd.V_mono HO752.out (fun k_ hk=>(⟨hk,hk.1.2⟩:_∧k_≠gb753))) (fun k_ hk=>(⟨hk,hk.1.2⟩:_∧k_≠gb754))) (fun _ hk=>hk.1.2) (.int .i64 t744)) (fun _ hk=>hk.1.2) (.slice Ao11 t745.length co11)) (fun _ hk=>hk.2) (.int .i64 t748)) (fun _ hk=>hk.2) (.int .i64 t749)) (fun _ hk=>hk.2) (.slice Ao13 t750.length co13)) (fun _ h_=>h_.1)) (fun _ h_=>h_.1))) hb);replace BK753:=Aside0.mk (qaa (g:=gb753) (o:=.cells #[.int .i64 t744,.slice Ao11 t745.length co11] 36 (0,0)) (by(with_reducible repeat(first|refine blk_drewN ?_ _|refine blk_drew ?_|refine blk_alloc ?_ _));refine blk_far ?_ NB753_754.out _;(with_reducible repeat(first|refine blk_drewN ?_ _|refine blk_drew ?_|refine blk_alloc ?_ _));refine blk_far ?_ NB753_754.out _;(with_reducible repeat(first|refine blk_drewN ?_ _|refine blk_drew ?_|refine blk_alloc ?_ _));refine blk_far ?_ NB753_754.out _;(with_reducible repeat(first|refine blk_drewN ?_ _|refine blk_drew ?_|refine blk_alloc ?_ _));refine qai (cs:=#[.int .i64 t744,.slice none 0 0]) ?_ 1 _ rfl;(with_reducible repeat(first|refine blk_drewN ?_ _|refine blk_drew ?_|refine blk_alloc ?_ _));refine qai (cs:=#[.int .i64 0,.slice none 0 0]) ?_ 0 _ rfl;(with_reducible repeat(first|refine blk_drewN ?_ _|refine blk_drew ?_|refine blk_alloc ?_ _));exact BK753.out) hb);replace BK754:=Aside0.mk (qaa (g:=gb754) (o:=.cells #[.int .i64 t748,.int .i64 t749,.slice Ao13 t750.length co13] 62 (0,0)) (by(with_reducible repeat(first|refine blk_drewN ?_ _|refine blk_drew ?_|refine blk_alloc ?_ _));refine qai (cs:=#[.int .i64 t748,.int .i64 t749,.slice none 0 0]) ?_ 2 _ rfl;(with_reducible repeat(first|refine blk_drewN ?_ _|refine blk_drew ?_|refine blk_alloc ?_ _));refine qai (cs:=#[.int .i64 t748,.int .i64 0,.slice none 0 0]) ?_ 1 _ rfl;(with_reducible repeat(first|refine blk_drewN ?_ _|refine blk_drew ?_|refine blk_alloc ?_ _));refine qai (cs:=#[.int .i64 0,.int .i64 0,.slice none 0 0]) ?_ 0 _ rfl;(with_reducible repeat(first|refine blk_drewN ?_ _|refine blk_drew ?_|refine blk_alloc ?_ _));refine blk_far ?_ NB754_753.out _;(with_reducible repeat(first|refine blk_drewN ?_ _|refine blk_drew ?_|refine blk_alloc ?_ _));refine blk_far ?_ NB754_753.out _;(with_reducible repeat(first|refine blk_drewN ?_ _|refine blk_drew ?_|refine blk_alloc ?_ _));exact BK754.out) hb);replace HB:=Aside0.mk (qab (za2 HB GE753 GE754) hb);(try clear hb)))
  (try simp only[Act.put,List.setIfInBounds_toArray,List.set_cons_zero,List.set_cons_succ])
  go_cut [32] (fun v32 wc=>∃(kq:Nat) (x32_4:Bool),v32=.bool x32_4∧Aside0 (laws_FnStockMay.j0 kq t755 x32_4 t744 t745 t748 t749 t750=some r)∧Aside0 (kq≤k)∧Aside0 (Kd.Q k46 46 wc w.heap.size (fun _=>True) (.slice Ao11 t745.length co11) t745)∧Aside0 (Kd.V (Kd.int .i64) 3 wc w.heap.size (fun k_=>some k_≠((.slice Ao11 t745.length co11):Value).ownBlock∧k_≠gb753∧k_≠gb754) (.slice Ao13 t750.length co13) t750)∧Aside0 (wc.heap[gb753]?=some (.cells #[.int .i64 t744,(.slice Ao11 t745.length co11)] 36 (0,0)))∧Aside0 (wc.heap[gb754]?=some (.cells #[.int .i64 t748,.int .i64 t749,(.slice Ao13 t750.length co13)] 62 (0,0)))∧Aside0 (Below w.heap.size w wc))
  case first=>
   have H:=HC5.out
   clear HC5
   replace H:=Option.bind_eq_some_iff.mp H
   obtain⟨t756,A150,H⟩:=H
   replace H:(if(t755 != t756)=true then(laws_FnStockMay.j0 k t755 true t744 t745 t748 t749 t750) else((spec_StockOk.f k t744 t745).bind fun t757=>(if t757=true then((spec_RecOk.f k t748 t749 t750).bind fun t758=>(laws_FnStockMay.j0 k t755 (!t758) t744 t745 t748 t749 t750)) else(laws_FnStockMay.j0 k t755 true t744 t745 t748 t749 t750))))=some r:=H
   have A15:=Aside0.mk A150
   clear A150
   by_cases c16:(t755 != t756)=true
   ·rw[if_pos c16] at H
    have c16b0:(t755 != t756)=true:=c16
    (try(have c16b1:decide (t755=t756)=false:=by simpa using c16))
    (try(have c16b2:(t755 == t756)=false:=by simpa using c16))
    (try(have c16b3:¬(t755=t756):=by simpa using c16))
    clear c16
    (first|rw[c16b0]|(simp only[qaj,qak];rw[c16b0])|skip)
    have H':=Aside0.mk H
    clear H
    have hnb17:=NB753_754.out
    have hnc17:=NB754_753.out
    obtain⟨hcz18_0,hcz18_1,hfz18_0,hfz18_1⟩:=zC2 BK753
    obtain⟨hcz19_0,hcz19_1,hcz19_2,hfz19_0,hfz19_1,hfz19_2⟩:=zC3 BK754
    go_wp2_with(first|((with_reducible refine qaf (f:=37) rfl ?_);refine zF (some 21) Try.func37 #[.agg #[.int .i64 t744,.slice Ao11 t745.length co11],.agg #[.int .i64 t748,.int .i64 t749,.slice Ao13 t750.length co13]] ?_;(with_reducible refine(spec_StockMay.calls k t744 _ _ t745 t748 t749 _ _ t750 t756 _ ?side1 ?side2 ?side3 ?side4 A15.out).mono ?_);(case side1=>repeat(first|exact(Kd.Q_reads' HO747.out).2.2|(with_reducible refine Kd.C_alloc ?_ _)|(with_reducible refine Kd.C_drewN ?_ _)|(with_reducible refine Kd.C_drew ?_)));(case side2=>exact(Kd.Q_reads' HO747.out).2.1);(case side3=>repeat(first|exact(Kd.V_reads' HO752.out).2.2|(with_reducible refine Kd.C_alloc ?_ _)|(with_reducible refine Kd.C_drewN ?_ _)|(with_reducible refine Kd.C_drew ?_)));(case side4=>exact(Kd.V_reads' HO752.out).2.1);rintro e w20 ⟨rfl,hb⟩;refine⟨_,rfl,?_⟩;replace HO747:=Aside0.mk (Kd.Q_below (za18 HO747) hb);replace HO752:=Aside0.mk (Kd.V_below (za19 HO752) hb);replace BK753:=Aside0.mk (qaa (zB BK753) hb);replace BK754:=Aside0.mk (qaa (zB BK754) hb);replace HB:=Aside0.mk (qab (za2 HB GE753 GE754) hb);(try clear hb)))
    go_meet
    case rel=>exact⟨_,(true),(za17),H',⟨za23⟩,⟨za18 HO747⟩,⟨by(with_reducible repeat(first|apply Kd.V_alloc|apply Kd.V_drewN|apply Kd.V_drew));exact Kd.V_mono HO752.out (fun _ hk=>⟨hk.1.1,⟨hk.1.2,hk.2⟩⟩)⟩,⟨za16 BK753⟩,⟨za16 BK754⟩,⟨za2 HB GE753 GE754⟩⟩
   ·rw[if_neg c16] at H
    have c16b0:(t755 != t756)=false:=by simpa using c16
    (try(have c16b1:decide (t755=t756)=true:=by simpa using c16))
    (try(have c16b2:(t755 == t756)=true:=by simpa using c16))
    clear c16
    (first|rw[c16b0]|(simp only[qaj,qak];rw[c16b0])|skip)
    replace H:=Option.bind_eq_some_iff.mp H
    obtain⟨t757,A210,H⟩:=H
    replace H:(if t757=true then((spec_RecOk.f k t748 t749 t750).bind fun t758=>(laws_FnStockMay.j0 k t755 (!t758) t744 t745 t748 t749 t750)) else(laws_FnStockMay.j0 k t755 true t744 t745 t748 t749 t750))=some r:=H
    have A21:=Aside0.mk A210
    clear A210
    by_cases c22:t757=true
    ·subst c22
     have H1:((spec_RecOk.f k t748 t749 t750).bind fun t758=>(laws_FnStockMay.j0 k t755 (!t758) t744 t745 t748 t749 t750))=some r:=by rw[if_pos rfl] at H;exact H
     clear H
     have H:=H1
     clear H1
     replace H:=Option.bind_eq_some_iff.mp H
     obtain⟨t758,A230,H⟩:=H
     replace H:(laws_FnStockMay.j0 k t755 (!t758) t744 t745 t748 t749 t750)=some r:=H
     have A23:=Aside0.mk A230
     clear A230
     have H':=Aside0.mk H
     clear H
     have hnb24:=NB753_754.out
     have hnc24:=NB754_753.out
     obtain⟨hcz25_0,hcz25_1,hfz25_0,hfz25_1⟩:=zC2 BK753
     obtain⟨hcz26_0,hcz26_1,hcz26_2,hfz26_0,hfz26_1,hfz26_2⟩:=zC3 BK754
     go_wp2_with(first|((with_reducible refine qaf (f:=37) rfl ?_);refine zF (some 21) Try.func37 #[.agg #[.int .i64 t744,.slice Ao11 t745.length co11],.agg #[.int .i64 t748,.int .i64 t749,.slice Ao13 t750.length co13]] ?_;(with_reducible refine(spec_StockMay.calls k t744 _ _ t745 t748 t749 _ _ t750 t756 _ ?side1 ?side2 ?side3 ?side4 A15.out).mono ?_);(case side1=>repeat(first|exact(Kd.Q_reads' HO747.out).2.2|(with_reducible refine Kd.C_alloc ?_ _)|(with_reducible refine Kd.C_drewN ?_ _)|(with_reducible refine Kd.C_drew ?_)));(case side2=>exact(Kd.Q_reads' HO747.out).2.1);(case side3=>repeat(first|exact(Kd.V_reads' HO752.out).2.2|(with_reducible refine Kd.C_alloc ?_ _)|(with_reducible refine Kd.C_drewN ?_ _)|(with_reducible refine Kd.C_drew ?_)));(case side4=>exact(Kd.V_reads' HO752.out).2.1);rintro e w27 ⟨rfl,hb⟩;refine⟨_,rfl,?_⟩;replace HO747:=Aside0.mk (Kd.Q_below (za18 HO747) hb);replace HO752:=Aside0.mk (Kd.V_below (za19 HO752) hb);replace BK753:=Aside0.mk (qaa (zB BK753) hb);replace BK754:=Aside0.mk (qaa (zB BK754) hb);replace HB:=Aside0.mk (qab (za2 HB GE753 GE754) hb);(try clear hb);obtain⟨hcz28_0,hcz28_1,hfz28_0,hfz28_1⟩:=zC2 BK753)|(go_at_call 28;(with_reducible refine(spec_StockOk.calls k t744 _ _ t745 true _ ?side1 ?side2 A21.out).mono ?_);(case side1=>repeat(first|exact(Kd.Q_reads' HO747.out).2.2|(with_reducible refine Kd.C_alloc ?_ _)|(with_reducible refine Kd.C_drewN ?_ _)|(with_reducible refine Kd.C_drew ?_)));(case side2=>exact(Kd.Q_reads' HO747.out).2.1);rintro e w29 ⟨rfl,hb⟩;replace HO747:=Aside0.mk (Kd.Q_below (za18 HO747) hb);replace HO752:=Aside0.mk (Kd.V_below (za19 HO752) hb);replace BK753:=Aside0.mk (qaa (zB BK753) hb);replace BK754:=Aside0.mk (qaa (zB BK754) hb);replace HB:=Aside0.mk (qab (za2 HB GE753 GE754) hb);(try clear hb);obtain⟨hcz30_0,hcz30_1,hcz30_2,hfz30_0,hfz30_1,hfz30_2⟩:=zC3 BK754)|(go_at_call 44;(with_reducible refine(spec_RecOk.calls k t748 t749 _ _ t750 t758 _ ?side1 ?side2 A23.out).mono ?_);(case side1=>repeat(first|exact(Kd.V_reads' HO752.out).2.2|(with_reducible refine Kd.C_alloc ?_ _)|(with_reducible refine Kd.C_drewN ?_ _)|(with_reducible refine Kd.C_drew ?_)));(case side2=>exact(Kd.V_reads' HO752.out).2.1);rintro e w31 ⟨rfl,hb⟩;replace HO747:=Aside0.mk (Kd.Q_below (za18 HO747) hb);replace HO752:=Aside0.mk (Kd.V_below (za19 HO752) hb);replace BK753:=Aside0.mk (qaa (zB BK753) hb);replace BK754:=Aside0.mk (qaa (zB BK754) hb);replace HB:=Aside0.mk (qab (za2 HB GE753 GE754) hb);(try clear hb)))
     go_meet
     case rel=>exact⟨_,(!t758),(za17),H',⟨za23⟩,⟨za18 HO747⟩,⟨by(with_reducible repeat(first|apply Kd.V_alloc|apply Kd.V_drewN|apply Kd.V_drew));exact Kd.V_mono HO752.out (fun _ hk=>⟨hk.1.1,⟨hk.1.2,hk.2⟩⟩)⟩,⟨za16 BK753⟩,⟨za16 BK754⟩,⟨za2 HB GE753 GE754⟩⟩
    ·replace c22:=Bool.eq_false_iff.mpr c22
     subst c22
     have H1:(laws_FnStockMay.j0 k t755 true t744 t745 t748 t749 t750)=some r:=by rw[if_neg (show ¬(false=true) by decide)] at H;exact H
     clear H
     have H:=H1
     clear H1
     have H':=Aside0.mk H
     clear H
     have hnb32:=NB753_754.out
     have hnc32:=NB754_753.out
     obtain⟨hcz33_0,hcz33_1,hfz33_0,hfz33_1⟩:=zC2 BK753
     obtain⟨hcz34_0,hcz34_1,hcz34_2,hfz34_0,hfz34_1,hfz34_2⟩:=zC3 BK754
     go_wp2_with(first|((with_reducible refine qaf (f:=37) rfl ?_);refine zF (some 21) Try.func37 #[.agg #[.int .i64 t744,.slice Ao11 t745.length co11],.agg #[.int .i64 t748,.int .i64 t749,.slice Ao13 t750.length co13]] ?_;(with_reducible refine(spec_StockMay.calls k t744 _ _ t745 t748 t749 _ _ t750 t756 _ ?side1 ?side2 ?side3 ?side4 A15.out).mono ?_);(case side1=>repeat(first|exact(Kd.Q_reads' HO747.out).2.2|(with_reducible refine Kd.C_alloc ?_ _)|(with_reducible refine Kd.C_drewN ?_ _)|(with_reducible refine Kd.C_drew ?_)));(case side2=>exact(Kd.Q_reads' HO747.out).2.1);(case side3=>repeat(first|exact(Kd.V_reads' HO752.out).2.2|(with_reducible refine Kd.C_alloc ?_ _)|(with_reducible refine Kd.C_drewN ?_ _)|(with_reducible refine Kd.C_drew ?_)));(case side4=>exact(Kd.V_reads' HO752.out).2.1);rintro e w35 ⟨rfl,hb⟩;refine⟨_,rfl,?_⟩;replace HO747:=Aside0.mk (Kd.Q_below (za18 HO747) hb);replace HO752:=Aside0.mk (Kd.V_below (za19 HO752) hb);replace BK753:=Aside0.mk (qaa (zB BK753) hb);replace BK754:=Aside0.mk (qaa (zB BK754) hb);replace HB:=Aside0.mk (qab (za2 HB GE753 GE754) hb);(try clear hb);obtain⟨hcz36_0,hcz36_1,hfz36_0,hfz36_1⟩:=zC2 BK753)|(go_at_call 28;(with_reducible refine(spec_StockOk.calls k t744 _ _ t745 false _ ?side1 ?side2 A21.out).mono ?_);(case side1=>repeat(first|exact(Kd.Q_reads' HO747.out).2.2|(with_reducible refine Kd.C_alloc ?_ _)|(with_reducible refine Kd.C_drewN ?_ _)|(with_reducible refine Kd.C_drew ?_)));(case side2=>exact(Kd.Q_reads' HO747.out).2.1);rintro e w37 ⟨rfl,hb⟩;replace HO747:=Aside0.mk (Kd.Q_below (za18 HO747) hb);replace HO752:=Aside0.mk (Kd.V_below (za19 HO752) hb);replace BK753:=Aside0.mk (qaa (zB BK753) hb);replace BK754:=Aside0.mk (qaa (zB BK754) hb);replace HB:=Aside0.mk (qab (za2 HB GE753 GE754) hb);(try clear hb)))
     go_meet
     case rel=>exact⟨_,(true),(za17),H',⟨za23⟩,⟨za18 HO747⟩,⟨by(with_reducible repeat(first|apply Kd.V_alloc|apply Kd.V_drewN|apply Kd.V_drew));exact Kd.V_mono HO752.out (fun _ hk=>⟨hk.1.1,⟨hk.1.2,hk.2⟩⟩)⟩,⟨za16 BK753⟩,⟨za16 BK754⟩,⟨za2 HB GE753 GE754⟩⟩
  case rest=>
   clear HC5
   try clear c1
   try clear c2
   try clear c2b0
   try clear c2b1
   try clear p2
   try clear c3
   try clear c4
   try clear c9
   try clear c16
   try clear c16b0
   try clear c16b1
   try clear c16b2
   try clear c17
   try clear c22
   try clear c24
   try clear c32
   try clear c37
   try clear hcz10_0
   try clear hcz10_1
   try clear hcz12_0
   try clear hcz12_1
   try clear hcz12_2
   try clear hcz18_0
   try clear hcz18_1
   try clear hcz19_0
   try clear hcz19_1
   try clear hcz19_2
   try clear hcz25_0
   try clear hcz25_1
   try clear hcz26_0
   try clear hcz26_1
   try clear hcz26_2
   try clear hcz28_0
   try clear hcz28_1
   try clear hcz30_0
   try clear hcz30_1
   try clear hcz30_2
   try clear hcz33_0
   try clear hcz33_1
   try clear hcz34_0
   try clear hcz34_1
   try clear hcz34_2
   try clear hcz36_0
   try clear hcz36_1
   try clear hfz10_0
   try clear hfz10_1
   try clear hfz12_0
   try clear hfz12_1
   try clear hfz12_2
   try clear hfz18_0
   try clear hfz18_1
   try clear hfz19_0
   try clear hfz19_1
   try clear hfz19_2
   try clear hfz25_0
   try clear hfz25_1
   try clear hfz26_0
   try clear hfz26_1
   try clear hfz26_2
   try clear hfz28_0
   try clear hfz28_1
   try clear hfz30_0
   try clear hfz30_1
   try clear hfz30_2
   try clear hfz33_0
   try clear hfz33_1
   try clear hfz34_0
   try clear hfz34_1
   try clear hfz34_2
   try clear hfz36_0
   try clear hfz36_1
   obtain⟨kq,x32_4,rfl,HA,HJ4,HO_754001,HO_755002,BK753,BK754,HB⟩:=hcut
   cases kq with
   |zero=>exact absurd HA.out (by simp[laws_FnStockMay.j0])
   |succ kj4=>
    have H:=HA.out
    clear HA
    simp only[laws_FnStockMay.j0] at H
    by_cases c38:x32_4=true
    ·subst c38
     have H1:((spec_StockMay.f kj4 t744 t745 t748 t749 t750).bind fun t759=>(some (t755 == t759)))=some r:=by rw[if_pos rfl] at H;exact H
     clear H
     have H:=H1
     clear H1
     replace H:=Option.bind_eq_some_iff.mp H
     obtain⟨t759,A390,H⟩:=H
     replace H:(some (t755 == t759))=some r:=H
     have A39:=Aside0.mk A390
     clear A390
     obtain rfl:=Option.some.inj H
     have hnb40:=NB753_754.out
     have hnc40:=NB754_753.out
     obtain⟨hcz41_0,hcz41_1,hfz41_0,hfz41_1⟩:=zC2 BK753
     obtain⟨hcz42_0,hcz42_1,hcz42_2,hfz42_0,hfz42_1,hfz42_2⟩:=zC3 BK754
     go_wp2_with(first|((with_reducible refine qaf (f:=37) rfl ?_);refine zF (some 36) Try.func37 #[.agg #[.int .i64 t744,.slice Ao11 t745.length co11],.agg #[.int .i64 t748,.int .i64 t749,.slice Ao13 t750.length co13]] ?_;(with_reducible refine(spec_StockMay.calls kj4 t744 _ _ t745 t748 t749 _ _ t750 t759 _ ?side1 ?side2 ?side3 ?side4 A39.out).mono ?_);(case side1=>repeat(first|exact(Kd.Q_reads' HO_754001.out).2.2|(with_reducible refine Kd.C_alloc ?_ _)|(with_reducible refine Kd.C_drewN ?_ _)|(with_reducible refine Kd.C_drew ?_)));(case side2=>exact(Kd.Q_reads' HO_754001.out).2.1);(case side3=>repeat(first|exact(Kd.V_reads' HO_755002.out).2.2|(with_reducible refine Kd.C_alloc ?_ _)|(with_reducible refine Kd.C_drewN ?_ _)|(with_reducible refine Kd.C_drew ?_)));(case side4=>exact(Kd.V_reads' HO_755002.out).2.1);rintro e w43 ⟨rfl,hb⟩;refine⟨_,rfl,?_⟩;replace HO_754001:=Aside0.mk (Kd.Q_below (za18 HO_754001) hb);replace HO_755002:=Aside0.mk (Kd.V_below (za19 HO_755002) hb);replace BK753:=Aside0.mk (qaa (zB BK753) hb);replace BK754:=Aside0.mk (qaa (zB BK754) hb);replace HB:=Aside0.mk (qab (za2 HB GE753 GE754) hb);(try clear hb)))
     go_ret
     exact⟨za9,za2 HB GE753 GE754⟩
    ·replace c38:=Bool.eq_false_iff.mpr c38
     subst c38
     have H1:(if 0≤(wrap64 (t749 - 1)) then(if(wrap64 (t749 - 1))<(t745.length:Int) then(if t748=1 then(if((rd_T46 t745 (wrap64 (t749 - 1))).f1)=0 then(if 0<(t750.length:Int) then((impl_StockFree.f kj4 t744 t745).bind fun t762=>(some (t755 == (decide ((rd t750 0)≤t762))))) else(none)) else(some (t755 == false))) else(if t748=2 then(some (t755 == (((rd_T46 t745 (wrap64 (t749 - 1))).f1) == 1))) else(if t748=3 then(if((rd_T46 t745 (wrap64 (t749 - 1))).f1)=1 then(some (t755 == true)) else(some (t755 == (((rd_T46 t745 (wrap64 (t749 - 1))).f1) == 0)))) else(some (!t755))))) else(none)) else(none))=some r:=by rw[if_neg (show ¬(false=true) by decide)] at H;exact H
     clear H
     have H:=H1
     clear H1
     obtain⟨ji44,hji44⟩:∃j_:Int,(wrap64 (t749 - 1))=j_:=⟨_,rfl⟩
     replace H:(if 0≤(ji44) then(if(ji44)<(t745.length:Int) then(if t748=1 then(if((rd_T46 t745 (ji44)).f1)=0 then(if 0<(t750.length:Int) then((impl_StockFree.f kj4 t744 t745).bind fun t762=>(some (t755 == (decide ((rd t750 0)≤t762))))) else(none)) else(some (t755 == false))) else(if t748=2 then(some (t755 == (((rd_T46 t745 (ji44)).f1) == 1))) else(if t748=3 then(if((rd_T46 t745 (ji44)).f1)=1 then(some (t755 == true)) else(some (t755 == (((rd_T46 t745 (ji44)).f1) == 0)))) else(some (!t755))))) else(none)) else(none))=some r:=by first|(rw[hji44] at H;exact H)|(simp only[hji44] at H ⊢;exact H)
     have hji44w:(IntKind.i64.wrap (t749 - 1))=ji44:=(qaj _).trans hji44
     by_cases c45:0≤(ji44)
     ·rw[if_pos c45] at H
      have c45b0:decide (0≤(ji44))=true:=decide_eq_true c45
      clear c45
      by_cases c46:(ji44)<(t745.length:Int)
      ·rw[if_pos c46] at H
       have c46b0:decide ((ji44)<(t745.length:Int))=true:=decide_eq_true c46
       clear c46
       by_cases c47:t748=1
       ·rw[if_pos c47] at H
        have c47b0:(t748 == 1)=true:=beq_iff_eq.mpr c47
        have c47b1:(t748 != 1)=false:=bne_eq_false_iff_eq.mpr c47
        clear c47
        by_cases c48:((rd_T46 t745 (ji44)).f1)=0
        ·rw[if_pos c48] at H
         have c48b0:(((rd_T46 t745 (ji44)).f1) == 0)=true:=beq_iff_eq.mpr c48
         have c48b1:(((rd_T46 t745 (ji44)).f1) != 0)=false:=bne_eq_false_iff_eq.mpr c48
         clear c48
         by_cases c49:0<(t750.length:Int)
         ·rw[if_pos c49] at H
          have c49b0:decide (0<(t750.length:Int))=true:=decide_eq_true c49
          have c49b1:decide (0<t750.length)=true:=decide_eq_true (by omega)
          clear c49
          replace H:=Option.bind_eq_some_iff.mp H
          obtain⟨t762,A500,H⟩:=H
          replace H:(some (t755 == (decide ((rd t750 0)≤t762))))=some r:=H
          have A50:=Aside0.mk A500
          clear A500
          obtain rfl:=Option.some.inj H
          have hnb51:=NB753_754.out
          have hnc51:=NB754_753.out
          obtain⟨hcz52_0,hcz52_1,hfz52_0,hfz52_1⟩:=zC2 BK753
          obtain⟨hcz53_0,hcz53_1,hcz53_2,hfz53_0,hfz53_1,hfz53_2⟩:=zC3 BK754
          have p760:0≤((ji44):Int):=of_decide_eq_true (za5)
          have q760:(ji44)<(t745.length:Int):=of_decide_eq_true (za5)
          obtain⟨ad760,e760,hx760_0,hx760_1⟩:=at_T46 (Kd.Q_reads' HO_754001.out).2.2 (ji44) p760 q760
          cases e760
          replace p760:=eq_true p760
          replace q760:=eq_true q760
          try go_wp2
          replace HO_754001:=Aside0.mk (Kd.Q_drew HO_754001.out)
          replace HO_755002:=Aside0.mk (Kd.V_drew HO_755002.out)
          replace BK753:=Aside0.mk (blk_drew BK753.out)
          replace BK754:=Aside0.mk (blk_drew BK754.out)
          replace HB:=Aside0.mk (qae HB.out)
          have p761:0≤(0:Int):=(by omega)
          have q761:0<(t750.length:Int):=of_decide_eq_true (za5)
          obtain⟨ad761,e761,hx761_0⟩:=Kd.at_int (Kd.V_reads' HO_755002.out).2.2 0 p761 q761
          cases e761
          have qi761:(0<t750.length)=True:=eq_true (by omega)
          (try rw[show((0:Int)).toNat=0 from rfl] at hx761_0)
          (try rw[Addr.add_zero'] at hx761_0)
          replace p761:=eq_true p761
          replace q761:=eq_true q761
          refine start_ (n:=14) (S:=fun w'=>w'.cell? ⟨gb754,0,none⟩=some (.int .i64 t748)∧w'.cell? ⟨gb754,1,none⟩=some (.int .i64 t749)∧w'.cell? ⟨gb754,2,none⟩=some (.slice (some ad761) t750.length co13)∧w'.cell? ⟨gb753,0,none⟩=some (.int .i64 t744)∧w'.cell? ⟨gb753,1,none⟩=some (.slice (some ad760) t745.length co11)∧w'.cell? ad761=some (.int .i64 (rd t750 0))) (ds:=[]) #[false,false,false,false,false,false,false,false,false,false,false,false,false,false] (by kernel_rfl) rfl rfl ⟨(blk_cell BK754.out 0).trans rfl,(blk_cell BK754.out 1).trans rfl,(blk_cell BK754.out 2).trans rfl,(blk_cell BK753.out 0).trans rfl,(blk_cell BK753.out 1).trans rfl,hx761_0⟩ (fun hHeld=>?_);refine with_tabW laws_FnStockMay.tab10 laws_FnStockMay.bits10 (fun HT_ HW_=>?_)
          generalize wc.drew=w54 at HO_754001 HO_755002 BK753 BK754 HB hx761_0 hHeld ⊢
          refine qar (i:=0) (N:=some 50) (v:=?_) (a':=?_) #[true,false,false,false,false,false,false,false,false,false,false,false,false,false] rfl rfl (qan HT_.out (by kernel_rfl)) (fun _ _ _ h=>h) (Or.inl ⟨by rfl,?_⟩) ?_ ?_
          rotate_left
          ·intro w'
           go_simp
           with_reducible rfl
          rotate_left
          ·simp only[Act.put,List.setIfInBounds_toArray,List.set_cons_zero,List.set_cons_succ,qaj,qak]
           rfl
          refine qar (i:=1) (N:=some 51) (v:=?_) (a':=?_) #[true,true,false,false,false,false,false,false,false,false,false,false,false,false] rfl rfl (qan HT_.out (by kernel_rfl)) (fun _ _ _ h=>h) (Or.inl ⟨by rfl,?_⟩) ?_ ?_
          rotate_left
          ·intro w'
           go_simp
           with_reducible rfl
          rotate_left
          ·simp only[Act.put,List.setIfInBounds_toArray,List.set_cons_zero,List.set_cons_succ,qaj,qak]
           rfl
          refine qar (i:=2) (N:=some 52) (v:=?_) (a':=?_) #[true,true,true,false,false,false,false,false,false,false,false,false,false,false] rfl rfl (qan HT_.out (by kernel_rfl)) (fun _ _ _ h=>h) (Or.inl ⟨by rfl,?_⟩) ?_ ?_
          rotate_left
          ·intro w'
           go_simp
           with_reducible rfl
          rotate_left
          ·simp only[Act.put,List.setIfInBounds_toArray,List.set_cons_zero,List.set_cons_succ,qaj,qak]
           rfl
          refine qar (i:=3) (N:=some 53) (v:=?_) (a':=?_) #[true,true,true,true,false,false,false,false,false,false,false,false,false,false] rfl rfl (qan HT_.out (by kernel_rfl)) (fun _ _ _ h=>h) (Or.inl ⟨by rfl,?_⟩) ?_ ?_
          rotate_left
          ·intro w'
           go_simp
           with_reducible rfl
          rotate_left
          ·simp only[Act.put,List.setIfInBounds_toArray,List.set_cons_zero,List.set_cons_succ,qaj,qak]
           rfl
          refine qar (i:=4) (N:=some 54) (v:=?_) (a':=?_) #[true,true,true,true,true,false,false,false,false,false,false,false,false,false] rfl rfl (qan HT_.out (by kernel_rfl)) (fun _ _ _ h=>h) (Or.inl ⟨by rfl,?_⟩) ?_ ?_
          rotate_left
          ·intro w'
           go_simp
           with_reducible rfl
          rotate_left
          ·simp only[Act.put,List.setIfInBounds_toArray,List.set_cons_zero,List.set_cons_succ,qaj,qak]
           rfl
          refine take_ (i:=5) (N:=some 55) (v:=?_) (a':=?_) #[true,true,true,true,true,true,false,false,false,false,false,false,false,false] rfl rfl (take_ofW HT_.out HW_.out (by kernel_rfl)) (fun _ _ _ h=>h) (Or.inl ⟨by rfl,?_⟩) hHeld ?_ ?_
          rotate_left
          ·rintro w' ⟨s0,s1,s2,s3,s4,s5⟩
           go_simp
           with_reducible rfl
          rotate_left
          ·simp only[Act.put,List.setIfInBounds_toArray,List.set_cons_zero,List.set_cons_succ,qaj,qak]
           rfl
          refine qar (i:=6) (N:=some 56) (v:=?_) (a':=?_) #[true,true,true,true,true,true,true,false,false,false,false,false,false,false] rfl rfl (qan HT_.out (by kernel_rfl)) (fun _ _ _ h=>h) (Or.inl ⟨by rfl,?_⟩) ?_ ?_
          rotate_left
          ·intro w'
           go_simp
           with_reducible rfl
          rotate_left
          ·simp only[Act.put,List.setIfInBounds_toArray,List.set_cons_zero,List.set_cons_succ,qaj,qak]
           rfl
          refine take_ (i:=7) (N:=some 57) (v:=?_) (a':=?_) #[true,true,true,true,true,true,true,true,false,false,false,false,false,false] rfl rfl (take_ofW HT_.out HW_.out (by kernel_rfl)) (fun _ _ _ h=>h) (Or.inl ⟨by rfl,?_⟩) hHeld ?_ ?_
          rotate_left
          ·rintro w' ⟨s0,s1,s2,s3,s4,s5⟩
           go_simp
           with_reducible rfl
          rotate_left
          ·simp only[Act.put,List.setIfInBounds_toArray,List.set_cons_zero,List.set_cons_succ,qaj,qak]
           rfl
          refine take_ (i:=8) (N:=some 58) (v:=?_) (a':=?_) #[true,true,true,true,true,true,true,true,true,false,false,false,false,false] rfl rfl (take_ofW HT_.out HW_.out (by kernel_rfl)) (fun _ _ _ h=>h) (Or.inl ⟨by rfl,?_⟩) hHeld ?_ ?_
          rotate_left
          ·rintro w' ⟨s0,s1,s2,s3,s4,s5⟩
           go_simp
           with_reducible rfl
          rotate_left
          ·simp only[Act.put,List.setIfInBounds_toArray,List.set_cons_zero,List.set_cons_succ,qaj,qak]
           rfl
          refine one_ (i:=9) (N:=some 59) #[true,true,true,true,true,true,true,true,true,true,false,false,false,false] rfl rfl (one_of HT_.out (by kernel_rfl)) (by decide) (fun K hK=>?_)
          refine goes_ Try.func26 (by kernel_rfl) rfl #[.agg #[.int .i64 t744,.slice (some ad760) t745.length co11]] (by rfl) rfl rfl (by(try simp only[List.map_toArray,List.map_cons,List.map_nil]);first|done|rfl|(simp only[List.length_drop,List.length_take];rfl)) ?_
          with_reducible refine(impl_StockFree.calls kj4 t744 _ _ t745 t762 _ ?side1 ?side2 A50.out).mono ?_
          (case side1=>repeat(first|exact(Kd.Q_reads' HO_754001.out).2.2|(with_reducible refine Kd.C_alloc ?_ _)|(with_reducible refine Kd.C_drewN ?_ _)|(with_reducible refine Kd.C_drew ?_)))
          (case side2=>exact(Kd.Q_reads' HO_754001.out).2.1)
          rintro e w55 ⟨rfl,hb⟩
          have HS5_:=(hb.cell (World.block_lt_of_cell? _ _ (hHeld.2.2.2.2.2))).trans (hHeld.2.2.2.2.2)
          refine⟨_,rfl,?_⟩
          replace HO_754001:=Aside0.mk (Kd.Q_below (za18 HO_754001) hb)
          replace HO_755002:=Aside0.mk (Kd.V_below (za19 HO_755002) hb)
          replace BK753:=Aside0.mk (qaa (zB BK753) hb)
          replace BK754:=Aside0.mk (qaa (zB BK754) hb)
          replace HB:=Aside0.mk (qab (za2 HB GE753 GE754) hb)
          (try clear hb)
          (try clear hb2)
          (try clear hk)
          (try clear hi)
          refine hK.out _ _ ⟨(blk_cell BK754.out 0).trans rfl,(blk_cell BK754.out 1).trans rfl,(blk_cell BK754.out 2).trans rfl,(blk_cell BK753.out 0).trans rfl,(blk_cell BK753.out 1).trans rfl,HS5_⟩ (fun hHeld=>?_)
          clear hK K
          refine norm_ (a':=?_) ?_ ?_
          rotate_left
          ·show Act.put _ (some 59) _=_
           simp only[Act.put,List.setIfInBounds_toArray,List.set_cons_zero,List.set_cons_succ,qaj,qak]
           rfl
          refine qar (i:=10) (N:=some 60) (v:=?_) (a':=?_) #[true,true,true,true,true,true,true,true,true,true,true,false,false,false] rfl rfl (qan HT_.out (by kernel_rfl)) (fun _ _ _ h=>h) (Or.inl ⟨by rfl,?_⟩) ?_ ?_
          rotate_left
          ·intro w'
           go_simp
           with_reducible rfl
          rotate_left
          ·simp only[Act.put,List.setIfInBounds_toArray,List.set_cons_zero,List.set_cons_succ,qaj,qak]
           rfl
          refine qar (i:=11) (N:=some 61) (v:=?_) (a':=?_) #[true,true,true,true,true,true,true,true,true,true,true,true,false,false] rfl rfl (qan HT_.out (by kernel_rfl)) (fun _ _ _ h=>h) (Or.inl ⟨by rfl,?_⟩) ?_ ?_
          rotate_left
          ·intro w'
           go_simp
           with_reducible rfl
          rotate_left
          ·simp only[Act.put,List.setIfInBounds_toArray,List.set_cons_zero,List.set_cons_succ,qaj,qak]
           rfl
          refine qar (i:=12) (N:=some 62) (v:=?_) (a':=?_) #[true,true,true,true,true,true,true,true,true,true,true,true,true,false] rfl rfl (qan HT_.out (by kernel_rfl)) (fun _ _ _ h=>h) (Or.inl ⟨by rfl,?_⟩) ?_ ?_
          rotate_left
          ·intro w'
           go_simp
           with_reducible rfl
          rotate_left
          ·simp only[Act.put,List.setIfInBounds_toArray,List.set_cons_zero,List.set_cons_succ,qaj,qak]
           rfl
          refine qar (i:=13) (N:=some 2) (v:=?_) (a':=?_) #[true,true,true,true,true,true,true,true,true,true,true,true,true,true] rfl rfl (qan HT_.out (by kernel_rfl)) (fun _ _ _ h=>h) (Or.inl ⟨by rfl,?_⟩) ?_ ?_
          rotate_left
          ·intro w'
           go_simp
           with_reducible rfl
          rotate_left
          ·simp only[Act.put,List.setIfInBounds_toArray,List.set_cons_zero,List.set_cons_succ,qaj,qak]
           rfl
          refine done_ (done_of HT_.out (by kernel_rfl)) ?_
          try go_wp2
          go_ret
          exact⟨by first|rfl|(simp[qam,qal]<;>rfl)|(simp only[←hji44];first|rfl|(simp[qam,qal]<;>rfl))|(simp[*,qam,qal]<;>rfl),za2 HB GE753 GE754⟩
         ·rw[if_neg c49] at H
          exact absurd H (by simp)
        ·rw[if_neg c48] at H
         have c48b0:(((rd_T46 t745 (ji44)).f1) == 0)=false:=beq_eq_false_iff_ne.mpr c48
         have c48b1:(((rd_T46 t745 (ji44)).f1) != 0)=true:=bne_iff_ne.mpr c48
         obtain rfl:=Option.some.inj H
         have hnb56:=NB753_754.out
         have hnc56:=NB754_753.out
         obtain⟨hcz57_0,hcz57_1,hfz57_0,hfz57_1⟩:=zC2 BK753
         obtain⟨hcz58_0,hcz58_1,hcz58_2,hfz58_0,hfz58_1,hfz58_2⟩:=zC3 BK754
         have p760:0≤((ji44):Int):=of_decide_eq_true (za5)
         have q760:(ji44)<(t745.length:Int):=of_decide_eq_true (za5)
         obtain⟨ad760,e760,hx760_0,hx760_1⟩:=at_T46 (Kd.Q_reads' HO_754001.out).2.2 (ji44) p760 q760
         cases e760
         replace p760:=eq_true p760
         replace q760:=eq_true q760
         try go_wp2
         replace HO_754001:=Aside0.mk (Kd.Q_drew HO_754001.out)
         replace HO_755002:=Aside0.mk (Kd.V_drew HO_755002.out)
         replace BK753:=Aside0.mk (blk_drew BK753.out)
         replace BK754:=Aside0.mk (blk_drew BK754.out)
         replace HB:=Aside0.mk (qae HB.out)
         refine start_ (n:=14) (S:=fun w'=>True) (ds:=[]) #[false,false,false,false,false,false,false,false,false,false,false,false,false,false] (by kernel_rfl) rfl rfl trivial (fun hHeld=>?_);refine with_tabW laws_FnStockMay.tab10 laws_FnStockMay.bits10 (fun HT_ HW_=>?_)
         generalize wc.drew=w59 at HO_754001 HO_755002 BK753 BK754 HB hHeld ⊢
         refine qar (i:=0) (N:=some 50) (v:=?_) (a':=?_) #[true,false,false,false,false,false,false,false,false,false,false,false,false,false] rfl rfl (qan HT_.out (by kernel_rfl)) (fun _ _ _ h=>h) (Or.inl ⟨by rfl,?_⟩) ?_ ?_
         rotate_left
         ·intro w'
          go_simp
          with_reducible rfl
         rotate_left
         ·simp only[Act.put,List.setIfInBounds_toArray,List.set_cons_zero,List.set_cons_succ,qaj,qak]
          rfl
         refine qar (i:=1) (N:=some 51) (v:=?_) (a':=?_) #[true,true,false,false,false,false,false,false,false,false,false,false,false,false] rfl rfl (qan HT_.out (by kernel_rfl)) (fun _ _ _ h=>h) (Or.inl ⟨by rfl,?_⟩) ?_ ?_
         rotate_left
         ·intro w'
          go_simp
          with_reducible rfl
         rotate_left
         ·simp only[Act.put,List.setIfInBounds_toArray,List.set_cons_zero,List.set_cons_succ,qaj,qak]
          rfl
         refine qar (i:=2) (N:=some 52) (v:=?_) (a':=?_) #[true,true,true,false,false,false,false,false,false,false,false,false,false,false] rfl rfl (qan HT_.out (by kernel_rfl)) (fun _ _ _ h=>h) (Or.inl ⟨by rfl,?_⟩) ?_ ?_
         rotate_left
         ·intro w'
          go_simp
          with_reducible rfl
         rotate_left
         ·simp only[Act.put,List.setIfInBounds_toArray,List.set_cons_zero,List.set_cons_succ,qaj,qak]
          rfl
         refine qar (i:=3) (N:=some 53) (v:=?_) (a':=?_) #[true,true,true,true,false,false,false,false,false,false,false,false,false,false] rfl rfl (qan HT_.out (by kernel_rfl)) (fun _ _ _ h=>h) (Or.inl ⟨by rfl,?_⟩) ?_ ?_
         rotate_left
         ·intro w'
          go_simp
          with_reducible rfl
         rotate_left
         ·simp only[Act.put,List.setIfInBounds_toArray,List.set_cons_zero,List.set_cons_succ,qaj,qak]
          rfl
         refine qar (i:=4) (N:=some 54) (v:=undef) (a':=?_) #[true,true,true,true,true,false,false,false,false,false,false,false,false,false] rfl rfl (qan HT_.out (by kernel_rfl)) (fun _ _ _ h=>h) (Or.inr ⟨by rfl,rfl⟩) ?_ ?_
         rotate_left
         ·simp only[Act.put,List.setIfInBounds_toArray,List.set_cons_zero,List.set_cons_succ,qaj,qak]
          rfl
         refine qar (i:=5) (N:=some 55) (v:=undef) (a':=?_) #[true,true,true,true,true,true,false,false,false,false,false,false,false,false] rfl rfl (qan HT_.out (by kernel_rfl)) (fun _ _ _ h=>h) (Or.inr ⟨by rfl,rfl⟩) ?_ ?_
         rotate_left
         ·simp only[Act.put,List.setIfInBounds_toArray,List.set_cons_zero,List.set_cons_succ,qaj,qak]
          rfl
         refine qar (i:=6) (N:=some 56) (v:=undef) (a':=?_) #[true,true,true,true,true,true,true,false,false,false,false,false,false,false] rfl rfl (qan HT_.out (by kernel_rfl)) (fun _ _ _ h=>h) (Or.inr ⟨by rfl,rfl⟩) ?_ ?_
         rotate_left
         ·simp only[Act.put,List.setIfInBounds_toArray,List.set_cons_zero,List.set_cons_succ,qaj,qak]
          rfl
         refine qar (i:=7) (N:=some 57) (v:=undef) (a':=?_) #[true,true,true,true,true,true,true,true,false,false,false,false,false,false] rfl rfl (qan HT_.out (by kernel_rfl)) (fun _ _ _ h=>h) (Or.inr ⟨by rfl,rfl⟩) ?_ ?_
         rotate_left
         ·simp only[Act.put,List.setIfInBounds_toArray,List.set_cons_zero,List.set_cons_succ,qaj,qak]
          rfl
         refine qar (i:=8) (N:=some 58) (v:=undef) (a':=?_) #[true,true,true,true,true,true,true,true,true,false,false,false,false,false] rfl rfl (qan HT_.out (by kernel_rfl)) (fun _ _ _ h=>h) (Or.inr ⟨by rfl,rfl⟩) ?_ ?_
         rotate_left
         ·simp only[Act.put,List.setIfInBounds_toArray,List.set_cons_zero,List.set_cons_succ,qaj,qak]
          rfl
         refine qar (i:=9) (N:=some 59) (v:=undef) (a':=?_) #[true,true,true,true,true,true,true,true,true,true,false,false,false,false] rfl rfl (qan HT_.out (by kernel_rfl)) (fun _ _ _ h=>h) (Or.inr ⟨by rfl,rfl⟩) ?_ ?_
         rotate_left
         ·simp only[Act.put,List.setIfInBounds_toArray,List.set_cons_zero,List.set_cons_succ,qaj,qak]
          rfl
         refine qar (i:=10) (N:=some 60) (v:=undef) (a':=?_) #[true,true,true,true,true,true,true,true,true,true,true,false,false,false] rfl rfl (qan HT_.out (by kernel_rfl)) (fun _ _ _ h=>h) (Or.inr ⟨by rfl,rfl⟩) ?_ ?_
         rotate_left
         ·simp only[Act.put,List.setIfInBounds_toArray,List.set_cons_zero,List.set_cons_succ,qaj,qak]
          rfl
         refine qar (i:=11) (N:=some 61) (v:=?_) (a':=?_) #[true,true,true,true,true,true,true,true,true,true,true,true,false,false] rfl rfl (qan HT_.out (by kernel_rfl)) (fun _ _ _ h=>h) (Or.inl ⟨by rfl,?_⟩) ?_ ?_
         rotate_left
         ·intro w'
          go_simp
          with_reducible rfl
         rotate_left
         ·simp only[Act.put,List.setIfInBounds_toArray,List.set_cons_zero,List.set_cons_succ,qaj,qak]
          rfl
         refine qar (i:=12) (N:=some 62) (v:=?_) (a':=?_) #[true,true,true,true,true,true,true,true,true,true,true,true,true,false] rfl rfl (qan HT_.out (by kernel_rfl)) (fun _ _ _ h=>h) (Or.inl ⟨by rfl,?_⟩) ?_ ?_
         rotate_left
         ·intro w'
          go_simp
          with_reducible rfl
         rotate_left
         ·simp only[Act.put,List.setIfInBounds_toArray,List.set_cons_zero,List.set_cons_succ,qaj,qak]
          rfl
         refine qar (i:=13) (N:=some 2) (v:=?_) (a':=?_) #[true,true,true,true,true,true,true,true,true,true,true,true,true,true] rfl rfl (qan HT_.out (by kernel_rfl)) (fun _ _ _ h=>h) (Or.inl ⟨by rfl,?_⟩) ?_ ?_
         rotate_left
         ·intro w'
          go_simp
          with_reducible rfl
         rotate_left
         ·simp only[Act.put,List.setIfInBounds_toArray,List.set_cons_zero,List.set_cons_succ,qaj,qak]
          rfl
         refine done_ (done_of HT_.out (by kernel_rfl)) ?_
         try go_wp2
         go_ret
         exact⟨by first|rfl|(simp[qam,qal]<;>rfl)|(simp only[←hji44];first|rfl|(simp[qam,qal]<;>rfl))|(simp[*,qam,qal]<;>rfl),za2 HB GE753 GE754⟩
       ·rw[if_neg c47] at H
        have c47b0:(t748 == 1)=false:=beq_eq_false_iff_ne.mpr c47
        have c47b1:(t748 != 1)=true:=bne_iff_ne.mpr c47
        by_cases c60:t748=2
        ·rw[if_pos c60] at H
         have c60b0:(t748 == 2)=true:=beq_iff_eq.mpr c60
         have c60b1:(t748 != 2)=false:=bne_eq_false_iff_eq.mpr c60
         clear c60
         obtain rfl:=Option.some.inj H
         have hnb61:=NB753_754.out
         have hnc61:=NB754_753.out
         obtain⟨hcz62_0,hcz62_1,hfz62_0,hfz62_1⟩:=zC2 BK753
         obtain⟨hcz63_0,hcz63_1,hcz63_2,hfz63_0,hfz63_1,hfz63_2⟩:=zC3 BK754
         have p760:0≤((ji44):Int):=of_decide_eq_true (za5)
         have q760:(ji44)<(t745.length:Int):=of_decide_eq_true (za5)
         obtain⟨ad760,e760,hx760_0,hx760_1⟩:=at_T46 (Kd.Q_reads' HO_754001.out).2.2 (ji44) p760 q760
         cases e760
         replace p760:=eq_true p760
         replace q760:=eq_true q760
         go_wp2
         go_ret
         exact⟨by first|rfl|(simp[qam,qal]<;>rfl)|(simp only[←hji44];first|rfl|(simp[qam,qal]<;>rfl))|(simp[*,qam,qal]<;>rfl),za2 HB GE753 GE754⟩
        ·rw[if_neg c60] at H
         have c60b0:(t748 == 2)=false:=beq_eq_false_iff_ne.mpr c60
         have c60b1:(t748 != 2)=true:=bne_iff_ne.mpr c60
         by_cases c64:t748=3
         ·rw[if_pos c64] at H
          have c64b0:(t748 == 3)=true:=beq_iff_eq.mpr c64
          have c64b1:(t748 != 3)=false:=bne_eq_false_iff_eq.mpr c64
          clear c64
          by_cases c65:((rd_T46 t745 (ji44)).f1)=1
          ·rw[if_pos c65] at H
           have c65b0:(((rd_T46 t745 (ji44)).f1) == 1)=true:=beq_iff_eq.mpr c65
           have c65b1:(((rd_T46 t745 (ji44)).f1) != 1)=false:=bne_eq_false_iff_eq.mpr c65
           clear c65
           obtain rfl:=Option.some.inj H
           have hnb66:=NB753_754.out
           have hnc66:=NB754_753.out
           obtain⟨hcz67_0,hcz67_1,hfz67_0,hfz67_1⟩:=zC2 BK753
           obtain⟨hcz68_0,hcz68_1,hcz68_2,hfz68_0,hfz68_1,hfz68_2⟩:=zC3 BK754
           have p760:0≤((ji44):Int):=of_decide_eq_true (za5)
           have q760:(ji44)<(t745.length:Int):=of_decide_eq_true (za5)
           obtain⟨ad760,e760,hx760_0,hx760_1⟩:=at_T46 (Kd.Q_reads' HO_754001.out).2.2 (ji44) p760 q760
           cases e760
           replace p760:=eq_true p760
           replace q760:=eq_true q760
           go_wp2
           go_ret
           exact⟨by first|rfl|(simp[qam,qal]<;>rfl)|(simp only[←hji44];first|rfl|(simp[qam,qal]<;>rfl))|(simp[*,qam,qal]<;>rfl),za2 HB GE753 GE754⟩
          ·rw[if_neg c65] at H
           have c65b0:(((rd_T46 t745 (ji44)).f1) == 1)=false:=beq_eq_false_iff_ne.mpr c65
           have c65b1:(((rd_T46 t745 (ji44)).f1) != 1)=true:=bne_iff_ne.mpr c65
           obtain rfl:=Option.some.inj H
           have hnb69:=NB753_754.out
           have hnc69:=NB754_753.out
           obtain⟨hcz70_0,hcz70_1,hfz70_0,hfz70_1⟩:=zC2 BK753
           obtain⟨hcz71_0,hcz71_1,hcz71_2,hfz71_0,hfz71_1,hfz71_2⟩:=zC3 BK754
           have p760:0≤((ji44):Int):=of_decide_eq_true (za5)
           have q760:(ji44)<(t745.length:Int):=of_decide_eq_true (za5)
           obtain⟨ad760,e760,hx760_0,hx760_1⟩:=at_T46 (Kd.Q_reads' HO_754001.out).2.2 (ji44) p760 q760
           cases e760
           replace p760:=eq_true p760
           replace q760:=eq_true q760
           go_wp2
           go_ret
           exact⟨by first|rfl|(simp[qam,qal]<;>rfl)|(simp only[←hji44];first|rfl|(simp[qam,qal]<;>rfl))|(simp[*,qam,qal]<;>rfl),za2 HB GE753 GE754⟩
         ·rw[if_neg c64] at H
          have c64b0:(t748 == 3)=false:=beq_eq_false_iff_ne.mpr c64
          have c64b1:(t748 != 3)=true:=bne_iff_ne.mpr c64
          obtain rfl:=Option.some.inj H
          have hnb72:=NB753_754.out
          have hnc72:=NB754_753.out
          obtain⟨hcz73_0,hcz73_1,hfz73_0,hfz73_1⟩:=zC2 BK753
          obtain⟨hcz74_0,hcz74_1,hcz74_2,hfz74_0,hfz74_1,hfz74_2⟩:=zC3 BK754
          have p760:0≤((ji44):Int):=of_decide_eq_true (za5)
          have q760:(ji44)<(t745.length:Int):=of_decide_eq_true (za5)
          obtain⟨ad760,e760,hx760_0,hx760_1⟩:=at_T46 (Kd.Q_reads' HO_754001.out).2.2 (ji44) p760 q760
          cases e760
          replace p760:=eq_true p760
          replace q760:=eq_true q760
          go_wp2
          go_ret
          exact⟨by first|rfl|(simp[qam,qal]<;>rfl)|(simp only[←hji44];first|rfl|(simp[qam,qal]<;>rfl))|(simp[*,qam,qal]<;>rfl),za2 HB GE753 GE754⟩
      ·rw[if_neg c46] at H
       exact absurd H (by simp)
     ·rw[if_neg c45] at H
      exact absurd H (by simp)
def laws_FnStockMay.Pure:Prop:=∀(l0:List Int),l0.length≤maxLen→l0.length*1≤140737488351232→(∀x ∈ l0,(Lit.int .u8 x).wf=true)→∃k,laws_FnStockMay.f k l0=some true
theorem laws_FnStockMay.walk (P:laws_FnStockMay.Pure) (a0:Option Addr) (len0 cap0:Nat) (z0:List Int) (w:World) (w0:(a0=none∧len0=0∧cap0=0∧z0=[])∨∃x,a0=some x∧len0≤cap0∧cap0≤maxLen∧z0.length=cap0∧(∀i,i<z0.length→w.cell? (x.add i)=some (.int .u8 (z0.getD i 0)))∧∀n ∈ z0,(Lit.int .u8 n).wf=true) (y0:len0*1≤140737488351232) :
  Calls Try.prog 9 #[.slice a0 len0 cap0] w fun e w'=>e=.returned (.bool true)∧Below w.heap.size w w':=by
 obtain⟨l0,rfl,hr0,hm0,hw0,hc0⟩:=ReadsInt.ofRowC w0
 obtain⟨k,h⟩:=P l0 hm0 y0 hw0
 refine(laws_FnStockMay.calls k _ _ l0 true w (Kd.C_of_reads (d:=(0:Int)) (h1:=fun _=>rfl) hr0) hc0 h).mono ?_
 rintro e w' ⟨rfl,hd⟩
 exact⟨rfl,hd⟩
end Go.Proofs.Ytjccnaklodbbfaa.Print
