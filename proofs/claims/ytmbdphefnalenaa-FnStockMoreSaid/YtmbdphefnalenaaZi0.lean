-- Written by squeeze.py: not trusted, Lean checks it.
import Derived.Test.YtmbdphefnalenaaZK
import Derived.Test.YtmbdphefnalenaaZa0
import Derived.Test.YtmbdphefnalenaaZd0
import Derived.Test.YtmbdphefnalenaaZe0
import Derived.Test.YtmbdphefnalenaaZf0
import Derived.Test.YtmbdphefnalenaaZh0
namespace Go.Proofs.Ytmbdphefnalenaa.Print
open Go.RowKit Go.Proofs.YtmbdphefnalenaaW.PrintWords Go.Proofs.YtmbdphefnalenaaW.PrintLast Go.Proofs.YtmbdphefnalenaaW.PrintMore
attribute [local go_sem] max2_int min2_int max_two min_two max_three min_three max_four min_four
set_option linter.unusedVariables false
set_option linter.unusedSimpArgs false
def laws_FnStockMore.j0:Nat→Int→List (S32)→Bool→Bool→Bool→Int→List (S49)→Int→List (S49)→Option (Bool)
 |0,_,_,_,_,_,_,_,_,_=>none
 |k+1,x3,x4,x6,x8,x47,x575000,x575001,x581000,x581001=>if x47=true then(if(x8 == x6)=true then((laws_lnStock.f k x581000 x581001 x575000 x575001).bind fun t582=>(some t582)) else(some false)) else((impl_StockOf.f k (wrap64 (x3+1)) x4).bind fun bt583=>(if bt583.2.2=true then((impl_StockFree.f k bt583.1 bt583.2.1).bind fun t589=>((impl_StockFree.f k x581000 x581001).bind fun t590=>(if t589=(wrap64 (t590+1)) then(some (bt583.1 == (wrap64 (x3+1)))) else(some false)))) else(some false)))
def laws_FnStockMore.f (k:Nat) (l0:List Int):Option (Bool):=if(l0.length:Int)>1048576 then(some true) else((spec_DrawStockOf.f k l0).bind fun bt565=>((spec_StockOf.f k bt565.1 bt565.2).bind fun bt569=>((impl_StockOf.f k bt565.1 bt565.2).bind fun bt575=>(if(bt575.2.2 != bt569.2.2)=true then(laws_FnStockMore.j0 k bt565.1 bt565.2 bt569.2.2 bt575.2.2 true bt569.1 bt569.2.1 bt575.1 bt575.2.1) else((laws_lnStock.f k bt575.1 bt575.2.1 bt569.1 bt569.2.1).bind fun t581=>(if t581=true then(if bt575.2.2=true then(laws_FnStockMore.j0 k bt565.1 bt565.2 bt569.2.2 bt575.2.2 (bt565.1 == 9) bt569.1 bt569.2.1 bt575.1 bt575.2.1) else(laws_FnStockMore.j0 k bt565.1 bt565.2 bt569.2.2 bt575.2.2 true bt569.1 bt569.2.1 bt575.1 bt575.2.1)) else(laws_FnStockMore.j0 k bt565.1 bt565.2 bt569.2.2 bt575.2.2 true bt569.1 bt569.2.1 bt575.1 bt575.2.1)))))))
theorem laws_FnStockMore.mono_l:∀k,(∀y0 y1 y2 y3 y4 y5 y6 y7 y8,LeO (laws_FnStockMore.j0 k y0 y1 y2 y3 y4 y5 y6 y7 y8) (laws_FnStockMore.j0 (k+1) y0 y1 y2 y3 y4 y5 y6 y7 y8))
 |0=>fun _ _ _ _ _ _ _ _ _ r h=>by simp[laws_FnStockMore.j0] at h
 |k+1=>by
  have ih0:=laws_FnStockMore.mono_l k
  ·intro y0 y1 y2 y3 y4 y5 y6 y7 y8
   unfold laws_FnStockMore.j0
   repeat' first
   |(with_reducible exact ih0 _ _ _ _ _ _ _ _ _)
   |(with_reducible exact impl_StockFree.mono _ _ _)
   |(with_reducible exact impl_StockOf.mono _ _ _)
   |(with_reducible exact laws_lnStock.mono _ _ _ _ _)
   |(with_reducible exact spec_DrawStockOf.mono _ _)
   |(with_reducible exact spec_StockOf.mono _ _ _)
   |(with_reducible exact LeO.refl _)
   |(with_reducible exact LeO.none _)
   |(with_reducible refine LeO.ite ?_ ?_)
   |(with_reducible refine LeO.bind ?_ (fun _=>?_))
   |exact ih0 _ _ _ _ _ _ _ _ _
   |exact impl_StockFree.mono _ _ _
   |exact impl_StockOf.mono _ _ _
   |exact laws_lnStock.mono _ _ _ _ _
   |exact spec_DrawStockOf.mono _ _
   |exact spec_StockOf.mono _ _ _
   |exact LeO.none _
   |refine LeO.ite ?_ ?_
   |refine LeO.bind ?_ (fun _=>?_)
theorem laws_FnStockMore.mono:∀a0 k,LeO (laws_FnStockMore.f k a0) (laws_FnStockMore.f (k+1) a0):=by
 intro a0 k
 have ih0:=laws_FnStockMore.mono_l k
 unfold laws_FnStockMore.f
 repeat' first
   |(with_reducible exact ih0 _ _ _ _ _ _ _ _ _)
   |(with_reducible exact impl_StockFree.mono _ _ _)
   |(with_reducible exact impl_StockOf.mono _ _ _)
   |(with_reducible exact laws_lnStock.mono _ _ _ _ _)
   |(with_reducible exact spec_DrawStockOf.mono _ _)
   |(with_reducible exact spec_StockOf.mono _ _ _)
   |(with_reducible exact LeO.refl _)
   |(with_reducible exact LeO.none _)
   |(with_reducible refine LeO.ite ?_ ?_)
   |(with_reducible refine LeO.bind ?_ (fun _=>?_))
   |exact ih0 _ _ _ _ _ _ _ _ _
   |exact impl_StockFree.mono _ _ _
   |exact impl_StockOf.mono _ _ _
   |exact laws_lnStock.mono _ _ _ _ _
   |exact spec_DrawStockOf.mono _ _
   |exact spec_StockOf.mono _ _ _
   |exact LeO.none _
   |refine LeO.ite ?_ ?_
   |refine LeO.bind ?_ (fun _=>?_)
def laws_FnStockMore.T9:Bool × List (List Nat × List Nat):=(true,[([],[]),([0],[0]),([1],[1]),([2,1,1],[1,2]),([1],[1]),([4,3,1],[1,4]),([5,1],[1,5]),([3,6,1],[1,3,6]),([1,7],[1,7]),([8,5],[8]),([9],[9]),([10,9],[9,10]),([9],[9]),([12,9],[9,12]),([11,13,9],[9,11,13]),([9,14],[9,14]),([15,9,0,1,2,3,4,5,6,7,8,9,10,11,12,13,14,15],[15])])
def laws_FnStockMore.B9:List Nat:=[0,1,3,7,3,31,63,127,255,511,1023,2047,1023,5119,16383,32767,65535]
theorem laws_FnStockMore.tab9:rtab .any (opsOf Try.f5 9)=laws_FnStockMore.T9:=by kernel_rfl
theorem laws_FnStockMore.bits9:waitsOk laws_FnStockMore.T9.2 laws_FnStockMore.B9=true:=by kernel_rfl
set_option maxHeartbeats 8000000 in
set_option maxRecDepth 100000 in
theorem laws_FnStockMore.calls (k:Nat) (A0:Option Addr) (c0:Nat) (l0:List Int) (r:Bool) (w:World) (hr0:Kd.C (Kd.int .u8) w A0 l0.length l0) (hc0:l0.length≤c0) (h:laws_FnStockMore.f k l0=some r) :
  Calls Try.prog 5 #[.slice A0 l0.length c0] w fun e w'=>e=.returned (.bool r)∧Below w.heap.size w w':=by
 have hu38:=Try.underlying38
 have HR0:=Aside0.mk hr0
 have HC0:=Aside0.mk hc0
 clear hr0 hc0
 have HB:=Aside0.mk (Below.refl w.heap.size w)
 have H:(if(l0.length:Int)>1048576 then(some true) else((spec_DrawStockOf.f k l0).bind fun bt565=>((spec_StockOf.f k bt565.1 bt565.2).bind fun bt569=>((impl_StockOf.f k bt565.1 bt565.2).bind fun bt575=>(if(bt575.2.2 != bt569.2.2)=true then(laws_FnStockMore.j0 k bt565.1 bt565.2 bt569.2.2 bt575.2.2 true bt569.1 bt569.2.1 bt575.1 bt575.2.1) else((laws_lnStock.f k bt575.1 bt575.2.1 bt569.1 bt569.2.1).bind fun t581=>(if t581=true then(if bt575.2.2=true then(laws_FnStockMore.j0 k bt565.1 bt565.2 bt569.2.2 bt575.2.2 (bt565.1 == 9) bt569.1 bt569.2.1 bt575.1 bt575.2.1) else(laws_FnStockMore.j0 k bt565.1 bt565.2 bt569.2.2 bt575.2.2 true bt569.1 bt569.2.1 bt575.1 bt575.2.1)) else(laws_FnStockMore.j0 k bt565.1 bt565.2 bt569.2.2 bt575.2.2 true bt569.1 bt569.2.1 bt575.1 bt575.2.1))))))))=some r:=h
 clear h
 by_cases c2:(l0.length:Int)>1048576
 ·rw[if_pos c2] at H
  have c2b0:decide (1048576<(l0.length:Int))=true:=decide_eq_true c2
  have c2b1:decide (1048576<l0.length)=true:=decide_eq_true (by omega)
  clear c2
  obtain rfl:=Option.some.inj H
  go_enter Try.func5,Try.ntmps5
  go_wp2
  go_ret
  exact⟨za16,za4 HB⟩
 ·rw[if_neg c2] at H
  have c2b0:decide (1048576<(l0.length:Int))=false:=decide_eq_false c2
  have c2b1:decide (1048576<l0.length)=false:=decide_eq_false (by omega)
  clear c2
  replace H:=Option.bind_eq_some_iff.mp H
  obtain⟨⟨t565,t566⟩,A30,H⟩:=H
  replace H:((spec_StockOf.f k t565 t566).bind fun bt569=>((impl_StockOf.f k t565 t566).bind fun bt575=>(if(bt575.2.2 != bt569.2.2)=true then(laws_FnStockMore.j0 k t565 t566 bt569.2.2 bt575.2.2 true bt569.1 bt569.2.1 bt575.1 bt575.2.1) else((laws_lnStock.f k bt575.1 bt575.2.1 bt569.1 bt569.2.1).bind fun t581=>(if t581=true then(if bt575.2.2=true then(laws_FnStockMore.j0 k t565 t566 bt569.2.2 bt575.2.2 (t565 == 9) bt569.1 bt569.2.1 bt575.1 bt575.2.1) else(laws_FnStockMore.j0 k t565 t566 bt569.2.2 bt575.2.2 true bt569.1 bt569.2.1 bt575.1 bt575.2.1)) else(laws_FnStockMore.j0 k t565 t566 bt569.2.2 bt575.2.2 true bt569.1 bt569.2.1 bt575.1 bt575.2.1))))))=some r:=H
  have A3:=Aside0.mk A30
  clear A30
  replace H:=Option.bind_eq_some_iff.mp H
  obtain⟨⟨t569,t570,t573⟩,A40,H⟩:=H
  replace H:((impl_StockOf.f k t565 t566).bind fun bt575=>(if(bt575.2.2 != t573)=true then(laws_FnStockMore.j0 k t565 t566 t573 bt575.2.2 true t569 t570 bt575.1 bt575.2.1) else((laws_lnStock.f k bt575.1 bt575.2.1 t569 t570).bind fun t581=>(if t581=true then(if bt575.2.2=true then(laws_FnStockMore.j0 k t565 t566 t573 bt575.2.2 (t565 == 9) t569 t570 bt575.1 bt575.2.1) else(laws_FnStockMore.j0 k t565 t566 t573 bt575.2.2 true t569 t570 bt575.1 bt575.2.1)) else(laws_FnStockMore.j0 k t565 t566 t573 bt575.2.2 true t569 t570 bt575.1 bt575.2.1)))))=some r:=H
  have A4:=Aside0.mk A40
  clear A40
  replace H:=Option.bind_eq_some_iff.mp H
  obtain⟨⟨t575,t576,t579⟩,A50,H⟩:=H
  replace H:(if(t579 != t573)=true then(laws_FnStockMore.j0 k t565 t566 t573 t579 true t569 t570 t575 t576) else((laws_lnStock.f k t575 t576 t569 t570).bind fun t581=>(if t581=true then(if t579=true then(laws_FnStockMore.j0 k t565 t566 t573 t579 (t565 == 9) t569 t570 t575 t576) else(laws_FnStockMore.j0 k t565 t566 t573 t579 true t569 t570 t575 t576)) else(laws_FnStockMore.j0 k t565 t566 t573 t579 true t569 t570 t575 t576))))=some r:=H
  have A5:=Aside0.mk A50
  clear A50
  have HC6:=Aside0.mk H
  clear H
  go_enter Try.func5,Try.ntmps5
  go_upto_region 6 with(first|((with_reducible refine qac (f:=20) rfl ?_);refine zF (some 16) Try.func20 #[.slice A0 l0.length c0] ?_;(with_reducible refine(spec_DrawStockOf.calls k _ _ l0 t565 t566 _ ?side1 ?side2 A3.out).mono ?_);(case side1=>repeat(first|exact HR0.out|(with_reducible refine Kd.C_alloc ?_ _)|(with_reducible refine Kd.C_drewN ?_ _)|(with_reducible refine Kd.C_drew ?_)));(case side2=>exact HC0.out);rintro e w7 ⟨v567,rfl,ho0,hb⟩;refine⟨_,rfl,?_⟩;have HO568:=Aside0.mk (Kd.N_lower (Kd.N_mono (ok':=fun k_=>True) ho0 (fun k_ hk_=>trivial)) (below_size (za4 HB)));replace HB:=Aside0.mk (qab (za4 HB) hb);(try clear hb);(try clear ho0);obtain⟨Ao8,co8,eo8⟩:=Kd.N_slice HO568.out;subst eo8)|((with_reducible refine qac (f:=21) rfl ?_);refine zF (some 22) Try.func21 #[.int .i64 t565,.slice Ao8 t566.length co8] ?_;(with_reducible refine(spec_StockOf.calls k t565 _ _ t566 t569 t570 t573 _ ?side1 ?side2 A4.out).mono ?_);(case side1=>repeat(first|exact(Kd.N_reads' HO568.out).2.2|(with_reducible refine Kd.C_alloc ?_ _)|(with_reducible refine Kd.C_drewN ?_ _)|(with_reducible refine Kd.C_drew ?_)));(case side2=>exact(Kd.N_reads' HO568.out).2.1);rintro e w9 ⟨v571,rfl,ho0,hb⟩;refine⟨_,rfl,?_⟩;replace HO568:=Aside0.mk (Kd.N_elder' (za36 HO568) (Kd.R_base ho0) hb);have HO572:=Aside0.mk (Kd.R_lower ho0 (below_size (za4 HB)));replace HB:=Aside0.mk (qab (za4 HB) hb);(try clear hb);(try clear ho0))|((with_reducible refine qae (N:=5) rfl ?_);refine zX (N:=5) (cs:=#[.int .i64 0,.slice none 0 0]) (t:=38) ?_;intro gb574 hg w10 hbox hb;replace HO568:=Aside0.mk (Kd.N_below (Kd.N_elderB (za36 HO568) gb574 (Nat.le_of_eq hg.symm)) hb);replace HO572:=Aside0.mk (Kd.R_below (za5 HO572) hb);have BK574:=Aside0.mk hbox;have GW574:=zH (w:=w) hg (za4 HB);have GE574:=GW574;replace HB:=Aside0.mk (qab (za4 HB) hb);clear hb hbox hg;obtain⟨hcz11_0,hcz11_1,hfz11_0,hfz11_1⟩:=zC2 BK574;obtain⟨Ao12,co12,eo12⟩:=Kd.R_slice HO572.out;subst eo12)|((with_reducible refine qac (f:=22) rfl ?_);refine zF (some 28) Try.func22 #[.int .i64 t565,.slice Ao8 t566.length co8] ?_;(with_reducible refine(impl_StockOf.calls k t565 _ _ t566 t575 t576 t579 _ ?side1 ?side2 A5.out).mono ?_);(case side1=>refine(Kd.N_reads' (e:=32) (base:=w.heap.size) (ok:=fun k_=>((True∧some k_≠(.slice Ao12 t570.length co12:Value).ownBlock)∧k_≠gb574)) (n:=t566.length) (c:=co8) ?_).2.2;exact(by(with_reducible repeat(first|apply Kd.N_alloc|apply Kd.N_drewN|apply Kd.N_drew));exact(Kd.N_mono (Kd.N_far (p:=⟨gb574,1,none⟩) (Kd.N_far (p:=⟨gb574,0,none⟩) (Kd.N_mono HO568.out (fun k_ hk=>(⟨hk,hk.2⟩:_∧k_≠gb574))) (fun _ hk=>hk.2) (.int .i64 t569)) (fun _ hk=>hk.2) (.slice Ao12 t570.length co12)) (fun _ h_=>h_.1))));(case side2=>exact(Kd.N_reads' HO568.out).2.1);rintro e w13 ⟨v577,rfl,ho0,hb⟩;refine⟨_,rfl,?_⟩;replace HO568:=Aside0.mk (Kd.N_elder' (by(with_reducible repeat(first|apply Kd.N_alloc|apply Kd.N_drewN|apply Kd.N_drew));exact(Kd.N_mono (Kd.N_far (p:=⟨gb574,1,none⟩) (Kd.N_far (p:=⟨gb574,0,none⟩) (Kd.N_mono HO568.out (fun k_ hk=>(⟨hk,hk.2⟩:_∧k_≠gb574))) (fun _ hk=>hk.2) (.int .i64 t569)) (fun _ hk=>hk.2) (.slice Ao12 t570.length co12)) (fun _ h_=>h_.1))) (Kd.R_base ho0) hb);have HO578:=Aside0.mk (Kd.R_lower (Kd.R_new' ho0 (Kd.R_lt (by(with_reducible repeat(first|apply Kd.R_alloc|apply Kd.R_drewN|apply Kd.R_drew));exact(Kd.R_mono (Kd.R_far (p:=⟨gb574,1,none⟩) (Kd.R_far (p:=⟨gb574,0,none⟩) (Kd.R_types HO572.out BK574.out (by decide)) (fun _ hk=>hk.2) (.int .i64 t569)) (fun _ hk=>hk.2) (.slice Ao12 t570.length co12)) (fun _ h_=>h_.1))))) (below_size (za1 HB GE574)));replace HO572:=Aside0.mk (Kd.R_elder' (by(with_reducible repeat(first|apply Kd.R_alloc|apply Kd.R_drewN|apply Kd.R_drew));exact(Kd.R_mono (Kd.R_far (p:=⟨gb574,1,none⟩) (Kd.R_far (p:=⟨gb574,0,none⟩) (Kd.R_types HO572.out BK574.out (by decide)) (fun _ hk=>hk.2) (.int .i64 t569)) (fun _ hk=>hk.2) (.slice Ao12 t570.length co12)) (fun _ h_=>h_.1))) (Kd.R_base ho0) hb);replace BK574:=Aside0.mk (qaa (g:=gb574) (o:=.cells #[.int .i64 t569,.slice Ao12 t570.length co12] 38 (0,0)) (by(with_reducible repeat(first|refine blk_drewN ?_ _|refine blk_drew ?_|refine blk_alloc ?_ _));refine qad (cs:=#[.int .i64 t569,.slice none 0 0]) ?_ 1 _ rfl;(with_reducible repeat(first|refine blk_drewN ?_ _|refine blk_drew ?_|refine blk_alloc ?_ _));refine qad (cs:=#[.int .i64 0,.slice none 0 0]) ?_ 0 _ rfl;(with_reducible repeat(first|refine blk_drewN ?_ _|refine blk_drew ?_|refine blk_alloc ?_ _));exact BK574.out) hb);replace HB:=Aside0.mk (qab (za1 HB GE574) hb);(try clear hb);(try clear ho0))|((with_reducible refine qae (N:=7) rfl ?_);refine zX (N:=7) (cs:=#[.int .i64 0,.slice none 0 0]) (t:=38) ?_;intro gb580 hg w14 hbox hb;replace HO568:=Aside0.mk (Kd.N_below (Kd.N_elderB (za36 HO568) gb580 (Nat.le_of_eq hg.symm)) hb);replace HO572:=Aside0.mk (Kd.R_below (za5 HO572) hb);replace HO578:=Aside0.mk (Kd.R_below (za5 HO578) hb);have BK580:=Aside0.mk hbox;have GW580:=zH (w:=w) hg (za1 HB GE574);have GE580:=GW580;replace HB:=Aside0.mk (qab (za1 HB GE574) hb);have NB574_580:=zL BK574 hg;have NB580_574:=zG BK574 hg;replace BK574:=Aside0.mk (qaa (zB BK574) hb);clear hb hbox hg;have hnb15:=NB580_574.out;have hnc15:=NB574_580.out;obtain⟨hcz16_0,hcz16_1,hfz16_0,hfz16_1⟩:=zC2 BK580;obtain⟨Ao17,co17,eo17⟩:=Kd.R_slice HO578.out;subst eo17))
  (try simp only[Act.put,List.setIfInBounds_toArray,List.set_cons_zero,List.set_cons_succ])
  go_cut [47] (fun v47 wc=>∃(kq:Nat) (x47_5:Bool),v47=.bool x47_5∧Aside0 (laws_FnStockMore.j0 kq t565 t566 t573 t579 x47_5 t569 t570 t575 t576=some r)∧Aside0 (kq≤k)∧Aside0 (Kd.N k32 32 wc w.heap.size (fun k_=>some k_≠((.slice Ao12 t570.length co12):Value).ownBlock∧some k_≠((.slice Ao17 t576.length co17):Value).ownBlock∧k_≠gb574∧k_≠gb580) (.slice Ao8 t566.length co8) t566)∧Aside0 (Kd.R k49 49 wc w.heap.size (fun k_=>some k_≠((.slice Ao17 t576.length co17):Value).ownBlock) (.slice Ao12 t570.length co12) t570)∧Aside0 (Kd.R k49 49 wc w.heap.size (fun k_=>some k_≠((.slice Ao12 t570.length co12):Value).ownBlock) (.slice Ao17 t576.length co17) t576)∧Aside0 (wc.heap[gb574]?=some (.cells #[.int .i64 t569,(.slice Ao12 t570.length co12)] 38 (0,0)))∧Aside0 (wc.heap[gb580]?=some (.cells #[.int .i64 t575,(.slice Ao17 t576.length co17)] 38 (0,0)))∧Aside0 (Below w.heap.size w wc))
  case first=>
   have H:=HC6.out
   clear HC6
   by_cases c18:(t579 != t573)=true
   ·rw[if_pos c18] at H
    have c18b0:(t579 != t573)=true:=c18
    (try(have c18b1:decide (t579=t573)=false:=by simpa using c18))
    (try(have c18b2:(t579 == t573)=false:=by simpa using c18))
    (try(have c18b3:¬(t579=t573):=by simpa using c18))
    clear c18
    (first|rw[c18b0]|(simp only[qaf,qag];rw[c18b0])|skip)
    have H':=Aside0.mk H
    clear H
    go_wp2
    go_meet
    case rel=>exact⟨_,(true),(za43),H',⟨za57⟩,⟨by(with_reducible repeat(first|apply Kd.N_alloc|apply Kd.N_drewN|apply Kd.N_drew));exact Kd.N_mono (Kd.N_far (p:=⟨gb580,1,none⟩) (Kd.N_far (p:=⟨gb580,0,none⟩) (Kd.N_mono HO568.out (fun k_ hk=>(⟨hk,hk.2⟩:_∧k_≠gb580))) (fun _ hk=>hk.2) (.int .i64 t575)) (fun _ hk=>hk.2) (.slice Ao17 t576.length co17)) (fun _ hk=>⟨hk.1.1.1.1.2,⟨hk.1.1.2,⟨hk.1.1.1.2,hk.1.2⟩⟩⟩)⟩,⟨by(with_reducible repeat(first|apply Kd.R_alloc|apply Kd.R_drewN|apply Kd.R_drew));exact Kd.R_mono (Kd.R_far (p:=⟨gb580,1,none⟩) (Kd.R_far (p:=⟨gb580,0,none⟩) (Kd.R_types HO572.out BK580.out (by decide)) (fun _ hk=>hk.2) (.int .i64 t575)) (fun _ hk=>hk.2) (.slice Ao17 t576.length co17)) (fun _ hk=>hk.1.2)⟩,⟨by(with_reducible repeat(first|apply Kd.R_alloc|apply Kd.R_drewN|apply Kd.R_drew));exact Kd.R_mono (Kd.R_far (p:=⟨gb580,1,none⟩) (Kd.R_far (p:=⟨gb580,0,none⟩) (Kd.R_types HO578.out BK580.out (by decide)) (fun _ hk=>hk.2) (.int .i64 t575)) (fun _ hk=>hk.2) (.slice Ao17 t576.length co17)) (fun _ hk=>hk.1.2)⟩,⟨za0 NB574_580 BK574⟩,⟨by(with_reducible repeat(first|refine blk_drewN ?_ _|refine blk_drew ?_|refine blk_alloc ?_ _));refine qad (cs:=#[.int .i64 t575,.slice none 0 0]) ?_ 1 _ rfl;(with_reducible repeat(first|refine blk_drewN ?_ _|refine blk_drew ?_|refine blk_alloc ?_ _));refine qad (cs:=#[.int .i64 0,.slice none 0 0]) ?_ 0 _ rfl;(with_reducible repeat(first|refine blk_drewN ?_ _|refine blk_drew ?_|refine blk_alloc ?_ _));exact BK580.out⟩,⟨za2 HB GE574 GE580⟩⟩
   ·rw[if_neg c18] at H
    have c18b0:(t579 != t573)=false:=by simpa using c18
    (try(have c18b1:decide (t579=t573)=true:=by simpa using c18))
    (try(have c18b2:(t579 == t573)=true:=by simpa using c18))
    clear c18
    (first|rw[c18b0]|(simp only[qaf,qag];rw[c18b0])|skip)
    replace H:=Option.bind_eq_some_iff.mp H
    obtain⟨t581,A190,H⟩:=H
    replace H:(if t581=true then(if t579=true then(laws_FnStockMore.j0 k t565 t566 t573 t579 (t565 == 9) t569 t570 t575 t576) else(laws_FnStockMore.j0 k t565 t566 t573 t579 true t569 t570 t575 t576)) else(laws_FnStockMore.j0 k t565 t566 t573 t579 true t569 t570 t575 t576))=some r:=H
    have A19:=Aside0.mk A190
    clear A190
    by_cases c20:t581=true
    ·subst c20
     have H1:(if t579=true then(laws_FnStockMore.j0 k t565 t566 t573 t579 (t565 == 9) t569 t570 t575 t576) else(laws_FnStockMore.j0 k t565 t566 t573 t579 true t569 t570 t575 t576))=some r:=by rw[if_pos rfl] at H;exact H
     clear H
     have H:=H1
     clear H1
     by_cases c21:t579=true
     ·subst c21
      have H1:(laws_FnStockMore.j0 k t565 t566 t573 true (t565 == 9) t569 t570 t575 t576)=some r:=by rw[if_pos rfl] at H;exact H
      clear H
      have H:=H1
      clear H1
      have H':=Aside0.mk H
      clear H
      have hnb22:=NB580_574.out
      have hnc22:=NB574_580.out
      obtain⟨hcz23_0,hcz23_1,hfz23_0,hfz23_1⟩:=zC2 BK580
      obtain⟨hcz24_0,hcz24_1,hfz24_0,hfz24_1⟩:=zC2 BK574
      go_wp2_with(first|(go_at_call 23;(with_reducible refine(laws_lnStock.calls k t575 _ _ t576 t569 _ _ t570 true _ ?side1 ?side2 ?side3 ?side4 A19.out).mono ?_);(case side1=>refine(Kd.R_reads' (e:=49) (base:=w.heap.size) (ok:=fun k_=>(True∧some k_≠(.slice Ao12 t570.length co12:Value).ownBlock)) (n:=t576.length) (c:=co17) ?_).2.2;exact(by(with_reducible repeat(first|apply Kd.R_alloc|apply Kd.R_drewN|apply Kd.R_drew));exact(Kd.R_mono (Kd.R_far (p:=⟨gb580,1,none⟩) (Kd.R_far (p:=⟨gb580,0,none⟩) (Kd.R_types HO578.out BK580.out (by decide)) (fun _ hk=>hk.2) (.int .i64 t575)) (fun _ hk=>hk.2) (.slice Ao17 t576.length co17)) (fun _ h_=>h_.1))));(case side2=>exact(Kd.R_reads' HO578.out).2.1);(case side3=>refine(Kd.R_reads' (e:=49) (base:=w.heap.size) (ok:=fun k_=>(True∧some k_≠(.slice Ao17 t576.length co17:Value).ownBlock)) (n:=t570.length) (c:=co12) ?_).2.2;exact(by(with_reducible repeat(first|apply Kd.R_alloc|apply Kd.R_drewN|apply Kd.R_drew));exact(Kd.R_mono (Kd.R_far (p:=⟨gb580,1,none⟩) (Kd.R_far (p:=⟨gb580,0,none⟩) (Kd.R_types HO572.out BK580.out (by decide)) (fun _ hk=>hk.2) (.int .i64 t575)) (fun _ hk=>hk.2) (.slice Ao17 t576.length co17)) (fun _ h_=>h_.1))));(case side4=>exact(Kd.R_reads' HO572.out).2.1);rintro e w25 ⟨rfl,hb⟩;replace HO568:=Aside0.mk (Kd.N_below (by(with_reducible repeat(first|apply Kd.N_alloc|apply Kd.N_drewN|apply Kd.N_drew));exact(Kd.N_mono (Kd.N_far (p:=⟨gb580,1,none⟩) (Kd.N_far (p:=⟨gb580,0,none⟩) (Kd.N_mono HO568.out (fun k_ hk=>(⟨hk,hk.2⟩:_∧k_≠gb580))) (fun _ hk=>hk.2) (.int .i64 t575)) (fun _ hk=>hk.2) (.slice Ao17 t576.length co17)) (fun _ h_=>h_.1))) hb);replace HO572:=Aside0.mk (Kd.R_below (by(with_reducible repeat(first|apply Kd.R_alloc|apply Kd.R_drewN|apply Kd.R_drew));exact(Kd.R_mono (Kd.R_far (p:=⟨gb580,1,none⟩) (Kd.R_far (p:=⟨gb580,0,none⟩) (Kd.R_types HO572.out BK580.out (by decide)) (fun _ hk=>hk.2) (.int .i64 t575)) (fun _ hk=>hk.2) (.slice Ao17 t576.length co17)) (fun _ h_=>h_.1))) hb);replace HO578:=Aside0.mk (Kd.R_below (by(with_reducible repeat(first|apply Kd.R_alloc|apply Kd.R_drewN|apply Kd.R_drew));exact(Kd.R_mono (Kd.R_far (p:=⟨gb580,1,none⟩) (Kd.R_far (p:=⟨gb580,0,none⟩) (Kd.R_types HO578.out BK580.out (by decide)) (fun _ hk=>hk.2) (.int .i64 t575)) (fun _ hk=>hk.2) (.slice Ao17 t576.length co17)) (fun _ h_=>h_.1))) hb);replace BK574:=Aside0.mk (qaa (g:=gb574) (o:=.cells #[.int .i64 t569,.slice Ao12 t570.length co12] 38 (0,0)) (za0 NB574_580 BK574) hb);replace BK580:=Aside0.mk (qaa (g:=gb580) (o:=.cells #[.int .i64 t575,.slice Ao17 t576.length co17] 38 (0,0)) (by(with_reducible repeat(first|refine blk_drewN ?_ _|refine blk_drew ?_|refine blk_alloc ?_ _));refine qad (cs:=#[.int .i64 t575,.slice none 0 0]) ?_ 1 _ rfl;(with_reducible repeat(first|refine blk_drewN ?_ _|refine blk_drew ?_|refine blk_alloc ?_ _));refine qad (cs:=#[.int .i64 0,.slice none 0 0]) ?_ 0 _ rfl;(with_reducible repeat(first|refine blk_drewN ?_ _|refine blk_drew ?_|refine blk_alloc ?_ _));exact BK580.out) hb);replace HB:=Aside0.mk (qab (za2 HB GE574 GE580) hb);(try clear hb)))
      go_meet
      case rel=>exact⟨_,((t565 == 9)),(za43),H',⟨za57⟩,⟨by(with_reducible repeat(first|apply Kd.N_alloc|apply Kd.N_drewN|apply Kd.N_drew));exact Kd.N_mono HO568.out (fun _ hk=>⟨hk.1.1.1.2,⟨hk.1.2,⟨hk.1.1.2,hk.2⟩⟩⟩)⟩,⟨by(with_reducible repeat(first|apply Kd.R_alloc|apply Kd.R_drewN|apply Kd.R_drew));exact Kd.R_mono HO572.out (fun _ hk=>hk.2)⟩,⟨by(with_reducible repeat(first|apply Kd.R_alloc|apply Kd.R_drewN|apply Kd.R_drew));exact Kd.R_mono HO578.out (fun _ hk=>hk.2)⟩,⟨za24 BK574⟩,⟨za24 BK580⟩,⟨za2 HB GE574 GE580⟩⟩
     ·replace c21:=Bool.eq_false_iff.mpr c21
      subst c21
      have H1:(laws_FnStockMore.j0 k t565 t566 t573 false true t569 t570 t575 t576)=some r:=by rw[if_neg (show ¬(false=true) by decide)] at H;exact H
      clear H
      have H:=H1
      clear H1
      have H':=Aside0.mk H
      clear H
      have hnb26:=NB580_574.out
      have hnc26:=NB574_580.out
      obtain⟨hcz27_0,hcz27_1,hfz27_0,hfz27_1⟩:=zC2 BK580
      obtain⟨hcz28_0,hcz28_1,hfz28_0,hfz28_1⟩:=zC2 BK574
      go_wp2_with(first|(go_at_call 23;(with_reducible refine(laws_lnStock.calls k t575 _ _ t576 t569 _ _ t570 true _ ?side1 ?side2 ?side3 ?side4 A19.out).mono ?_);(case side1=>refine(Kd.R_reads' (e:=49) (base:=w.heap.size) (ok:=fun k_=>(True∧some k_≠(.slice Ao12 t570.length co12:Value).ownBlock)) (n:=t576.length) (c:=co17) ?_).2.2;exact(by(with_reducible repeat(first|apply Kd.R_alloc|apply Kd.R_drewN|apply Kd.R_drew));exact(Kd.R_mono (Kd.R_far (p:=⟨gb580,1,none⟩) (Kd.R_far (p:=⟨gb580,0,none⟩) (Kd.R_types HO578.out BK580.out (by decide)) (fun _ hk=>hk.2) (.int .i64 t575)) (fun _ hk=>hk.2) (.slice Ao17 t576.length co17)) (fun _ h_=>h_.1))));(case side2=>exact(Kd.R_reads' HO578.out).2.1);(case side3=>refine(Kd.R_reads' (e:=49) (base:=w.heap.size) (ok:=fun k_=>(True∧some k_≠(.slice Ao17 t576.length co17:Value).ownBlock)) (n:=t570.length) (c:=co12) ?_).2.2;exact(by(with_reducible repeat(first|apply Kd.R_alloc|apply Kd.R_drewN|apply Kd.R_drew));exact(Kd.R_mono (Kd.R_far (p:=⟨gb580,1,none⟩) (Kd.R_far (p:=⟨gb580,0,none⟩) (Kd.R_types HO572.out BK580.out (by decide)) (fun _ hk=>hk.2) (.int .i64 t575)) (fun _ hk=>hk.2) (.slice Ao17 t576.length co17)) (fun _ h_=>h_.1))));(case side4=>exact(Kd.R_reads' HO572.out).2.1);rintro e w29 ⟨rfl,hb⟩;replace HO568:=Aside0.mk (Kd.N_below (by(with_reducible repeat(first|apply Kd.N_alloc|apply Kd.N_drewN|apply Kd.N_drew));exact(Kd.N_mono (Kd.N_far (p:=⟨gb580,1,none⟩) (Kd.N_far (p:=⟨gb580,0,none⟩) (Kd.N_mono HO568.out (fun k_ hk=>(⟨hk,hk.2⟩:_∧k_≠gb580))) (fun _ hk=>hk.2) (.int .i64 t575)) (fun _ hk=>hk.2) (.slice Ao17 t576.length co17)) (fun _ h_=>h_.1))) hb);replace HO572:=Aside0.mk (Kd.R_below (by(with_reducible repeat(first|apply Kd.R_alloc|apply Kd.R_drewN|apply Kd.R_drew));exact(Kd.R_mono (Kd.R_far (p:=⟨gb580,1,none⟩) (Kd.R_far (p:=⟨gb580,0,none⟩) (Kd.R_types HO572.out BK580.out (by decide)) (fun _ hk=>hk.2) (.int .i64 t575)) (fun _ hk=>hk.2) (.slice Ao17 t576.length co17)) (fun _ h_=>h_.1))) hb);replace HO578:=Aside0.mk (Kd.R_below (by(with_reducible repeat(first|apply Kd.R_alloc|apply Kd.R_drewN|apply Kd.R_drew));exact(Kd.R_mono (Kd.R_far (p:=⟨gb580,1,none⟩) (Kd.R_far (p:=⟨gb580,0,none⟩) (Kd.R_types HO578.out BK580.out (by decide)) (fun _ hk=>hk.2) (.int .i64 t575)) (fun _ hk=>hk.2) (.slice Ao17 t576.length co17)) (fun _ h_=>h_.1))) hb);replace BK574:=Aside0.mk (qaa (g:=gb574) (o:=.cells #[.int .i64 t569,.slice Ao12 t570.length co12] 38 (0,0)) (za0 NB574_580 BK574) hb);replace BK580:=Aside0.mk (qaa (g:=gb580) (o:=.cells #[.int .i64 t575,.slice Ao17 t576.length co17] 38 (0,0)) (by(with_reducible repeat(first|refine blk_drewN ?_ _|refine blk_drew ?_|refine blk_alloc ?_ _));refine qad (cs:=#[.int .i64 t575,.slice none 0 0]) ?_ 1 _ rfl;(with_reducible repeat(first|refine blk_drewN ?_ _|refine blk_drew ?_|refine blk_alloc ?_ _));refine qad (cs:=#[.int .i64 0,.slice none 0 0]) ?_ 0 _ rfl;(with_reducible repeat(first|refine blk_drewN ?_ _|refine blk_drew ?_|refine blk_alloc ?_ _));exact BK580.out) hb);replace HB:=Aside0.mk (qab (za2 HB GE574 GE580) hb);(try clear hb)))
      go_meet
      case rel=>exact⟨_,(true),(za43),H',⟨za57⟩,⟨by(with_reducible repeat(first|apply Kd.N_alloc|apply Kd.N_drewN|apply Kd.N_drew));exact Kd.N_mono HO568.out (fun _ hk=>⟨hk.1.1.1.2,⟨hk.1.2,⟨hk.1.1.2,hk.2⟩⟩⟩)⟩,⟨by(with_reducible repeat(first|apply Kd.R_alloc|apply Kd.R_drewN|apply Kd.R_drew));exact Kd.R_mono HO572.out (fun _ hk=>hk.2)⟩,⟨by(with_reducible repeat(first|apply Kd.R_alloc|apply Kd.R_drewN|apply Kd.R_drew));exact Kd.R_mono HO578.out (fun _ hk=>hk.2)⟩,⟨za24 BK574⟩,⟨za24 BK580⟩,⟨za2 HB GE574 GE580⟩⟩
    ·replace c20:=Bool.eq_false_iff.mpr c20
     subst c20
     have H1:(laws_FnStockMore.j0 k t565 t566 t573 t579 true t569 t570 t575 t576)=some r:=by rw[if_neg (show ¬(false=true) by decide)] at H;exact H
     clear H
     have H:=H1
     clear H1
     have H':=Aside0.mk H
     clear H
     have hnb30:=NB580_574.out
     have hnc30:=NB574_580.out
     obtain⟨hcz31_0,hcz31_1,hfz31_0,hfz31_1⟩:=zC2 BK580
     obtain⟨hcz32_0,hcz32_1,hfz32_0,hfz32_1⟩:=zC2 BK574
     go_wp2_with(first|(go_at_call 23;(with_reducible refine(laws_lnStock.calls k t575 _ _ t576 t569 _ _ t570 false _ ?side1 ?side2 ?side3 ?side4 A19.out).mono ?_);(case side1=>refine(Kd.R_reads' (e:=49) (base:=w.heap.size) (ok:=fun k_=>(True∧some k_≠(.slice Ao12 t570.length co12:Value).ownBlock)) (n:=t576.length) (c:=co17) ?_).2.2;exact(by(with_reducible repeat(first|apply Kd.R_alloc|apply Kd.R_drewN|apply Kd.R_drew));exact(Kd.R_mono (Kd.R_far (p:=⟨gb580,1,none⟩) (Kd.R_far (p:=⟨gb580,0,none⟩) (Kd.R_types HO578.out BK580.out (by decide)) (fun _ hk=>hk.2) (.int .i64 t575)) (fun _ hk=>hk.2) (.slice Ao17 t576.length co17)) (fun _ h_=>h_.1))));(case side2=>exact(Kd.R_reads' HO578.out).2.1);(case side3=>refine(Kd.R_reads' (e:=49) (base:=w.heap.size) (ok:=fun k_=>(True∧some k_≠(.slice Ao17 t576.length co17:Value).ownBlock)) (n:=t570.length) (c:=co12) ?_).2.2;exact(by(with_reducible repeat(first|apply Kd.R_alloc|apply Kd.R_drewN|apply Kd.R_drew));exact(Kd.R_mono (Kd.R_far (p:=⟨gb580,1,none⟩) (Kd.R_far (p:=⟨gb580,0,none⟩) (Kd.R_types HO572.out BK580.out (by decide)) (fun _ hk=>hk.2) (.int .i64 t575)) (fun _ hk=>hk.2) (.slice Ao17 t576.length co17)) (fun _ h_=>h_.1))));(case side4=>exact(Kd.R_reads' HO572.out).2.1);rintro e w33 ⟨rfl,hb⟩;replace HO568:=Aside0.mk (Kd.N_below (by(with_reducible repeat(first|apply Kd.N_alloc|apply Kd.N_drewN|apply Kd.N_drew));exact(Kd.N_mono (Kd.N_far (p:=⟨gb580,1,none⟩) (Kd.N_far (p:=⟨gb580,0,none⟩) (Kd.N_mono HO568.out (fun k_ hk=>(⟨hk,hk.2⟩:_∧k_≠gb580))) (fun _ hk=>hk.2) (.int .i64 t575)) (fun _ hk=>hk.2) (.slice Ao17 t576.length co17)) (fun _ h_=>h_.1))) hb);replace HO572:=Aside0.mk (Kd.R_below (by(with_reducible repeat(first|apply Kd.R_alloc|apply Kd.R_drewN|apply Kd.R_drew));exact(Kd.R_mono (Kd.R_far (p:=⟨gb580,1,none⟩) (Kd.R_far (p:=⟨gb580,0,none⟩) (Kd.R_types HO572.out BK580.out (by decide)) (fun _ hk=>hk.2) (.int .i64 t575)) (fun _ hk=>hk.2) (.slice Ao17 t576.length co17)) (fun _ h_=>h_.1))) hb);replace HO578:=Aside0.mk (Kd.R_below (by(with_reducible repeat(first|apply Kd.R_alloc|apply Kd.R_drewN|apply Kd.R_drew));exact(Kd.R_mono (Kd.R_far (p:=⟨gb580,1,none⟩) (Kd.R_far (p:=⟨gb580,0,none⟩) (Kd.R_types HO578.out BK580.out (by decide)) (fun _ hk=>hk.2) (.int .i64 t575)) (fun _ hk=>hk.2) (.slice Ao17 t576.length co17)) (fun _ h_=>h_.1))) hb);replace BK574:=Aside0.mk (qaa (g:=gb574) (o:=.cells #[.int .i64 t569,.slice Ao12 t570.length co12] 38 (0,0)) (za0 NB574_580 BK574) hb);replace BK580:=Aside0.mk (qaa (g:=gb580) (o:=.cells #[.int .i64 t575,.slice Ao17 t576.length co17] 38 (0,0)) (by(with_reducible repeat(first|refine blk_drewN ?_ _|refine blk_drew ?_|refine blk_alloc ?_ _));refine qad (cs:=#[.int .i64 t575,.slice none 0 0]) ?_ 1 _ rfl;(with_reducible repeat(first|refine blk_drewN ?_ _|refine blk_drew ?_|refine blk_alloc ?_ _));refine qad (cs:=#[.int .i64 0,.slice none 0 0]) ?_ 0 _ rfl;(with_reducible repeat(first|refine blk_drewN ?_ _|refine blk_drew ?_|refine blk_alloc ?_ _));exact BK580.out) hb);replace HB:=Aside0.mk (qab (za2 HB GE574 GE580) hb);(try clear hb)))
     go_meet
     case rel=>exact⟨_,(true),(za43),H',⟨za57⟩,⟨by(with_reducible repeat(first|apply Kd.N_alloc|apply Kd.N_drewN|apply Kd.N_drew));exact Kd.N_mono HO568.out (fun _ hk=>⟨hk.1.1.1.2,⟨hk.1.2,⟨hk.1.1.2,hk.2⟩⟩⟩)⟩,⟨by(with_reducible repeat(first|apply Kd.R_alloc|apply Kd.R_drewN|apply Kd.R_drew));exact Kd.R_mono HO572.out (fun _ hk=>hk.2)⟩,⟨by(with_reducible repeat(first|apply Kd.R_alloc|apply Kd.R_drewN|apply Kd.R_drew));exact Kd.R_mono HO578.out (fun _ hk=>hk.2)⟩,⟨za24 BK574⟩,⟨za24 BK580⟩,⟨za2 HB GE574 GE580⟩⟩
  case rest=>
   clear HC6
   try clear c1
   try clear c2
   try clear c2b0
   try clear c2b1
   try clear p2
   try clear c3
   try clear c5
   try clear c15
   try clear c18
   try clear c18b0
   try clear c18b1
   try clear c18b2
   try clear c20
   try clear c21
   try clear c22
   try clear c26
   try clear c30
   try clear hcz11_0
   try clear hcz11_1
   try clear hcz16_0
   try clear hcz16_1
   try clear hcz23_0
   try clear hcz23_1
   try clear hcz24_0
   try clear hcz24_1
   try clear hcz27_0
   try clear hcz27_1
   try clear hcz28_0
   try clear hcz28_1
   try clear hcz31_0
   try clear hcz31_1
   try clear hcz32_0
   try clear hcz32_1
   try clear hfz11_0
   try clear hfz11_1
   try clear hfz16_0
   try clear hfz16_1
   try clear hfz23_0
   try clear hfz23_1
   try clear hfz24_0
   try clear hfz24_1
   try clear hfz27_0
   try clear hfz27_1
   try clear hfz28_0
   try clear hfz28_1
   try clear hfz31_0
   try clear hfz31_1
   try clear hfz32_0
   try clear hfz32_1
   obtain⟨kq,x47_5,rfl,HA,HJ5,HO_4,HO_575001,HO_581001,BK574,BK580,HB⟩:=hcut
   cases kq with
   |zero=>exact absurd HA.out (by simp[laws_FnStockMore.j0])
   |succ kj5=>
    have H:=HA.out
    clear HA
    simp only[laws_FnStockMore.j0] at H
    by_cases c34:x47_5=true
    ·subst c34
     have H1:(if(t579 == t573)=true then((laws_lnStock.f kj5 t575 t576 t569 t570).bind fun t582=>(some t582)) else(some false))=some r:=by rw[if_pos rfl] at H;exact H
     clear H
     have H:=H1
     clear H1
     by_cases c35:(t579 == t573)=true
     ·rw[if_pos c35] at H
      have c35b0:(t579 == t573)=true:=c35
      (try(have c35b1:decide (t579=t573)=true:=by simpa using c35))
      (try(have c35b2:(t579 == t573)=true:=by simpa using c35))
      clear c35
      replace H:=Option.bind_eq_some_iff.mp H
      obtain⟨t582,A360,H⟩:=H
      replace H:(some t582)=some r:=H
      have A36:=Aside0.mk A360
      clear A360
      obtain rfl:=Option.some.inj H
      have hnb37:=NB580_574.out
      have hnc37:=NB574_580.out
      obtain⟨hcz38_0,hcz38_1,hfz38_0,hfz38_1⟩:=zC2 BK580
      obtain⟨hcz39_0,hcz39_1,hfz39_0,hfz39_1⟩:=zC2 BK574
      go_wp2_with(first|(go_at_call 23;(with_reducible refine(laws_lnStock.calls kj5 t575 _ _ t576 t569 _ _ t570 t582 _ ?side1 ?side2 ?side3 ?side4 A36.out).mono ?_);(case side1=>repeat(first|exact(Kd.R_reads' HO_581001.out).2.2|(with_reducible refine Kd.C_alloc ?_ _)|(with_reducible refine Kd.C_drewN ?_ _)|(with_reducible refine Kd.C_drew ?_)));(case side2=>exact(Kd.R_reads' HO_581001.out).2.1);(case side3=>repeat(first|exact(Kd.R_reads' HO_575001.out).2.2|(with_reducible refine Kd.C_alloc ?_ _)|(with_reducible refine Kd.C_drewN ?_ _)|(with_reducible refine Kd.C_drew ?_)));(case side4=>exact(Kd.R_reads' HO_575001.out).2.1);rintro e w40 ⟨rfl,hb⟩;replace HO_4:=Aside0.mk (Kd.N_below (za36 HO_4) hb);replace HO_575001:=Aside0.mk (Kd.R_below (za5 HO_575001) hb);replace HO_581001:=Aside0.mk (Kd.R_below (za5 HO_581001) hb);replace BK574:=Aside0.mk (qaa (zB BK574) hb);replace BK580:=Aside0.mk (qaa (zB BK580) hb);replace HB:=Aside0.mk (qab (za2 HB GE574 GE580) hb);(try clear hb)))
      go_ret
      exact⟨za16,za2 HB GE574 GE580⟩
     ·rw[if_neg c35] at H
      have c35b0:(t579 == t573)=false:=by simpa using c35
      (try(have c35b1:decide (t579=t573)=false:=by simpa using c35))
      (try(have c35b2:(t579 == t573)=false:=by simpa using c35))
      (try(have c35b3:¬(t579=t573):=by simpa using c35))
      clear c35
      obtain rfl:=Option.some.inj H
      go_wp2
      go_ret
      exact⟨za16,za2 HB GE574 GE580⟩
    ·replace c34:=Bool.eq_false_iff.mpr c34
     subst c34
     have H1:((impl_StockOf.f kj5 (wrap64 (t565+1)) t566).bind fun bt583=>(if bt583.2.2=true then((impl_StockFree.f kj5 bt583.1 bt583.2.1).bind fun t589=>((impl_StockFree.f kj5 t575 t576).bind fun t590=>(if t589=(wrap64 (t590+1)) then(some (bt583.1 == (wrap64 (t565+1)))) else(some false)))) else(some false)))=some r:=by rw[if_neg (show ¬(false=true) by decide)] at H;exact H
     clear H
     have H:=H1
     clear H1
     replace H:=Option.bind_eq_some_iff.mp H
     obtain⟨⟨t583,t584,t587⟩,A410,H⟩:=H
     replace H:(if t587=true then((impl_StockFree.f kj5 t583 t584).bind fun t589=>((impl_StockFree.f kj5 t575 t576).bind fun t590=>(if t589=(wrap64 (t590+1)) then(some (t583 == (wrap64 (t565+1)))) else(some false)))) else(some false))=some r:=H
     have A41:=Aside0.mk A410
     clear A410
     by_cases c42:t587=true
     ·subst c42
      have H1:((impl_StockFree.f kj5 t583 t584).bind fun t589=>((impl_StockFree.f kj5 t575 t576).bind fun t590=>(if t589=(wrap64 (t590+1)) then(some (t583 == (wrap64 (t565+1)))) else(some false))))=some r:=by rw[if_pos rfl] at H;exact H
      clear H
      have H:=H1
      clear H1
      replace H:=Option.bind_eq_some_iff.mp H
      obtain⟨t589,A430,H⟩:=H
      replace H:((impl_StockFree.f kj5 t575 t576).bind fun t590=>(if t589=(wrap64 (t590+1)) then(some (t583 == (wrap64 (t565+1)))) else(some false)))=some r:=H
      have A43:=Aside0.mk A430
      clear A430
      replace H:=Option.bind_eq_some_iff.mp H
      obtain⟨t590,A440,H⟩:=H
      replace H:(if t589=(wrap64 (t590+1)) then(some (t583 == (wrap64 (t565+1)))) else(some false))=some r:=H
      have A44:=Aside0.mk A440
      clear A440
      by_cases c45:t589=(wrap64 (t590+1))
      ·rw[if_pos c45] at H
       have c45b0:(t589 == (wrap64 (t590+1)))=true:=beq_iff_eq.mpr c45
       have c45b1:(t589 != (wrap64 (t590+1)))=false:=bne_eq_false_iff_eq.mpr c45
       clear c45
       obtain rfl:=Option.some.inj H
       try go_wp2_with(first|((with_reducible refine qac (f:=22) rfl ?_);refine zF (some 60) Try.func22 #[.int .i64 (wrap64 (t565+1)),.slice Ao8 t566.length co8] ?_;(with_reducible refine(impl_StockOf.calls kj5 (wrap64 (t565+1)) _ _ t566 t583 t584 true _ ?side1 ?side2 A41.out).mono ?_);(case side1=>repeat(first|exact(Kd.N_reads' HO_4.out).2.2|(with_reducible refine Kd.C_alloc ?_ _)|(with_reducible refine Kd.C_drewN ?_ _)|(with_reducible refine Kd.C_drew ?_)));(case side2=>exact(Kd.N_reads' HO_4.out).2.1);rintro e w46 ⟨v585,rfl,ho0,hb⟩;refine⟨_,rfl,?_⟩;replace HO_4:=Aside0.mk (Kd.N_elder' (za36 HO_4) (Kd.R_base ho0) hb);have HO586:=Aside0.mk (Kd.R_lower (Kd.R_new' (Kd.R_new' ho0 (Kd.R_lt (za5 HO_575001))) (Kd.R_lt (za5 HO_581001))) (below_size (za2 HB GE574 GE580)));replace HO_575001:=Aside0.mk (Kd.R_elder' (za5 HO_575001) (Kd.R_base ho0) hb);replace HO_581001:=Aside0.mk (Kd.R_elder' (za5 HO_581001) (Kd.R_base ho0) hb);replace BK574:=Aside0.mk (qaa (zB BK574) hb);replace BK580:=Aside0.mk (qaa (zB BK580) hb);replace HB:=Aside0.mk (qab (za2 HB GE574 GE580) hb);(try clear hb);(try clear ho0))|((with_reducible refine qae (N:=9) rfl ?_);refine zX (N:=9) (cs:=#[.int .i64 0,.slice none 0 0]) (t:=38) ?_;intro gb588 hg w47 hbox hb;replace HO_4:=Aside0.mk (Kd.N_below (Kd.N_elderB (za36 HO_4) gb588 (Nat.le_of_eq hg.symm)) hb);replace HO_575001:=Aside0.mk (Kd.R_below (za5 HO_575001) hb);replace HO_581001:=Aside0.mk (Kd.R_below (za5 HO_581001) hb);replace HO586:=Aside0.mk (Kd.R_below (za5 HO586) hb);have BK588:=Aside0.mk hbox;have GW588:=zH (w:=w) hg (za2 HB GE574 GE580);have GE588:=GW588;replace HB:=Aside0.mk (qab (za2 HB GE574 GE580) hb);have NB574_588:=zL BK574 hg;have NB588_574:=zG BK574 hg;replace BK574:=Aside0.mk (qaa (zB BK574) hb);have NB580_588:=zL BK580 hg;have NB588_580:=zG BK580 hg;replace BK580:=Aside0.mk (qaa (zB BK580) hb);clear hb hbox hg;have hnb48:=NB588_574.out;have hnc48:=NB574_588.out;have hnb49:=NB588_580.out;have hnc49:=NB580_588.out;obtain⟨hcz50_0,hcz50_1,hfz50_0,hfz50_1⟩:=zC2 BK588;obtain⟨Ao51,co51,eo51⟩:=Kd.R_slice HO586.out;subst eo51))
       have n0_:Aside0 (Kd.N k32 32 ((w47.setCell ⟨gb588,0,none⟩ (.int .i64 t583)).setCell ⟨gb588,1,none⟩ (.slice Ao51 t584.length co51)) w.heap.size (fun k_=>some k_≠(.slice Ao12 t570.length co12:Value).ownBlock∧some k_≠(.slice Ao17 t576.length co17:Value).ownBlock∧some k_≠(.slice Ao51 t584.length co51:Value).ownBlock∧k_≠gb574∧k_≠gb580∧k_≠gb588) (.slice Ao8 t566.length co8) t566):=⟨by(with_reducible repeat(first|apply Kd.N_alloc|apply Kd.N_drewN|apply Kd.N_drew));exact Kd.N_mono (Kd.N_far (p:=⟨gb588,1,none⟩) (Kd.N_far (p:=⟨gb588,0,none⟩) (Kd.N_mono HO_4.out (fun k_ hk=>(⟨hk,hk.2⟩:_∧k_≠gb588))) (fun _ hk=>hk.2) (.int .i64 t583)) (fun _ hk=>hk.2) (.slice Ao51 t584.length co51)) (fun _ hk=>⟨hk.1.1.1.1,⟨hk.1.1.1.2.1,⟨hk.1.1.2,⟨hk.1.1.1.2.2.1,⟨hk.1.1.1.2.2.2,hk.1.2⟩⟩⟩⟩⟩)⟩
       have n1_:Aside0 (Kd.R k49 49 ((w47.setCell ⟨gb588,0,none⟩ (.int .i64 t583)).setCell ⟨gb588,1,none⟩ (.slice Ao51 t584.length co51)) w.heap.size (fun k_=>some k_≠(.slice Ao17 t576.length co17:Value).ownBlock∧some k_≠(.slice Ao51 t584.length co51:Value).ownBlock) (.slice Ao12 t570.length co12) t570):=⟨by(with_reducible repeat(first|apply Kd.R_alloc|apply Kd.R_drewN|apply Kd.R_drew));exact Kd.R_mono (Kd.R_far (p:=⟨gb588,1,none⟩) (Kd.R_far (p:=⟨gb588,0,none⟩) (Kd.R_types HO_575001.out BK588.out (by decide)) (fun _ hk=>hk.2) (.int .i64 t583)) (fun _ hk=>hk.2) (.slice Ao51 t584.length co51)) (fun _ hk=>⟨hk.1.1,hk.1.2⟩)⟩
       have n2_:Aside0 (Kd.R k49 49 ((w47.setCell ⟨gb588,0,none⟩ (.int .i64 t583)).setCell ⟨gb588,1,none⟩ (.slice Ao51 t584.length co51)) w.heap.size (fun k_=>some k_≠(.slice Ao12 t570.length co12:Value).ownBlock∧some k_≠(.slice Ao51 t584.length co51:Value).ownBlock) (.slice Ao17 t576.length co17) t576):=⟨by(with_reducible repeat(first|apply Kd.R_alloc|apply Kd.R_drewN|apply Kd.R_drew));exact Kd.R_mono (Kd.R_far (p:=⟨gb588,1,none⟩) (Kd.R_far (p:=⟨gb588,0,none⟩) (Kd.R_types HO_581001.out BK588.out (by decide)) (fun _ hk=>hk.2) (.int .i64 t583)) (fun _ hk=>hk.2) (.slice Ao51 t584.length co51)) (fun _ hk=>⟨hk.1.1,hk.1.2⟩)⟩
       have n3_:Aside0 (Kd.R k49 49 ((w47.setCell ⟨gb588,0,none⟩ (.int .i64 t583)).setCell ⟨gb588,1,none⟩ (.slice Ao51 t584.length co51)) w.heap.size (fun k_=>some k_≠(.slice Ao12 t570.length co12:Value).ownBlock∧some k_≠(.slice Ao17 t576.length co17:Value).ownBlock) (.slice Ao51 t584.length co51) t584):=⟨by(with_reducible repeat(first|apply Kd.R_alloc|apply Kd.R_drewN|apply Kd.R_drew));exact Kd.R_mono (Kd.R_far (p:=⟨gb588,1,none⟩) (Kd.R_far (p:=⟨gb588,0,none⟩) (Kd.R_types HO586.out BK588.out (by decide)) (fun _ hk=>hk.2) (.int .i64 t583)) (fun _ hk=>hk.2) (.slice Ao51 t584.length co51)) (fun _ hk=>⟨hk.1.1.2,hk.1.2⟩)⟩
       have n4_:Aside0 (((w47.setCell ⟨gb588,0,none⟩ (.int .i64 t583)).setCell ⟨gb588,1,none⟩ (.slice Ao51 t584.length co51)).heap[gb574]?=some (.cells #[.int .i64 t569,.slice Ao12 t570.length co12] 38 (0,0))):=⟨za0 NB574_588 BK574⟩
       have n5_:Aside0 (((w47.setCell ⟨gb588,0,none⟩ (.int .i64 t583)).setCell ⟨gb588,1,none⟩ (.slice Ao51 t584.length co51)).heap[gb580]?=some (.cells #[.int .i64 t575,.slice Ao17 t576.length co17] 38 (0,0))):=⟨za0 NB580_588 BK580⟩
       have n6_:Aside0 (((w47.setCell ⟨gb588,0,none⟩ (.int .i64 t583)).setCell ⟨gb588,1,none⟩ (.slice Ao51 t584.length co51)).heap[gb588]?=some (.cells #[.int .i64 t583,.slice Ao51 t584.length co51] 38 (0,0))):=⟨by(with_reducible repeat(first|refine blk_drewN ?_ _|refine blk_drew ?_|refine blk_alloc ?_ _));refine qad (cs:=#[.int .i64 t583,.slice none 0 0]) ?_ 1 _ rfl;(with_reducible repeat(first|refine blk_drewN ?_ _|refine blk_drew ?_|refine blk_alloc ?_ _));refine qad (cs:=#[.int .i64 0,.slice none 0 0]) ?_ 0 _ rfl;(with_reducible repeat(first|refine blk_drewN ?_ _|refine blk_drew ?_|refine blk_alloc ?_ _));exact BK588.out⟩
       have n7_:Aside0 (Below w.heap.size w ((w47.setCell ⟨gb588,0,none⟩ (.int .i64 t583)).setCell ⟨gb588,1,none⟩ (.slice Ao51 t584.length co51))):=⟨za6 HB GE574 GE580 GE588⟩
       (try clear HO_4)
       (try clear HO_575001)
       (try clear HO_581001)
       (try clear HO586)
       (try clear BK574)
       (try clear BK580)
       (try clear BK588)
       (try clear HB)
       generalize ((w47.setCell ⟨gb588,0,none⟩ (.int .i64 t583)).setCell ⟨gb588,1,none⟩ (.slice Ao51 t584.length co51))=w52 at n0_ n1_ n2_ n3_ n4_ n5_ n6_ n7_ ⊢
       have HO_4:=n0_
       have HO_575001:=n1_
       have HO_581001:=n2_
       have HO586:=n3_
       have BK574:=n4_
       have BK580:=n5_
       have BK588:=n6_
       have HB:=n7_
       clear n0_ n1_ n2_ n3_ n4_ n5_ n6_ n7_
       replace HO_4:=Aside0.mk (Kd.N_drew HO_4.out)
       replace HO_575001:=Aside0.mk (Kd.R_drew HO_575001.out)
       replace HO_581001:=Aside0.mk (Kd.R_drew HO_581001.out)
       replace HO586:=Aside0.mk (Kd.R_drew HO586.out)
       replace BK574:=Aside0.mk (blk_drew BK574.out)
       replace BK580:=Aside0.mk (blk_drew BK580.out)
       replace BK588:=Aside0.mk (blk_drew BK588.out)
       replace HB:=Aside0.mk (qao HB.out)
       refine start_ (n:=17) (S:=fun w'=>w'.cell? ⟨gb588,0,none⟩=some (.int .i64 t583)∧w'.cell? ⟨gb588,1,none⟩=some (.slice Ao51 t584.length co51)∧w'.cell? ⟨gb580,0,none⟩=some (.int .i64 t575)∧w'.cell? ⟨gb580,1,none⟩=some (.slice Ao17 t576.length co17)) (ds:=[]) #[false,false,false,false,false,false,false,false,false,false,false,false,false,false,false,false,false] (by kernel_rfl) rfl rfl ⟨(blk_cell BK588.out 0).trans rfl,(blk_cell BK588.out 1).trans rfl,(blk_cell BK580.out 0).trans rfl,(blk_cell BK580.out 1).trans rfl⟩ (fun hHeld=>?_);refine with_tabW laws_FnStockMore.tab9 laws_FnStockMore.bits9 (fun HT_ HW_=>?_)
       generalize w52.drew=w53 at HO_4 HO_575001 HO_581001 HO586 BK574 BK580 BK588 HB hHeld ⊢
       refine qaj (i:=0) (N:=some 63) (v:=?_) (a':=?_) #[true,false,false,false,false,false,false,false,false,false,false,false,false,false,false,false,false] rfl rfl (qah HT_.out (by kernel_rfl)) (fun _ _ _ h=>h) (Or.inl ⟨by rfl,?_⟩) ?_ ?_
       rotate_left
       ·intro w'
        go_simp
        with_reducible rfl
       rotate_left
       ·simp only[Act.put,List.setIfInBounds_toArray,List.set_cons_zero,List.set_cons_succ,qaf,qag]
        rfl
       refine qaj (i:=1) (N:=some 64) (v:=?_) (a':=?_) #[true,true,false,false,false,false,false,false,false,false,false,false,false,false,false,false,false] rfl rfl (qah HT_.out (by kernel_rfl)) (fun _ _ _ h=>h) (Or.inl ⟨by rfl,?_⟩) ?_ ?_
       rotate_left
       ·intro w'
        go_simp
        with_reducible rfl
       rotate_left
       ·simp only[Act.put,List.setIfInBounds_toArray,List.set_cons_zero,List.set_cons_succ,qaf,qag]
        rfl
       refine take_ (i:=2) (N:=some 65) (v:=?_) (a':=?_) #[true,true,true,false,false,false,false,false,false,false,false,false,false,false,false,false,false] rfl rfl (qap HT_.out HW_.out (by kernel_rfl)) (fun _ _ _ h=>h) (Or.inl ⟨by rfl,?_⟩) hHeld ?_ ?_
       rotate_left
       ·rintro w' ⟨s0,s1,s2,s3⟩
        go_simp
        with_reducible rfl
       rotate_left
       ·simp only[Act.put,List.setIfInBounds_toArray,List.set_cons_zero,List.set_cons_succ,qaf,qag]
        rfl
       refine take_ (i:=4) (N:=some 67) (v:=?_) (a':=?_) #[true,true,true,false,true,false,false,false,false,false,false,false,false,false,false,false,false] rfl rfl (qap HT_.out HW_.out (by kernel_rfl)) (fun _ _ _ h=>h) (Or.inl ⟨by rfl,?_⟩) hHeld ?_ ?_
       rotate_left
       ·rintro w' ⟨s0,s1,s2,s3⟩
        go_simp
        with_reducible rfl
       rotate_left
       ·simp only[Act.put,List.setIfInBounds_toArray,List.set_cons_zero,List.set_cons_succ,qaf,qag]
        rfl
       refine one_ (i:=3) (N:=some 66) #[true,true,true,true,true,false,false,false,false,false,false,false,false,false,false,false,false] rfl rfl (one_of HT_.out (by kernel_rfl)) (by decide) (fun K hK=>?_)
       refine goes_ Try.func25 (by kernel_rfl) rfl #[.agg #[.int .i64 t583,.slice Ao51 t584.length co51]] (by rfl) rfl rfl (by(try simp only[List.map_toArray,List.map_cons,List.map_nil]);first|done|rfl|(simp only[List.length_drop,List.length_take];rfl)) ?_
       with_reducible refine(impl_StockFree.calls kj5 t583 _ _ t584 t589 _ ?side1 ?side2 A43.out).mono ?_
       (case side1=>repeat(first|exact(Kd.R_reads' HO586.out).2.2|(with_reducible refine Kd.C_alloc ?_ _)|(with_reducible refine Kd.C_drewN ?_ _)|(with_reducible refine Kd.C_drew ?_)))
       (case side2=>exact(Kd.R_reads' HO586.out).2.1)
       rintro e w54 ⟨rfl,hb⟩
       refine⟨_,rfl,?_⟩
       replace HO_4:=Aside0.mk (Kd.N_below (za36 HO_4) hb)
       replace HO_575001:=Aside0.mk (Kd.R_below (za5 HO_575001) hb)
       replace HO_581001:=Aside0.mk (Kd.R_below (za5 HO_581001) hb)
       replace HO586:=Aside0.mk (Kd.R_below (za5 HO586) hb)
       replace BK574:=Aside0.mk (qaa (zB BK574) hb)
       replace BK580:=Aside0.mk (qaa (zB BK580) hb)
       replace BK588:=Aside0.mk (qaa (zB BK588) hb)
       replace HB:=Aside0.mk (qab (za6 HB GE574 GE580 GE588) hb)
       (try clear hb)
       (try clear hb2)
       (try clear hk)
       (try clear hi)
       refine hK.out _ _ ⟨(blk_cell BK588.out 0).trans rfl,(blk_cell BK588.out 1).trans rfl,(blk_cell BK580.out 0).trans rfl,(blk_cell BK580.out 1).trans rfl⟩ (fun hHeld=>?_)
       clear hK K
       refine norm_ (a':=?_) ?_ ?_
       rotate_left
       ·show Act.put _ (some 66) _=_
        simp only[Act.put,List.setIfInBounds_toArray,List.set_cons_zero,List.set_cons_succ,qaf,qag]
        rfl
       refine one_ (i:=5) (N:=some 68) #[true,true,true,true,true,true,false,false,false,false,false,false,false,false,false,false,false] rfl rfl (one_of HT_.out (by kernel_rfl)) (by decide) (fun K hK=>?_)
       refine goes_ Try.func25 (by kernel_rfl) rfl #[.agg #[.int .i64 t575,.slice Ao17 t576.length co17]] (by rfl) rfl rfl (by(try simp only[List.map_toArray,List.map_cons,List.map_nil]);first|done|rfl|(simp only[List.length_drop,List.length_take];rfl)) ?_
       with_reducible refine(impl_StockFree.calls kj5 t575 _ _ t576 t590 _ ?side1 ?side2 A44.out).mono ?_
       (case side1=>repeat(first|exact(Kd.R_reads' HO_581001.out).2.2|(with_reducible refine Kd.C_alloc ?_ _)|(with_reducible refine Kd.C_drewN ?_ _)|(with_reducible refine Kd.C_drew ?_)))
       (case side2=>exact(Kd.R_reads' HO_581001.out).2.1)
       rintro e w55 ⟨rfl,hb⟩
       refine⟨_,rfl,?_⟩
       replace HO_4:=Aside0.mk (Kd.N_below (za36 HO_4) hb)
       replace HO_575001:=Aside0.mk (Kd.R_below (za5 HO_575001) hb)
       replace HO_581001:=Aside0.mk (Kd.R_below (za5 HO_581001) hb)
       replace HO586:=Aside0.mk (Kd.R_below (za5 HO586) hb)
       replace BK574:=Aside0.mk (qaa (zB BK574) hb)
       replace BK580:=Aside0.mk (qaa (zB BK580) hb)
       replace BK588:=Aside0.mk (qaa (zB BK588) hb)
       replace HB:=Aside0.mk (qab (za6 HB GE574 GE580 GE588) hb)
       (try clear hb)
       (try clear hb2)
       (try clear hk)
       (try clear hi)
       refine hK.out _ _ ⟨(blk_cell BK588.out 0).trans rfl,(blk_cell BK588.out 1).trans rfl,(blk_cell BK580.out 0).trans rfl,(blk_cell BK580.out 1).trans rfl⟩ (fun hHeld=>?_)
       clear hK K
       refine norm_ (a':=?_) ?_ ?_
       rotate_left
       ·show Act.put _ (some 68) _=_
        simp only[Act.put,List.setIfInBounds_toArray,List.set_cons_zero,List.set_cons_succ,qaf,qag]
        rfl
       refine qaj (i:=6) (N:=some 69) (v:=?_) (a':=?_) #[true,true,true,true,true,true,true,false,false,false,false,false,false,false,false,false,false] rfl rfl (qah HT_.out (by kernel_rfl)) (fun _ _ _ h=>h) (Or.inl ⟨by rfl,?_⟩) ?_ ?_
       rotate_left
       ·intro w'
        go_simp
        with_reducible rfl
       rotate_left
       ·simp only[Act.put,List.setIfInBounds_toArray,List.set_cons_zero,List.set_cons_succ,qaf,qag]
        rfl
       refine qaj (i:=7) (N:=some 70) (v:=?_) (a':=?_) #[true,true,true,true,true,true,true,true,false,false,false,false,false,false,false,false,false] rfl rfl (qah HT_.out (by kernel_rfl)) (fun _ _ _ h=>h) (Or.inl ⟨by rfl,?_⟩) ?_ ?_
       rotate_left
       ·intro w'
        go_simp
        with_reducible rfl
       rotate_left
       ·simp only[Act.put,List.setIfInBounds_toArray,List.set_cons_zero,List.set_cons_succ,qaf,qag]
        rfl
       refine qaj (i:=8) (N:=some 71) (v:=?_) (a':=?_) #[true,true,true,true,true,true,true,true,true,false,false,false,false,false,false,false,false] rfl rfl (qah HT_.out (by kernel_rfl)) (fun _ _ _ h=>h) (Or.inl ⟨by rfl,?_⟩) ?_ ?_
       rotate_left
       ·intro w'
        go_simp
        with_reducible rfl
       rotate_left
       ·simp only[Act.put,List.setIfInBounds_toArray,List.set_cons_zero,List.set_cons_succ,qaf,qag]
        rfl
       refine qaj (i:=9) (N:=some 72) (v:=?_) (a':=?_) #[true,true,true,true,true,true,true,true,true,true,false,false,false,false,false,false,false] rfl rfl (qah HT_.out (by kernel_rfl)) (fun _ _ _ h=>h) (Or.inl ⟨by rfl,?_⟩) ?_ ?_
       rotate_left
       ·intro w'
        go_simp
        with_reducible rfl
       rotate_left
       ·simp only[Act.put,List.setIfInBounds_toArray,List.set_cons_zero,List.set_cons_succ,qaf,qag]
        rfl
       refine qaj (i:=10) (N:=some 73) (v:=?_) (a':=?_) #[true,true,true,true,true,true,true,true,true,true,true,false,false,false,false,false,false] rfl rfl (qah HT_.out (by kernel_rfl)) (fun _ _ _ h=>h) (Or.inl ⟨by rfl,?_⟩) ?_ ?_
       rotate_left
       ·intro w'
        go_simp
        with_reducible rfl
       rotate_left
       ·simp only[Act.put,List.setIfInBounds_toArray,List.set_cons_zero,List.set_cons_succ,qaf,qag]
        rfl
       refine qaj (i:=12) (N:=some 75) (v:=?_) (a':=?_) #[true,true,true,true,true,true,true,true,true,true,true,false,true,false,false,false,false] rfl rfl (qah HT_.out (by kernel_rfl)) (fun _ _ _ h=>h) (Or.inl ⟨by rfl,?_⟩) ?_ ?_
       rotate_left
       ·intro w'
        go_simp
        with_reducible rfl
       rotate_left
       ·simp only[Act.put,List.setIfInBounds_toArray,List.set_cons_zero,List.set_cons_succ,qaf,qag]
        rfl
       refine qaj (i:=13) (N:=some 76) (v:=?_) (a':=?_) #[true,true,true,true,true,true,true,true,true,true,true,false,true,true,false,false,false] rfl rfl (qah HT_.out (by kernel_rfl)) (fun _ _ _ h=>h) (Or.inl ⟨by rfl,?_⟩) ?_ ?_
       rotate_left
       ·intro w'
        go_simp
        with_reducible rfl
       rotate_left
       ·simp only[Act.put,List.setIfInBounds_toArray,List.set_cons_zero,List.set_cons_succ,qaf,qag]
        rfl
       refine take_ (i:=11) (N:=some 74) (v:=?_) (a':=?_) #[true,true,true,true,true,true,true,true,true,true,true,true,true,true,false,false,false] rfl rfl (qap HT_.out HW_.out (by kernel_rfl)) (fun _ _ _ h=>h) (Or.inl ⟨by rfl,?_⟩) hHeld ?_ ?_
       rotate_left
       ·rintro w' ⟨s0,s1,s2,s3⟩
        go_simp
        with_reducible rfl
       rotate_left
       ·simp only[Act.put,List.setIfInBounds_toArray,List.set_cons_zero,List.set_cons_succ,qaf,qag]
        rfl
       refine qaj (i:=14) (N:=some 77) (v:=?_) (a':=?_) #[true,true,true,true,true,true,true,true,true,true,true,true,true,true,true,false,false] rfl rfl (qah HT_.out (by kernel_rfl)) (fun _ _ _ h=>h) (Or.inl ⟨by rfl,?_⟩) ?_ ?_
       rotate_left
       ·intro w'
        go_simp
        with_reducible rfl
       rotate_left
       ·simp only[Act.put,List.setIfInBounds_toArray,List.set_cons_zero,List.set_cons_succ,qaf,qag]
        rfl
       refine qaj (i:=15) (N:=some 78) (v:=?_) (a':=?_) #[true,true,true,true,true,true,true,true,true,true,true,true,true,true,true,true,false] rfl rfl (qah HT_.out (by kernel_rfl)) (fun _ _ _ h=>h) (Or.inl ⟨by rfl,?_⟩) ?_ ?_
       rotate_left
       ·intro w'
        go_simp
        with_reducible rfl
       rotate_left
       ·simp only[Act.put,List.setIfInBounds_toArray,List.set_cons_zero,List.set_cons_succ,qaf,qag]
        rfl
       refine qaj (i:=16) (N:=some 2) (v:=?_) (a':=?_) #[true,true,true,true,true,true,true,true,true,true,true,true,true,true,true,true,true] rfl rfl (qah HT_.out (by kernel_rfl)) (fun _ _ _ h=>h) (Or.inl ⟨by rfl,?_⟩) ?_ ?_
       rotate_left
       ·intro w'
        go_simp
        with_reducible rfl
       rotate_left
       ·simp only[Act.put,List.setIfInBounds_toArray,List.set_cons_zero,List.set_cons_succ,qaf,qag]
        rfl
       refine done_ (done_of HT_.out (by kernel_rfl)) ?_
       try go_wp2
       go_ret
       exact⟨za16,za6 HB GE574 GE580 GE588⟩
      ·rw[if_neg c45] at H
       have c45b0:(t589 == (wrap64 (t590+1)))=false:=beq_eq_false_iff_ne.mpr c45
       have c45b1:(t589 != (wrap64 (t590+1)))=true:=bne_iff_ne.mpr c45
       obtain rfl:=Option.some.inj H
       try go_wp2_with(first|((with_reducible refine qac (f:=22) rfl ?_);refine zF (some 60) Try.func22 #[.int .i64 (wrap64 (t565+1)),.slice Ao8 t566.length co8] ?_;(with_reducible refine(impl_StockOf.calls kj5 (wrap64 (t565+1)) _ _ t566 t583 t584 true _ ?side1 ?side2 A41.out).mono ?_);(case side1=>repeat(first|exact(Kd.N_reads' HO_4.out).2.2|(with_reducible refine Kd.C_alloc ?_ _)|(with_reducible refine Kd.C_drewN ?_ _)|(with_reducible refine Kd.C_drew ?_)));(case side2=>exact(Kd.N_reads' HO_4.out).2.1);rintro e w56 ⟨v585,rfl,ho0,hb⟩;refine⟨_,rfl,?_⟩;replace HO_4:=Aside0.mk (Kd.N_elder' (za36 HO_4) (Kd.R_base ho0) hb);have HO586:=Aside0.mk (Kd.R_lower (Kd.R_new' (Kd.R_new' ho0 (Kd.R_lt (za5 HO_575001))) (Kd.R_lt (za5 HO_581001))) (below_size (za2 HB GE574 GE580)));replace HO_575001:=Aside0.mk (Kd.R_elder' (za5 HO_575001) (Kd.R_base ho0) hb);replace HO_581001:=Aside0.mk (Kd.R_elder' (za5 HO_581001) (Kd.R_base ho0) hb);replace BK574:=Aside0.mk (qaa (zB BK574) hb);replace BK580:=Aside0.mk (qaa (zB BK580) hb);replace HB:=Aside0.mk (qab (za2 HB GE574 GE580) hb);(try clear hb);(try clear ho0))|((with_reducible refine qae (N:=9) rfl ?_);refine zX (N:=9) (cs:=#[.int .i64 0,.slice none 0 0]) (t:=38) ?_;intro gb588 hg w57 hbox hb;replace HO_4:=Aside0.mk (Kd.N_below (Kd.N_elderB (za36 HO_4) gb588 (Nat.le_of_eq hg.symm)) hb);replace HO_575001:=Aside0.mk (Kd.R_below (za5 HO_575001) hb);replace HO_581001:=Aside0.mk (Kd.R_below (za5 HO_581001) hb);replace HO586:=Aside0.mk (Kd.R_below (za5 HO586) hb);have BK588:=Aside0.mk hbox;have GW588:=zH (w:=w) hg (za2 HB GE574 GE580);have GE588:=GW588;replace HB:=Aside0.mk (qab (za2 HB GE574 GE580) hb);have NB574_588:=zL BK574 hg;have NB588_574:=zG BK574 hg;replace BK574:=Aside0.mk (qaa (zB BK574) hb);have NB580_588:=zL BK580 hg;have NB588_580:=zG BK580 hg;replace BK580:=Aside0.mk (qaa (zB BK580) hb);clear hb hbox hg;have hnb58:=NB588_574.out;have hnc58:=NB574_588.out;have hnb59:=NB588_580.out;have hnc59:=NB580_588.out;obtain⟨hcz60_0,hcz60_1,hfz60_0,hfz60_1⟩:=zC2 BK588;obtain⟨Ao61,co61,eo61⟩:=Kd.R_slice HO586.out;subst eo61))
       have n0_:Aside0 (Kd.N k32 32 ((w57.setCell ⟨gb588,0,none⟩ (.int .i64 t583)).setCell ⟨gb588,1,none⟩ (.slice Ao61 t584.length co61)) w.heap.size (fun k_=>some k_≠(.slice Ao12 t570.length co12:Value).ownBlock∧some k_≠(.slice Ao17 t576.length co17:Value).ownBlock∧some k_≠(.slice Ao61 t584.length co61:Value).ownBlock∧k_≠gb574∧k_≠gb580∧k_≠gb588) (.slice Ao8 t566.length co8) t566):=⟨by(with_reducible repeat(first|apply Kd.N_alloc|apply Kd.N_drewN|apply Kd.N_drew));exact Kd.N_mono (Kd.N_far (p:=⟨gb588,1,none⟩) (Kd.N_far (p:=⟨gb588,0,none⟩) (Kd.N_mono HO_4.out (fun k_ hk=>(⟨hk,hk.2⟩:_∧k_≠gb588))) (fun _ hk=>hk.2) (.int .i64 t583)) (fun _ hk=>hk.2) (.slice Ao61 t584.length co61)) (fun _ hk=>⟨hk.1.1.1.1,⟨hk.1.1.1.2.1,⟨hk.1.1.2,⟨hk.1.1.1.2.2.1,⟨hk.1.1.1.2.2.2,hk.1.2⟩⟩⟩⟩⟩)⟩
       have n1_:Aside0 (Kd.R k49 49 ((w57.setCell ⟨gb588,0,none⟩ (.int .i64 t583)).setCell ⟨gb588,1,none⟩ (.slice Ao61 t584.length co61)) w.heap.size (fun k_=>some k_≠(.slice Ao17 t576.length co17:Value).ownBlock∧some k_≠(.slice Ao61 t584.length co61:Value).ownBlock) (.slice Ao12 t570.length co12) t570):=⟨by(with_reducible repeat(first|apply Kd.R_alloc|apply Kd.R_drewN|apply Kd.R_drew));exact Kd.R_mono (Kd.R_far (p:=⟨gb588,1,none⟩) (Kd.R_far (p:=⟨gb588,0,none⟩) (Kd.R_types HO_575001.out BK588.out (by decide)) (fun _ hk=>hk.2) (.int .i64 t583)) (fun _ hk=>hk.2) (.slice Ao61 t584.length co61)) (fun _ hk=>⟨hk.1.1,hk.1.2⟩)⟩
       have n2_:Aside0 (Kd.R k49 49 ((w57.setCell ⟨gb588,0,none⟩ (.int .i64 t583)).setCell ⟨gb588,1,none⟩ (.slice Ao61 t584.length co61)) w.heap.size (fun k_=>some k_≠(.slice Ao12 t570.length co12:Value).ownBlock∧some k_≠(.slice Ao61 t584.length co61:Value).ownBlock) (.slice Ao17 t576.length co17) t576):=⟨by(with_reducible repeat(first|apply Kd.R_alloc|apply Kd.R_drewN|apply Kd.R_drew));exact Kd.R_mono (Kd.R_far (p:=⟨gb588,1,none⟩) (Kd.R_far (p:=⟨gb588,0,none⟩) (Kd.R_types HO_581001.out BK588.out (by decide)) (fun _ hk=>hk.2) (.int .i64 t583)) (fun _ hk=>hk.2) (.slice Ao61 t584.length co61)) (fun _ hk=>⟨hk.1.1,hk.1.2⟩)⟩
       have n3_:Aside0 (Kd.R k49 49 ((w57.setCell ⟨gb588,0,none⟩ (.int .i64 t583)).setCell ⟨gb588,1,none⟩ (.slice Ao61 t584.length co61)) w.heap.size (fun k_=>some k_≠(.slice Ao12 t570.length co12:Value).ownBlock∧some k_≠(.slice Ao17 t576.length co17:Value).ownBlock) (.slice Ao61 t584.length co61) t584):=⟨by(with_reducible repeat(first|apply Kd.R_alloc|apply Kd.R_drewN|apply Kd.R_drew));exact Kd.R_mono (Kd.R_far (p:=⟨gb588,1,none⟩) (Kd.R_far (p:=⟨gb588,0,none⟩) (Kd.R_types HO586.out BK588.out (by decide)) (fun _ hk=>hk.2) (.int .i64 t583)) (fun _ hk=>hk.2) (.slice Ao61 t584.length co61)) (fun _ hk=>⟨hk.1.1.2,hk.1.2⟩)⟩
       have n4_:Aside0 (((w57.setCell ⟨gb588,0,none⟩ (.int .i64 t583)).setCell ⟨gb588,1,none⟩ (.slice Ao61 t584.length co61)).heap[gb574]?=some (.cells #[.int .i64 t569,.slice Ao12 t570.length co12] 38 (0,0))):=⟨za0 NB574_588 BK574⟩
       have n5_:Aside0 (((w57.setCell ⟨gb588,0,none⟩ (.int .i64 t583)).setCell ⟨gb588,1,none⟩ (.slice Ao61 t584.length co61)).heap[gb580]?=some (.cells #[.int .i64 t575,.slice Ao17 t576.length co17] 38 (0,0))):=⟨za0 NB580_588 BK580⟩
       have n6_:Aside0 (((w57.setCell ⟨gb588,0,none⟩ (.int .i64 t583)).setCell ⟨gb588,1,none⟩ (.slice Ao61 t584.length co61)).heap[gb588]?=some (.cells #[.int .i64 t583,.slice Ao61 t584.length co61] 38 (0,0))):=⟨by(with_reducible repeat(first|refine blk_drewN ?_ _|refine blk_drew ?_|refine blk_alloc ?_ _));refine qad (cs:=#[.int .i64 t583,.slice none 0 0]) ?_ 1 _ rfl;(with_reducible repeat(first|refine blk_drewN ?_ _|refine blk_drew ?_|refine blk_alloc ?_ _));refine qad (cs:=#[.int .i64 0,.slice none 0 0]) ?_ 0 _ rfl;(with_reducible repeat(first|refine blk_drewN ?_ _|refine blk_drew ?_|refine blk_alloc ?_ _));exact BK588.out⟩
       have n7_:Aside0 (Below w.heap.size w ((w57.setCell ⟨gb588,0,none⟩ (.int .i64 t583)).setCell ⟨gb588,1,none⟩ (.slice Ao61 t584.length co61))):=⟨za6 HB GE574 GE580 GE588⟩
       (try clear HO_4)
       (try clear HO_575001)
       (try clear HO_581001)
       (try clear HO586)
       (try clear BK574)
       (try clear BK580)
       (try clear BK588)
       (try clear HB)
       generalize ((w57.setCell ⟨gb588,0,none⟩ (.int .i64 t583)).setCell ⟨gb588,1,none⟩ (.slice Ao61 t584.length co61))=w62 at n0_ n1_ n2_ n3_ n4_ n5_ n6_ n7_ ⊢
       have HO_4:=n0_
       have HO_575001:=n1_
       have HO_581001:=n2_
       have HO586:=n3_
       have BK574:=n4_
       have BK580:=n5_
       have BK588:=n6_
       have HB:=n7_
       clear n0_ n1_ n2_ n3_ n4_ n5_ n6_ n7_
       replace HO_4:=Aside0.mk (Kd.N_drew HO_4.out)
       replace HO_575001:=Aside0.mk (Kd.R_drew HO_575001.out)
       replace HO_581001:=Aside0.mk (Kd.R_drew HO_581001.out)
       replace HO586:=Aside0.mk (Kd.R_drew HO586.out)
       replace BK574:=Aside0.mk (blk_drew BK574.out)
       replace BK580:=Aside0.mk (blk_drew BK580.out)
       replace BK588:=Aside0.mk (blk_drew BK588.out)
       replace HB:=Aside0.mk (qao HB.out)
       refine start_ (n:=17) (S:=fun w'=>w'.cell? ⟨gb588,0,none⟩=some (.int .i64 t583)∧w'.cell? ⟨gb588,1,none⟩=some (.slice Ao61 t584.length co61)∧w'.cell? ⟨gb580,0,none⟩=some (.int .i64 t575)∧w'.cell? ⟨gb580,1,none⟩=some (.slice Ao17 t576.length co17)) (ds:=[]) #[false,false,false,false,false,false,false,false,false,false,false,false,false,false,false,false,false] (by kernel_rfl) rfl rfl ⟨(blk_cell BK588.out 0).trans rfl,(blk_cell BK588.out 1).trans rfl,(blk_cell BK580.out 0).trans rfl,(blk_cell BK580.out 1).trans rfl⟩ (fun hHeld=>?_);refine with_tabW laws_FnStockMore.tab9 laws_FnStockMore.bits9 (fun HT_ HW_=>?_)
       generalize w62.drew=w63 at HO_4 HO_575001 HO_581001 HO586 BK574 BK580 BK588 HB hHeld ⊢
       refine qaj (i:=0) (N:=some 63) (v:=?_) (a':=?_) #[true,false,false,false,false,false,false,false,false,false,false,false,false,false,false,false,false] rfl rfl (qah HT_.out (by kernel_rfl)) (fun _ _ _ h=>h) (Or.inl ⟨by rfl,?_⟩) ?_ ?_
       rotate_left
       ·intro w'
        go_simp
        with_reducible rfl
       rotate_left
       ·simp only[Act.put,List.setIfInBounds_toArray,List.set_cons_zero,List.set_cons_succ,qaf,qag]
        rfl
       refine qaj (i:=1) (N:=some 64) (v:=?_) (a':=?_) #[true,true,false,false,false,false,false,false,false,false,false,false,false,false,false,false,false] rfl rfl (qah HT_.out (by kernel_rfl)) (fun _ _ _ h=>h) (Or.inl ⟨by rfl,?_⟩) ?_ ?_
       rotate_left
       ·intro w'
        go_simp
        with_reducible rfl
       rotate_left
       ·simp only[Act.put,List.setIfInBounds_toArray,List.set_cons_zero,List.set_cons_succ,qaf,qag]
        rfl
       refine take_ (i:=2) (N:=some 65) (v:=?_) (a':=?_) #[true,true,true,false,false,false,false,false,false,false,false,false,false,false,false,false,false] rfl rfl (qap HT_.out HW_.out (by kernel_rfl)) (fun _ _ _ h=>h) (Or.inl ⟨by rfl,?_⟩) hHeld ?_ ?_
       rotate_left
       ·rintro w' ⟨s0,s1,s2,s3⟩
        go_simp
        with_reducible rfl
       rotate_left
       ·simp only[Act.put,List.setIfInBounds_toArray,List.set_cons_zero,List.set_cons_succ,qaf,qag]
        rfl
       refine take_ (i:=4) (N:=some 67) (v:=?_) (a':=?_) #[true,true,true,false,true,false,false,false,false,false,false,false,false,false,false,false,false] rfl rfl (qap HT_.out HW_.out (by kernel_rfl)) (fun _ _ _ h=>h) (Or.inl ⟨by rfl,?_⟩) hHeld ?_ ?_
       rotate_left
       ·rintro w' ⟨s0,s1,s2,s3⟩
        go_simp
        with_reducible rfl
       rotate_left
       ·simp only[Act.put,List.setIfInBounds_toArray,List.set_cons_zero,List.set_cons_succ,qaf,qag]
        rfl
       refine one_ (i:=3) (N:=some 66) #[true,true,true,true,true,false,false,false,false,false,false,false,false,false,false,false,false] rfl rfl (one_of HT_.out (by kernel_rfl)) (by decide) (fun K hK=>?_)
       refine goes_ Try.func25 (by kernel_rfl) rfl #[.agg #[.int .i64 t583,.slice Ao61 t584.length co61]] (by rfl) rfl rfl (by(try simp only[List.map_toArray,List.map_cons,List.map_nil]);first|done|rfl|(simp only[List.length_drop,List.length_take];rfl)) ?_
       with_reducible refine(impl_StockFree.calls kj5 t583 _ _ t584 t589 _ ?side1 ?side2 A43.out).mono ?_
       (case side1=>repeat(first|exact(Kd.R_reads' HO586.out).2.2|(with_reducible refine Kd.C_alloc ?_ _)|(with_reducible refine Kd.C_drewN ?_ _)|(with_reducible refine Kd.C_drew ?_)))
       (case side2=>exact(Kd.R_reads' HO586.out).2.1)
       rintro e w64 ⟨rfl,hb⟩
       refine⟨_,rfl,?_⟩
       replace HO_4:=Aside0.mk (Kd.N_below (za36 HO_4) hb)
       replace HO_575001:=Aside0.mk (Kd.R_below (za5 HO_575001) hb)
       replace HO_581001:=Aside0.mk (Kd.R_below (za5 HO_581001) hb)
       replace HO586:=Aside0.mk (Kd.R_below (za5 HO586) hb)
       replace BK574:=Aside0.mk (qaa (zB BK574) hb)
       replace BK580:=Aside0.mk (qaa (zB BK580) hb)
       replace BK588:=Aside0.mk (qaa (zB BK588) hb)
       replace HB:=Aside0.mk (qab (za6 HB GE574 GE580 GE588) hb)
       (try clear hb)
       (try clear hb2)
       (try clear hk)
       (try clear hi)
       refine hK.out _ _ ⟨(blk_cell BK588.out 0).trans rfl,(blk_cell BK588.out 1).trans rfl,(blk_cell BK580.out 0).trans rfl,(blk_cell BK580.out 1).trans rfl⟩ (fun hHeld=>?_)
       clear hK K
       refine norm_ (a':=?_) ?_ ?_
       rotate_left
       ·show Act.put _ (some 66) _=_
        simp only[Act.put,List.setIfInBounds_toArray,List.set_cons_zero,List.set_cons_succ,qaf,qag]
        rfl
       refine one_ (i:=5) (N:=some 68) #[true,true,true,true,true,true,false,false,false,false,false,false,false,false,false,false,false] rfl rfl (one_of HT_.out (by kernel_rfl)) (by decide) (fun K hK=>?_)
       refine goes_ Try.func25 (by kernel_rfl) rfl #[.agg #[.int .i64 t575,.slice Ao17 t576.length co17]] (by rfl) rfl rfl (by(try simp only[List.map_toArray,List.map_cons,List.map_nil]);first|done|rfl|(simp only[List.length_drop,List.length_take];rfl)) ?_
       with_reducible refine(impl_StockFree.calls kj5 t575 _ _ t576 t590 _ ?side1 ?side2 A44.out).mono ?_
       (case side1=>repeat(first|exact(Kd.R_reads' HO_581001.out).2.2|(with_reducible refine Kd.C_alloc ?_ _)|(with_reducible refine Kd.C_drewN ?_ _)|(with_reducible refine Kd.C_drew ?_)))
       (case side2=>exact(Kd.R_reads' HO_581001.out).2.1)
       rintro e w65 ⟨rfl,hb⟩
       refine⟨_,rfl,?_⟩
       replace HO_4:=Aside0.mk (Kd.N_below (za36 HO_4) hb)
       replace HO_575001:=Aside0.mk (Kd.R_below (za5 HO_575001) hb)
       replace HO_581001:=Aside0.mk (Kd.R_below (za5 HO_581001) hb)
       replace HO586:=Aside0.mk (Kd.R_below (za5 HO586) hb)
       replace BK574:=Aside0.mk (qaa (zB BK574) hb)
       replace BK580:=Aside0.mk (qaa (zB BK580) hb)
       replace BK588:=Aside0.mk (qaa (zB BK588) hb)
       replace HB:=Aside0.mk (qab (za6 HB GE574 GE580 GE588) hb)
       (try clear hb)
       (try clear hb2)
       (try clear hk)
       (try clear hi)
       refine hK.out _ _ ⟨(blk_cell BK588.out 0).trans rfl,(blk_cell BK588.out 1).trans rfl,(blk_cell BK580.out 0).trans rfl,(blk_cell BK580.out 1).trans rfl⟩ (fun hHeld=>?_)
       clear hK K
       refine norm_ (a':=?_) ?_ ?_
       rotate_left
       ·show Act.put _ (some 68) _=_
        simp only[Act.put,List.setIfInBounds_toArray,List.set_cons_zero,List.set_cons_succ,qaf,qag]
        rfl
       refine qaj (i:=6) (N:=some 69) (v:=?_) (a':=?_) #[true,true,true,true,true,true,true,false,false,false,false,false,false,false,false,false,false] rfl rfl (qah HT_.out (by kernel_rfl)) (fun _ _ _ h=>h) (Or.inl ⟨by rfl,?_⟩) ?_ ?_
       rotate_left
       ·intro w'
        go_simp
        with_reducible rfl
       rotate_left
       ·simp only[Act.put,List.setIfInBounds_toArray,List.set_cons_zero,List.set_cons_succ,qaf,qag]
        rfl
       refine qaj (i:=7) (N:=some 70) (v:=?_) (a':=?_) #[true,true,true,true,true,true,true,true,false,false,false,false,false,false,false,false,false] rfl rfl (qah HT_.out (by kernel_rfl)) (fun _ _ _ h=>h) (Or.inl ⟨by rfl,?_⟩) ?_ ?_
       rotate_left
       ·intro w'
        go_simp
        with_reducible rfl
       rotate_left
       ·simp only[Act.put,List.setIfInBounds_toArray,List.set_cons_zero,List.set_cons_succ,qaf,qag]
        rfl
       refine qaj (i:=8) (N:=some 71) (v:=?_) (a':=?_) #[true,true,true,true,true,true,true,true,true,false,false,false,false,false,false,false,false] rfl rfl (qah HT_.out (by kernel_rfl)) (fun _ _ _ h=>h) (Or.inl ⟨by rfl,?_⟩) ?_ ?_
       rotate_left
       ·intro w'
        go_simp
        with_reducible rfl
       rotate_left
       ·simp only[Act.put,List.setIfInBounds_toArray,List.set_cons_zero,List.set_cons_succ,qaf,qag]
        rfl
       refine qaj (i:=9) (N:=some 72) (v:=?_) (a':=?_) #[true,true,true,true,true,true,true,true,true,true,false,false,false,false,false,false,false] rfl rfl (qah HT_.out (by kernel_rfl)) (fun _ _ _ h=>h) (Or.inl ⟨by rfl,?_⟩) ?_ ?_
       rotate_left
       ·intro w'
        go_simp
        with_reducible rfl
       rotate_left
       ·simp only[Act.put,List.setIfInBounds_toArray,List.set_cons_zero,List.set_cons_succ,qaf,qag]
        rfl
       refine qaj (i:=10) (N:=some 73) (v:=undef) (a':=?_) #[true,true,true,true,true,true,true,true,true,true,true,false,false,false,false,false,false] rfl rfl (qah HT_.out (by kernel_rfl)) (fun _ _ _ h=>h) (Or.inr ⟨by rfl,rfl⟩) ?_ ?_
       rotate_left
       ·simp only[Act.put,List.setIfInBounds_toArray,List.set_cons_zero,List.set_cons_succ,qaf,qag]
        rfl
       refine qaj (i:=11) (N:=some 74) (v:=undef) (a':=?_) #[true,true,true,true,true,true,true,true,true,true,true,true,false,false,false,false,false] rfl rfl (qah HT_.out (by kernel_rfl)) (fun _ _ _ h=>h) (Or.inr ⟨by rfl,rfl⟩) ?_ ?_
       rotate_left
       ·simp only[Act.put,List.setIfInBounds_toArray,List.set_cons_zero,List.set_cons_succ,qaf,qag]
        rfl
       refine qaj (i:=12) (N:=some 75) (v:=undef) (a':=?_) #[true,true,true,true,true,true,true,true,true,true,true,true,true,false,false,false,false] rfl rfl (qah HT_.out (by kernel_rfl)) (fun _ _ _ h=>h) (Or.inr ⟨by rfl,rfl⟩) ?_ ?_
       rotate_left
       ·simp only[Act.put,List.setIfInBounds_toArray,List.set_cons_zero,List.set_cons_succ,qaf,qag]
        rfl
       refine qaj (i:=13) (N:=some 76) (v:=undef) (a':=?_) #[true,true,true,true,true,true,true,true,true,true,true,true,true,true,false,false,false] rfl rfl (qah HT_.out (by kernel_rfl)) (fun _ _ _ h=>h) (Or.inr ⟨by rfl,rfl⟩) ?_ ?_
       rotate_left
       ·simp only[Act.put,List.setIfInBounds_toArray,List.set_cons_zero,List.set_cons_succ,qaf,qag]
        rfl
       refine qaj (i:=14) (N:=some 77) (v:=undef) (a':=?_) #[true,true,true,true,true,true,true,true,true,true,true,true,true,true,true,false,false] rfl rfl (qah HT_.out (by kernel_rfl)) (fun _ _ _ h=>h) (Or.inr ⟨by rfl,rfl⟩) ?_ ?_
       rotate_left
       ·simp only[Act.put,List.setIfInBounds_toArray,List.set_cons_zero,List.set_cons_succ,qaf,qag]
        rfl
       refine qaj (i:=15) (N:=some 78) (v:=?_) (a':=?_) #[true,true,true,true,true,true,true,true,true,true,true,true,true,true,true,true,false] rfl rfl (qah HT_.out (by kernel_rfl)) (fun _ _ _ h=>h) (Or.inl ⟨by rfl,?_⟩) ?_ ?_
       rotate_left
       ·intro w'
        go_simp
        with_reducible rfl
       rotate_left
       ·simp only[Act.put,List.setIfInBounds_toArray,List.set_cons_zero,List.set_cons_succ,qaf,qag]
        rfl
       refine qaj (i:=16) (N:=some 2) (v:=?_) (a':=?_) #[true,true,true,true,true,true,true,true,true,true,true,true,true,true,true,true,true] rfl rfl (qah HT_.out (by kernel_rfl)) (fun _ _ _ h=>h) (Or.inl ⟨by rfl,?_⟩) ?_ ?_
       rotate_left
       ·intro w'
        go_simp
        with_reducible rfl
       rotate_left
       ·simp only[Act.put,List.setIfInBounds_toArray,List.set_cons_zero,List.set_cons_succ,qaf,qag]
        rfl
       refine done_ (done_of HT_.out (by kernel_rfl)) ?_
       try go_wp2
       go_ret
       exact⟨za16,za6 HB GE574 GE580 GE588⟩
     ·replace c42:=Bool.eq_false_iff.mpr c42
      subst c42
      have H1:(some false)=some r:=by rw[if_neg (show ¬(false=true) by decide)] at H;exact H
      clear H
      have H:=H1
      clear H1
      obtain rfl:=Option.some.inj H
      try go_wp2_with(first|((with_reducible refine qac (f:=22) rfl ?_);refine zF (some 60) Try.func22 #[.int .i64 (wrap64 (t565+1)),.slice Ao8 t566.length co8] ?_;(with_reducible refine(impl_StockOf.calls kj5 (wrap64 (t565+1)) _ _ t566 t583 t584 false _ ?side1 ?side2 A41.out).mono ?_);(case side1=>repeat(first|exact(Kd.N_reads' HO_4.out).2.2|(with_reducible refine Kd.C_alloc ?_ _)|(with_reducible refine Kd.C_drewN ?_ _)|(with_reducible refine Kd.C_drew ?_)));(case side2=>exact(Kd.N_reads' HO_4.out).2.1);rintro e w66 ⟨v585,rfl,ho0,hb⟩;refine⟨_,rfl,?_⟩;replace HO_4:=Aside0.mk (Kd.N_elder' (za36 HO_4) (Kd.R_base ho0) hb);have HO586:=Aside0.mk (Kd.R_lower (Kd.R_new' (Kd.R_new' ho0 (Kd.R_lt (za5 HO_575001))) (Kd.R_lt (za5 HO_581001))) (below_size (za2 HB GE574 GE580)));replace HO_575001:=Aside0.mk (Kd.R_elder' (za5 HO_575001) (Kd.R_base ho0) hb);replace HO_581001:=Aside0.mk (Kd.R_elder' (za5 HO_581001) (Kd.R_base ho0) hb);replace BK574:=Aside0.mk (qaa (zB BK574) hb);replace BK580:=Aside0.mk (qaa (zB BK580) hb);replace HB:=Aside0.mk (qab (za2 HB GE574 GE580) hb);(try clear hb);(try clear ho0))|((with_reducible refine qae (N:=9) rfl ?_);refine zX (N:=9) (cs:=#[.int .i64 0,.slice none 0 0]) (t:=38) ?_;intro gb588 hg w67 hbox hb;replace HO_4:=Aside0.mk (Kd.N_below (Kd.N_elderB (za36 HO_4) gb588 (Nat.le_of_eq hg.symm)) hb);replace HO_575001:=Aside0.mk (Kd.R_below (za5 HO_575001) hb);replace HO_581001:=Aside0.mk (Kd.R_below (za5 HO_581001) hb);replace HO586:=Aside0.mk (Kd.R_below (za5 HO586) hb);have BK588:=Aside0.mk hbox;have GW588:=zH (w:=w) hg (za2 HB GE574 GE580);have GE588:=GW588;replace HB:=Aside0.mk (qab (za2 HB GE574 GE580) hb);have NB574_588:=zL BK574 hg;have NB588_574:=zG BK574 hg;replace BK574:=Aside0.mk (qaa (zB BK574) hb);have NB580_588:=zL BK580 hg;have NB588_580:=zG BK580 hg;replace BK580:=Aside0.mk (qaa (zB BK580) hb);clear hb hbox hg;have hnb68:=NB588_574.out;have hnc68:=NB574_588.out;have hnb69:=NB588_580.out;have hnc69:=NB580_588.out;obtain⟨hcz70_0,hcz70_1,hfz70_0,hfz70_1⟩:=zC2 BK588;obtain⟨Ao71,co71,eo71⟩:=Kd.R_slice HO586.out;subst eo71))
      have n0_:Aside0 (Kd.N k32 32 ((w67.setCell ⟨gb588,0,none⟩ (.int .i64 t583)).setCell ⟨gb588,1,none⟩ (.slice Ao71 t584.length co71)) w.heap.size (fun k_=>some k_≠(.slice Ao12 t570.length co12:Value).ownBlock∧some k_≠(.slice Ao17 t576.length co17:Value).ownBlock∧some k_≠(.slice Ao71 t584.length co71:Value).ownBlock∧k_≠gb574∧k_≠gb580∧k_≠gb588) (.slice Ao8 t566.length co8) t566):=⟨by(with_reducible repeat(first|apply Kd.N_alloc|apply Kd.N_drewN|apply Kd.N_drew));exact Kd.N_mono (Kd.N_far (p:=⟨gb588,1,none⟩) (Kd.N_far (p:=⟨gb588,0,none⟩) (Kd.N_mono HO_4.out (fun k_ hk=>(⟨hk,hk.2⟩:_∧k_≠gb588))) (fun _ hk=>hk.2) (.int .i64 t583)) (fun _ hk=>hk.2) (.slice Ao71 t584.length co71)) (fun _ hk=>⟨hk.1.1.1.1,⟨hk.1.1.1.2.1,⟨hk.1.1.2,⟨hk.1.1.1.2.2.1,⟨hk.1.1.1.2.2.2,hk.1.2⟩⟩⟩⟩⟩)⟩
      have n1_:Aside0 (Kd.R k49 49 ((w67.setCell ⟨gb588,0,none⟩ (.int .i64 t583)).setCell ⟨gb588,1,none⟩ (.slice Ao71 t584.length co71)) w.heap.size (fun k_=>some k_≠(.slice Ao17 t576.length co17:Value).ownBlock∧some k_≠(.slice Ao71 t584.length co71:Value).ownBlock) (.slice Ao12 t570.length co12) t570):=⟨by(with_reducible repeat(first|apply Kd.R_alloc|apply Kd.R_drewN|apply Kd.R_drew));exact Kd.R_mono (Kd.R_far (p:=⟨gb588,1,none⟩) (Kd.R_far (p:=⟨gb588,0,none⟩) (Kd.R_types HO_575001.out BK588.out (by decide)) (fun _ hk=>hk.2) (.int .i64 t583)) (fun _ hk=>hk.2) (.slice Ao71 t584.length co71)) (fun _ hk=>⟨hk.1.1,hk.1.2⟩)⟩
      have n2_:Aside0 (Kd.R k49 49 ((w67.setCell ⟨gb588,0,none⟩ (.int .i64 t583)).setCell ⟨gb588,1,none⟩ (.slice Ao71 t584.length co71)) w.heap.size (fun k_=>some k_≠(.slice Ao12 t570.length co12:Value).ownBlock∧some k_≠(.slice Ao71 t584.length co71:Value).ownBlock) (.slice Ao17 t576.length co17) t576):=⟨by(with_reducible repeat(first|apply Kd.R_alloc|apply Kd.R_drewN|apply Kd.R_drew));exact Kd.R_mono (Kd.R_far (p:=⟨gb588,1,none⟩) (Kd.R_far (p:=⟨gb588,0,none⟩) (Kd.R_types HO_581001.out BK588.out (by decide)) (fun _ hk=>hk.2) (.int .i64 t583)) (fun _ hk=>hk.2) (.slice Ao71 t584.length co71)) (fun _ hk=>⟨hk.1.1,hk.1.2⟩)⟩
      have n3_:Aside0 (Kd.R k49 49 ((w67.setCell ⟨gb588,0,none⟩ (.int .i64 t583)).setCell ⟨gb588,1,none⟩ (.slice Ao71 t584.length co71)) w.heap.size (fun k_=>some k_≠(.slice Ao12 t570.length co12:Value).ownBlock∧some k_≠(.slice Ao17 t576.length co17:Value).ownBlock) (.slice Ao71 t584.length co71) t584):=⟨by(with_reducible repeat(first|apply Kd.R_alloc|apply Kd.R_drewN|apply Kd.R_drew));exact Kd.R_mono (Kd.R_far (p:=⟨gb588,1,none⟩) (Kd.R_far (p:=⟨gb588,0,none⟩) (Kd.R_types HO586.out BK588.out (by decide)) (fun _ hk=>hk.2) (.int .i64 t583)) (fun _ hk=>hk.2) (.slice Ao71 t584.length co71)) (fun _ hk=>⟨hk.1.1.2,hk.1.2⟩)⟩
      have n4_:Aside0 (((w67.setCell ⟨gb588,0,none⟩ (.int .i64 t583)).setCell ⟨gb588,1,none⟩ (.slice Ao71 t584.length co71)).heap[gb574]?=some (.cells #[.int .i64 t569,.slice Ao12 t570.length co12] 38 (0,0))):=⟨za0 NB574_588 BK574⟩
      have n5_:Aside0 (((w67.setCell ⟨gb588,0,none⟩ (.int .i64 t583)).setCell ⟨gb588,1,none⟩ (.slice Ao71 t584.length co71)).heap[gb580]?=some (.cells #[.int .i64 t575,.slice Ao17 t576.length co17] 38 (0,0))):=⟨za0 NB580_588 BK580⟩
      have n6_:Aside0 (((w67.setCell ⟨gb588,0,none⟩ (.int .i64 t583)).setCell ⟨gb588,1,none⟩ (.slice Ao71 t584.length co71)).heap[gb588]?=some (.cells #[.int .i64 t583,.slice Ao71 t584.length co71] 38 (0,0))):=⟨by(with_reducible repeat(first|refine blk_drewN ?_ _|refine blk_drew ?_|refine blk_alloc ?_ _));refine qad (cs:=#[.int .i64 t583,.slice none 0 0]) ?_ 1 _ rfl;(with_reducible repeat(first|refine blk_drewN ?_ _|refine blk_drew ?_|refine blk_alloc ?_ _));refine qad (cs:=#[.int .i64 0,.slice none 0 0]) ?_ 0 _ rfl;(with_reducible repeat(first|refine blk_drewN ?_ _|refine blk_drew ?_|refine blk_alloc ?_ _));exact BK588.out⟩
      have n7_:Aside0 (Below w.heap.size w ((w67.setCell ⟨gb588,0,none⟩ (.int .i64 t583)).setCell ⟨gb588,1,none⟩ (.slice Ao71 t584.length co71))):=⟨za6 HB GE574 GE580 GE588⟩
      (try clear HO_4)
      (try clear HO_575001)
      (try clear HO_581001)
      (try clear HO586)
      (try clear BK574)
      (try clear BK580)
      (try clear BK588)
      (try clear HB)
      generalize ((w67.setCell ⟨gb588,0,none⟩ (.int .i64 t583)).setCell ⟨gb588,1,none⟩ (.slice Ao71 t584.length co71))=w72 at n0_ n1_ n2_ n3_ n4_ n5_ n6_ n7_ ⊢
      have HO_4:=n0_
      have HO_575001:=n1_
      have HO_581001:=n2_
      have HO586:=n3_
      have BK574:=n4_
      have BK580:=n5_
      have BK588:=n6_
      have HB:=n7_
      clear n0_ n1_ n2_ n3_ n4_ n5_ n6_ n7_
      replace HO_4:=Aside0.mk (Kd.N_drew HO_4.out)
      replace HO_575001:=Aside0.mk (Kd.R_drew HO_575001.out)
      replace HO_581001:=Aside0.mk (Kd.R_drew HO_581001.out)
      replace HO586:=Aside0.mk (Kd.R_drew HO586.out)
      replace BK574:=Aside0.mk (blk_drew BK574.out)
      replace BK580:=Aside0.mk (blk_drew BK580.out)
      replace BK588:=Aside0.mk (blk_drew BK588.out)
      replace HB:=Aside0.mk (qao HB.out)
      refine start_ (n:=17) (S:=fun w'=>True) (ds:=[]) #[false,false,false,false,false,false,false,false,false,false,false,false,false,false,false,false,false] (by kernel_rfl) rfl rfl trivial (fun hHeld=>?_);refine with_tabW laws_FnStockMore.tab9 laws_FnStockMore.bits9 (fun HT_ HW_=>?_)
      generalize w72.drew=w73 at HO_4 HO_575001 HO_581001 HO586 BK574 BK580 BK588 HB hHeld ⊢
      refine qaj (i:=0) (N:=some 63) (v:=?_) (a':=?_) #[true,false,false,false,false,false,false,false,false,false,false,false,false,false,false,false,false] rfl rfl (qah HT_.out (by kernel_rfl)) (fun _ _ _ h=>h) (Or.inl ⟨by rfl,?_⟩) ?_ ?_
      rotate_left
      ·intro w'
       go_simp
       with_reducible rfl
      rotate_left
      ·simp only[Act.put,List.setIfInBounds_toArray,List.set_cons_zero,List.set_cons_succ,qaf,qag]
       rfl
      refine qaj (i:=1) (N:=some 64) (v:=?_) (a':=?_) #[true,true,false,false,false,false,false,false,false,false,false,false,false,false,false,false,false] rfl rfl (qah HT_.out (by kernel_rfl)) (fun _ _ _ h=>h) (Or.inl ⟨by rfl,?_⟩) ?_ ?_
      rotate_left
      ·intro w'
       go_simp
       with_reducible rfl
      rotate_left
      ·simp only[Act.put,List.setIfInBounds_toArray,List.set_cons_zero,List.set_cons_succ,qaf,qag]
       rfl
      refine qaj (i:=2) (N:=some 65) (v:=undef) (a':=?_) #[true,true,true,false,false,false,false,false,false,false,false,false,false,false,false,false,false] rfl rfl (qah HT_.out (by kernel_rfl)) (fun _ _ _ h=>h) (Or.inr ⟨by rfl,rfl⟩) ?_ ?_
      rotate_left
      ·simp only[Act.put,List.setIfInBounds_toArray,List.set_cons_zero,List.set_cons_succ,qaf,qag]
       rfl
      refine qaj (i:=3) (N:=some 66) (v:=undef) (a':=?_) #[true,true,true,true,false,false,false,false,false,false,false,false,false,false,false,false,false] rfl rfl (qah HT_.out (by kernel_rfl)) (fun _ _ _ h=>h) (Or.inr ⟨by rfl,rfl⟩) ?_ ?_
      rotate_left
      ·simp only[Act.put,List.setIfInBounds_toArray,List.set_cons_zero,List.set_cons_succ,qaf,qag]
       rfl
      refine qaj (i:=4) (N:=some 67) (v:=undef) (a':=?_) #[true,true,true,true,true,false,false,false,false,false,false,false,false,false,false,false,false] rfl rfl (qah HT_.out (by kernel_rfl)) (fun _ _ _ h=>h) (Or.inr ⟨by rfl,rfl⟩) ?_ ?_
      rotate_left
      ·simp only[Act.put,List.setIfInBounds_toArray,List.set_cons_zero,List.set_cons_succ,qaf,qag]
       rfl
      refine qaj (i:=5) (N:=some 68) (v:=undef) (a':=?_) #[true,true,true,true,true,true,false,false,false,false,false,false,false,false,false,false,false] rfl rfl (qah HT_.out (by kernel_rfl)) (fun _ _ _ h=>h) (Or.inr ⟨by rfl,rfl⟩) ?_ ?_
      rotate_left
      ·simp only[Act.put,List.setIfInBounds_toArray,List.set_cons_zero,List.set_cons_succ,qaf,qag]
       rfl
      refine qaj (i:=6) (N:=some 69) (v:=undef) (a':=?_) #[true,true,true,true,true,true,true,false,false,false,false,false,false,false,false,false,false] rfl rfl (qah HT_.out (by kernel_rfl)) (fun _ _ _ h=>h) (Or.inr ⟨by rfl,rfl⟩) ?_ ?_
      rotate_left
      ·simp only[Act.put,List.setIfInBounds_toArray,List.set_cons_zero,List.set_cons_succ,qaf,qag]
       rfl
      refine qaj (i:=7) (N:=some 70) (v:=undef) (a':=?_) #[true,true,true,true,true,true,true,true,false,false,false,false,false,false,false,false,false] rfl rfl (qah HT_.out (by kernel_rfl)) (fun _ _ _ h=>h) (Or.inr ⟨by rfl,rfl⟩) ?_ ?_
      rotate_left
      ·simp only[Act.put,List.setIfInBounds_toArray,List.set_cons_zero,List.set_cons_succ,qaf,qag]
       rfl
      refine qaj (i:=8) (N:=some 71) (v:=?_) (a':=?_) #[true,true,true,true,true,true,true,true,true,false,false,false,false,false,false,false,false] rfl rfl (qah HT_.out (by kernel_rfl)) (fun _ _ _ h=>h) (Or.inl ⟨by rfl,?_⟩) ?_ ?_
      rotate_left
      ·intro w'
       go_simp
       with_reducible rfl
      rotate_left
      ·simp only[Act.put,List.setIfInBounds_toArray,List.set_cons_zero,List.set_cons_succ,qaf,qag]
       rfl
      refine qaj (i:=9) (N:=some 72) (v:=?_) (a':=?_) #[true,true,true,true,true,true,true,true,true,true,false,false,false,false,false,false,false] rfl rfl (qah HT_.out (by kernel_rfl)) (fun _ _ _ h=>h) (Or.inl ⟨by rfl,?_⟩) ?_ ?_
      rotate_left
      ·intro w'
       go_simp
       with_reducible rfl
      rotate_left
      ·simp only[Act.put,List.setIfInBounds_toArray,List.set_cons_zero,List.set_cons_succ,qaf,qag]
       rfl
      refine qaj (i:=10) (N:=some 73) (v:=undef) (a':=?_) #[true,true,true,true,true,true,true,true,true,true,true,false,false,false,false,false,false] rfl rfl (qah HT_.out (by kernel_rfl)) (fun _ _ _ h=>h) (Or.inr ⟨by rfl,rfl⟩) ?_ ?_
      rotate_left
      ·simp only[Act.put,List.setIfInBounds_toArray,List.set_cons_zero,List.set_cons_succ,qaf,qag]
       rfl
      refine qaj (i:=11) (N:=some 74) (v:=undef) (a':=?_) #[true,true,true,true,true,true,true,true,true,true,true,true,false,false,false,false,false] rfl rfl (qah HT_.out (by kernel_rfl)) (fun _ _ _ h=>h) (Or.inr ⟨by rfl,rfl⟩) ?_ ?_
      rotate_left
      ·simp only[Act.put,List.setIfInBounds_toArray,List.set_cons_zero,List.set_cons_succ,qaf,qag]
       rfl
      refine qaj (i:=12) (N:=some 75) (v:=undef) (a':=?_) #[true,true,true,true,true,true,true,true,true,true,true,true,true,false,false,false,false] rfl rfl (qah HT_.out (by kernel_rfl)) (fun _ _ _ h=>h) (Or.inr ⟨by rfl,rfl⟩) ?_ ?_
      rotate_left
      ·simp only[Act.put,List.setIfInBounds_toArray,List.set_cons_zero,List.set_cons_succ,qaf,qag]
       rfl
      refine qaj (i:=13) (N:=some 76) (v:=undef) (a':=?_) #[true,true,true,true,true,true,true,true,true,true,true,true,true,true,false,false,false] rfl rfl (qah HT_.out (by kernel_rfl)) (fun _ _ _ h=>h) (Or.inr ⟨by rfl,rfl⟩) ?_ ?_
      rotate_left
      ·simp only[Act.put,List.setIfInBounds_toArray,List.set_cons_zero,List.set_cons_succ,qaf,qag]
       rfl
      refine qaj (i:=14) (N:=some 77) (v:=undef) (a':=?_) #[true,true,true,true,true,true,true,true,true,true,true,true,true,true,true,false,false] rfl rfl (qah HT_.out (by kernel_rfl)) (fun _ _ _ h=>h) (Or.inr ⟨by rfl,rfl⟩) ?_ ?_
      rotate_left
      ·simp only[Act.put,List.setIfInBounds_toArray,List.set_cons_zero,List.set_cons_succ,qaf,qag]
       rfl
      refine qaj (i:=15) (N:=some 78) (v:=?_) (a':=?_) #[true,true,true,true,true,true,true,true,true,true,true,true,true,true,true,true,false] rfl rfl (qah HT_.out (by kernel_rfl)) (fun _ _ _ h=>h) (Or.inl ⟨by rfl,?_⟩) ?_ ?_
      rotate_left
      ·intro w'
       go_simp
       with_reducible rfl
      rotate_left
      ·simp only[Act.put,List.setIfInBounds_toArray,List.set_cons_zero,List.set_cons_succ,qaf,qag]
       rfl
      refine qaj (i:=16) (N:=some 2) (v:=?_) (a':=?_) #[true,true,true,true,true,true,true,true,true,true,true,true,true,true,true,true,true] rfl rfl (qah HT_.out (by kernel_rfl)) (fun _ _ _ h=>h) (Or.inl ⟨by rfl,?_⟩) ?_ ?_
      rotate_left
      ·intro w'
       go_simp
       with_reducible rfl
      rotate_left
      ·simp only[Act.put,List.setIfInBounds_toArray,List.set_cons_zero,List.set_cons_succ,qaf,qag]
       rfl
      refine done_ (done_of HT_.out (by kernel_rfl)) ?_
      try go_wp2
      go_ret
      exact⟨za16,za6 HB GE574 GE580 GE588⟩
def laws_FnStockMore.Pure:Prop:=∀(l0:List Int),l0.length≤maxLen→l0.length*1≤140737488351232→(∀x ∈ l0,(Lit.int .u8 x).wf=true)→∃k,laws_FnStockMore.f k l0=some true
theorem laws_FnStockMore.walk (P:laws_FnStockMore.Pure) (a0:Option Addr) (len0 cap0:Nat) (z0:List Int) (w:World) (w0:(a0=none∧len0=0∧cap0=0∧z0=[])∨∃x,a0=some x∧len0≤cap0∧cap0≤maxLen∧z0.length=cap0∧(∀i,i<z0.length→w.cell? (x.add i)=some (.int .u8 (z0.getD i 0)))∧∀n ∈ z0,(Lit.int .u8 n).wf=true) (y0:len0*1≤140737488351232) :
  Calls Try.prog 5 #[.slice a0 len0 cap0] w fun e w'=>e=.returned (.bool true)∧Below w.heap.size w w':=by
 obtain⟨l0,rfl,hr0,hm0,hw0,hc0⟩:=ReadsInt.ofRowC w0
 obtain⟨k,h⟩:=P l0 hm0 y0 hw0
 refine(laws_FnStockMore.calls k _ _ l0 true w (Kd.C_of_reads (d:=(0:Int)) (h1:=fun _=>rfl) hr0) hc0 h).mono ?_
 rintro e w' ⟨rfl,hd⟩
 exact⟨rfl,hd⟩
end Go.Proofs.Ytmbdphefnalenaa.Print
