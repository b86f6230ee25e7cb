-- Written by squeeze.py: not trusted, Lean checks it.
import Derived.Test.YtmbdphefnalenaaZK
import Derived.Test.YtmbdphefnalenaaZa0
import Derived.Test.YtmbdphefnalenaaZb4
import Derived.Test.YtmbdphefnalenaaZc8
import Derived.Test.YtmbdphefnalenaaZj2
namespace Go.Proofs.Ytmbdphefnalenaa.Print
open Go.RowKit Go.Proofs.YtmbdphefnalenaaW.PrintWords Go.Proofs.YtmbdphefnalenaaW.PrintLast Go.Proofs.YtmbdphefnalenaaW.PrintMore
attribute [local go_sem] max2_int min2_int max_two min_two max_three min_three max_four min_four
set_option linter.unusedVariables false
set_option linter.unusedSimpArgs false
mutual
def laws_FnStockApart.j0:Nat→List Int→List Int→Bool→Option (Bool)
 |0,_,_,_=>none
 |k+1,x0,x1,x26=>if x26=true then(some true) else((spec_DrawStockDo.f k x0).bind fun bt669=>((spec_StockDo.f k bt669.1 bt669.2.1 bt669.2.2.1 bt669.2.2.2.1 bt669.2.2.2.2).bind fun bt680=>((impl_StockDo.f k bt669.1 bt669.2.1 bt669.2.2.1 bt669.2.2.2.1 bt669.2.2.2.2).bind fun bt686=>(if(bt686.2.2 != bt680.2.2)=true then(laws_FnStockApart.j1 k x1 bt680.2.2 bt686.2.2 true bt669.1 bt669.2.1 bt669.2.2.1 bt669.2.2.2.1 bt669.2.2.2.2 bt680.1 bt680.2.1 bt686.1 bt686.2.1) else((laws_lnStock.f k bt686.1 bt686.2.1 bt680.1 bt680.2.1).bind fun t692=>(if t692=true then(laws_FnStockApart.j1 k x1 bt680.2.2 bt686.2.2 (!bt686.2.2) bt669.1 bt669.2.1 bt669.2.2.1 bt669.2.2.2.1 bt669.2.2.2.2 bt680.1 bt680.2.1 bt686.1 bt686.2.1) else(laws_FnStockApart.j1 k x1 bt680.2.2 bt686.2.2 true bt669.1 bt669.2.1 bt669.2.2.1 bt669.2.2.2.1 bt669.2.2.2.2 bt680.1 bt680.2.1 bt686.1 bt686.2.1)))))))
def laws_FnStockApart.j1:Nat→List Int→Bool→Bool→Bool→Int→List (S49)→Int→Int→List Int→Int→List (S49)→Int→List (S49)→Option (Bool)
 |0,_,_,_,_,_,_,_,_,_,_,_,_,_=>none
 |k+1,x1,x8,x10,x56,x679000,x679001,x680000,x680001,x680002,x686000,x686001,x692000,x692001=>if x56=true then(if(x10 == x8)=true then((laws_lnStock.f k x692000 x692001 x686000 x686001).bind fun t693=>(some t693)) else(some false)) else((some (([1,2,3]:List Int):List Int)).bind fun y694=>(if 0≤(Int.tmod (wrap64 ((x1.length:Int) / 6)) 3) then(if(Int.tmod (wrap64 ((x1.length:Int) / 6)) 3)<(y694.length:Int) then(if(rd y694 (Int.tmod (wrap64 ((x1.length:Int) / 6)) 3))=1 then(laws_FnStockApart.j2 k (1+((x1.length:Int)%6)) x679000 x679001 x680000 x680001 x680002 x692000 x692001 (rd y694 (Int.tmod (wrap64 ((x1.length:Int) / 6)) 3)) (1+((x1.length:Int)%6)) (([1]:List Int))) else(laws_FnStockApart.j2 k (1+((x1.length:Int)%6)) x679000 x679001 x680000 x680001 x680002 x692000 x692001 (rd y694 (Int.tmod (wrap64 ((x1.length:Int) / 6)) 3)) (1+((x1.length:Int)%6)) ([]:List Int))) else(none)) else(none)))
def laws_FnStockApart.j2:Nat→Int→Int→List (S49)→Int→Int→List Int→Int→List (S49)→Int→Int→List Int→Option (Bool)
 |0,_,_,_,_,_,_,_,_,_,_,_=>none
 |k+1,x11,x679000,x679001,x680000,x680001,x680002,x692000,x692001,x699000,x699001,x699002=>(impl_StockDo.f k x692000 x692001 x699000 x699001 x699002).bind fun bt702=>((impl_StockDo.f k x679000 x679001 x699000 x699001 x699002).bind fun bt708=>(if x11=x680001 then(laws_FnStockApart.j3 k true x680000 x680001 x680002 bt702.1 bt702.2.1 bt708.1 bt708.2.1) else(if bt702.2.2=true then(laws_FnStockApart.j3 k (!bt708.2.2) x680000 x680001 x680002 bt702.1 bt702.2.1 bt708.1 bt708.2.1) else(laws_FnStockApart.j3 k true x680000 x680001 x680002 bt702.1 bt702.2.1 bt708.1 bt708.2.1))))
def laws_FnStockApart.j3:Nat→Bool→Int→Int→List Int→Int→List (S49)→Int→List (S49)→Option (Bool)
 |0,_,_,_,_,_,_,_,_=>none
 |k+1,x106,x680000,x680001,x680002,x708000,x708001,x714000,x714001=>if x106=true then(some true) else((impl_StockDo.f k x714000 x714001 x680000 x680001 x680002).bind fun bt714=>(if bt714.2.2=true then((laws_lnStock.f k x708000 x708001 bt714.1 bt714.2.1).bind fun t720=>(some t720)) else(some false)))
end
def laws_FnStockApart.f (k:Nat) (l0:List Int) (l1:List Int):Option (Bool):=if(l0.length:Int)>1048576 then(laws_FnStockApart.j0 k l0 l1 true) else(laws_FnStockApart.j0 k l0 l1 (decide ((l1.length:Int)>1048576)))
theorem laws_FnStockApart.mono_l:∀k,(∀y0 y1 y2,LeO (laws_FnStockApart.j0 k y0 y1 y2) (laws_FnStockApart.j0 (k+1) y0 y1 y2))∧(∀y0 y1 y2 y3 y4 y5 y6 y7 y8 y9 y10 y11 y12,LeO (laws_FnStockApart.j1 k y0 y1 y2 y3 y4 y5 y6 y7 y8 y9 y10 y11 y12) (laws_FnStockApart.j1 (k+1) y0 y1 y2 y3 y4 y5 y6 y7 y8 y9 y10 y11 y12))∧(∀y0 y1 y2 y3 y4 y5 y6 y7 y8 y9 y10,LeO (laws_FnStockApart.j2 k y0 y1 y2 y3 y4 y5 y6 y7 y8 y9 y10) (laws_FnStockApart.j2 (k+1) y0 y1 y2 y3 y4 y5 y6 y7 y8 y9 y10))∧(∀y0 y1 y2 y3 y4 y5 y6 y7,LeO (laws_FnStockApart.j3 k y0 y1 y2 y3 y4 y5 y6 y7) (laws_FnStockApart.j3 (k+1) y0 y1 y2 y3 y4 y5 y6 y7))
 |0=>⟨fun _ _ _ r h=>by simp[laws_FnStockApart.j0] at h,fun _ _ _ _ _ _ _ _ _ _ _ _ _ r h=>by simp[laws_FnStockApart.j1] at h,fun _ _ _ _ _ _ _ _ _ _ _ r h=>by simp[laws_FnStockApart.j2] at h,fun _ _ _ _ _ _ _ _ r h=>by simp[laws_FnStockApart.j3] at h⟩
 |k+1=>by
  obtain⟨ih0,ih1,ih2,ih3⟩:=laws_FnStockApart.mono_l k
  refine⟨?_,?_,?_,?_⟩
  ·intro y0 y1 y2
   unfold laws_FnStockApart.j0
   repeat' first
   |(with_reducible exact ih0 _ _ _)
   |(with_reducible exact ih1 _ _ _ _ _ _ _ _ _ _ _ _ _)
   |(with_reducible exact ih2 _ _ _ _ _ _ _ _ _ _ _)
   |(with_reducible exact ih3 _ _ _ _ _ _ _ _)
   |(with_reducible exact impl_StockDo.mono _ _ _ _ _ _)
   |(with_reducible exact laws_lnStock.mono _ _ _ _ _)
   |(with_reducible exact spec_DrawStockDo.mono _ _)
   |(with_reducible exact spec_StockDo.mono _ _ _ _ _ _)
   |(with_reducible exact LeO.refl _)
   |(with_reducible exact LeO.none _)
   |(with_reducible refine LeO.ite ?_ ?_)
   |(with_reducible refine LeO.bind ?_ (fun _=>?_))
   |exact ih0 _ _ _
   |exact ih1 _ _ _ _ _ _ _ _ _ _ _ _ _
   |exact ih2 _ _ _ _ _ _ _ _ _ _ _
   |exact ih3 _ _ _ _ _ _ _ _
   |exact impl_StockDo.mono _ _ _ _ _ _
   |exact laws_lnStock.mono _ _ _ _ _
   |exact spec_DrawStockDo.mono _ _
   |exact spec_StockDo.mono _ _ _ _ _ _
   |exact LeO.none _
   |refine LeO.ite ?_ ?_
   |refine LeO.bind ?_ (fun _=>?_)
  ·intro y0 y1 y2 y3 y4 y5 y6 y7 y8 y9 y10 y11 y12
   unfold laws_FnStockApart.j1
   repeat' first
   |(with_reducible exact ih0 _ _ _)
   |(with_reducible exact ih1 _ _ _ _ _ _ _ _ _ _ _ _ _)
   |(with_reducible exact ih2 _ _ _ _ _ _ _ _ _ _ _)
   |(with_reducible exact ih3 _ _ _ _ _ _ _ _)
   |(with_reducible exact impl_StockDo.mono _ _ _ _ _ _)
   |(with_reducible exact laws_lnStock.mono _ _ _ _ _)
   |(with_reducible exact spec_DrawStockDo.mono _ _)
   |(with_reducible exact spec_StockDo.mono _ _ _ _ _ _)
   |(with_reducible exact LeO.refl _)
   |(with_reducible exact LeO.none _)
   |(with_reducible refine LeO.ite ?_ ?_)
   |(with_reducible refine LeO.bind ?_ (fun _=>?_))
   |exact ih0 _ _ _
   |exact ih1 _ _ _ _ _ _ _ _ _ _ _ _ _
   |exact ih2 _ _ _ _ _ _ _ _ _ _ _
   |exact ih3 _ _ _ _ _ _ _ _
   |exact impl_StockDo.mono _ _ _ _ _ _
   |exact laws_lnStock.mono _ _ _ _ _
   |exact spec_DrawStockDo.mono _ _
   |exact spec_StockDo.mono _ _ _ _ _ _
   |exact LeO.none _
   |refine LeO.ite ?_ ?_
   |refine LeO.bind ?_ (fun _=>?_)
  ·intro y0 y1 y2 y3 y4 y5 y6 y7 y8 y9 y10
   unfold laws_FnStockApart.j2
   repeat' first
   |(with_reducible exact ih0 _ _ _)
   |(with_reducible exact ih1 _ _ _ _ _ _ _ _ _ _ _ _ _)
   |(with_reducible exact ih2 _ _ _ _ _ _ _ _ _ _ _)
   |(with_reducible exact ih3 _ _ _ _ _ _ _ _)
   |(with_reducible exact impl_StockDo.mono _ _ _ _ _ _)
   |(with_reducible exact laws_lnStock.mono _ _ _ _ _)
   |(with_reducible exact spec_DrawStockDo.mono _ _)
   |(with_reducible exact spec_StockDo.mono _ _ _ _ _ _)
   |(with_reducible exact LeO.refl _)
   |(with_reducible exact LeO.none _)
   |(with_reducible refine LeO.ite ?_ ?_)
   |(with_reducible refine LeO.bind ?_ (fun _=>?_))
   |exact ih0 _ _ _
   |exact ih1 _ _ _ _ _ _ _ _ _ _ _ _ _
   |exact ih2 _ _ _ _ _ _ _ _ _ _ _
   |exact ih3 _ _ _ _ _ _ _ _
   |exact impl_StockDo.mono _ _ _ _ _ _
   |exact laws_lnStock.mono _ _ _ _ _
   |exact spec_DrawStockDo.mono _ _
   |exact spec_StockDo.mono _ _ _ _ _ _
   |exact LeO.none _
   |refine LeO.ite ?_ ?_
   |refine LeO.bind ?_ (fun _=>?_)
  ·intro y0 y1 y2 y3 y4 y5 y6 y7
   unfold laws_FnStockApart.j3
   repeat' first
   |(with_reducible exact ih0 _ _ _)
   |(with_reducible exact ih1 _ _ _ _ _ _ _ _ _ _ _ _ _)
   |(with_reducible exact ih2 _ _ _ _ _ _ _ _ _ _ _)
   |(with_reducible exact ih3 _ _ _ _ _ _ _ _)
   |(with_reducible exact impl_StockDo.mono _ _ _ _ _ _)
   |(with_reducible exact laws_lnStock.mono _ _ _ _ _)
   |(with_reducible exact spec_DrawStockDo.mono _ _)
   |(with_reducible exact spec_StockDo.mono _ _ _ _ _ _)
   |(with_reducible exact LeO.refl _)
   |(with_reducible exact LeO.none _)
   |(with_reducible refine LeO.ite ?_ ?_)
   |(with_reducible refine LeO.bind ?_ (fun _=>?_))
   |exact ih0 _ _ _
   |exact ih1 _ _ _ _ _ _ _ _ _ _ _ _ _
   |exact ih2 _ _ _ _ _ _ _ _ _ _ _
   |exact ih3 _ _ _ _ _ _ _ _
   |exact impl_StockDo.mono _ _ _ _ _ _
   |exact laws_lnStock.mono _ _ _ _ _
   |exact spec_DrawStockDo.mono _ _
   |exact spec_StockDo.mono _ _ _ _ _ _
   |exact LeO.none _
   |refine LeO.ite ?_ ?_
   |refine LeO.bind ?_ (fun _=>?_)
theorem laws_FnStockApart.mono:∀a0 a1 k,LeO (laws_FnStockApart.f k a0 a1) (laws_FnStockApart.f (k+1) a0 a1):=by
 intro a0 a1 k
 obtain⟨ih0,ih1,ih2,ih3⟩:=laws_FnStockApart.mono_l k
 unfold laws_FnStockApart.f
 repeat' first
   |(with_reducible exact ih0 _ _ _)
   |(with_reducible exact ih1 _ _ _ _ _ _ _ _ _ _ _ _ _)
   |(with_reducible exact ih2 _ _ _ _ _ _ _ _ _ _ _)
   |(with_reducible exact ih3 _ _ _ _ _ _ _ _)
   |(with_reducible exact impl_StockDo.mono _ _ _ _ _ _)
   |(with_reducible exact laws_lnStock.mono _ _ _ _ _)
   |(with_reducible exact spec_DrawStockDo.mono _ _)
   |(with_reducible exact spec_StockDo.mono _ _ _ _ _ _)
   |(with_reducible exact LeO.refl _)
   |(with_reducible exact LeO.none _)
   |(with_reducible refine LeO.ite ?_ ?_)
   |(with_reducible refine LeO.bind ?_ (fun _=>?_))
   |exact ih0 _ _ _
   |exact ih1 _ _ _ _ _ _ _ _ _ _ _ _ _
   |exact ih2 _ _ _ _ _ _ _ _ _ _ _
   |exact ih3 _ _ _ _ _ _ _ _
   |exact impl_StockDo.mono _ _ _ _ _ _
   |exact laws_lnStock.mono _ _ _ _ _
   |exact spec_DrawStockDo.mono _ _
   |exact spec_StockDo.mono _ _ _ _ _ _
   |exact LeO.none _
   |refine LeO.ite ?_ ?_
   |refine LeO.bind ?_ (fun _=>?_)
set_option maxHeartbeats 8000000 in
set_option maxRecDepth 100000 in
theorem laws_FnStockApart.calls (k:Nat) (A0:Option Addr) (c0:Nat) (l0:List Int) (A1:Option Addr) (c1:Nat) (l1:List Int) (r:Bool) (w:World) (hr0:Kd.C (Kd.int .u8) w A0 l0.length l0) (hc0:l0.length≤c0) (hr1:Kd.C (Kd.int .u8) w A1 l1.length l1) (hc1:l1.length≤c1) (h:laws_FnStockApart.f k l0 l1=some r) :
  Calls Try.prog 6 #[.slice A0 l0.length c0,.slice A1 l1.length c1] w fun e w'=>e=.returned (.bool r)∧Below w.heap.size w w':=by
 have hu38:=Try.underlying38
 have hu32:=Try.underlying32
 have HR0:=Aside0.mk hr0
 have HC0:=Aside0.mk hc0
 clear hr0 hc0
 have HR1:=Aside0.mk hr1
 have HC1:=Aside0.mk hc1
 clear hr1 hc1
 have HB:=Aside0.mk (Below.refl w.heap.size w)
 have H:(if(l0.length:Int)>1048576 then(laws_FnStockApart.j0 k l0 l1 true) else(laws_FnStockApart.j0 k l0 l1 (decide ((l1.length:Int)>1048576))))=some r:=h
 clear h
 have HC3:=Aside0.mk H
 clear H
 go_enter Try.func6,Try.ntmps6
 go_upto_region 1 with(fail)
 go_cut [26] (fun v26 wc=>∃(kq:Nat) (x26_2:Bool),v26=.bool x26_2∧Aside0 (laws_FnStockApart.j0 kq l0 l1 x26_2=some r)∧Aside0 (kq≤k)∧Aside0 (Below w.heap.size w wc))
 case first=>
  have H:=HC3.out
  clear HC3
  by_cases c4:(l0.length:Int)>1048576
  ·rw[if_pos c4] at H
   have c4b0:decide (1048576<(l0.length:Int))=true:=decide_eq_true c4
   have c4b1:decide (1048576<l0.length)=true:=decide_eq_true (by omega)
   clear c4
   (first|rw[c4b0]|(simp only[qaf,qag];rw[c4b0])|skip)
   have H':=Aside0.mk H
   clear H
   go_wp2
   go_meet
   case rel=>exact⟨_,(true),(za43),H',⟨za57⟩,⟨za4 HB⟩⟩
  ·rw[if_neg c4] at H
   have c4b0:decide (1048576<(l0.length:Int))=false:=decide_eq_false c4
   have c4b1:decide (1048576<l0.length)=false:=decide_eq_false (by omega)
   clear c4
   (first|rw[c4b0]|(simp only[qaf,qag];rw[c4b0])|skip)
   have H':=Aside0.mk H
   clear H
   go_wp2
   go_meet
   case rel=>exact⟨_,(decide ((l1.length:Int)>1048576)),(za43),H',⟨za57⟩,⟨za4 HB⟩⟩
 case rest=>
  clear HC3
  try clear c1
  try clear p2
  try clear c4
  try clear c4b0
  try clear c4b1
  obtain⟨kq,x26_2,rfl,HA,HJ2,HB⟩:=hcut
  cases kq with
  |zero=>exact absurd HA.out (by simp[laws_FnStockApart.j0])
  |succ kj2=>
   have H:=HA.out
   clear HA
   simp only[laws_FnStockApart.j0] at H
   by_cases c5:x26_2=true
   ·subst c5
    have H1:(some true)=some r:=by rw[if_pos rfl] at H;exact H
    clear H
    have H:=H1
    clear H1
    obtain rfl:=Option.some.inj H
    go_wp2
    go_ret
    exact⟨za16,za4 HB⟩
   ·replace c5:=Bool.eq_false_iff.mpr c5
    subst c5
    have H1:((spec_DrawStockDo.f kj2 l0).bind fun bt669=>((spec_StockDo.f kj2 bt669.1 bt669.2.1 bt669.2.2.1 bt669.2.2.2.1 bt669.2.2.2.2).bind fun bt680=>((impl_StockDo.f kj2 bt669.1 bt669.2.1 bt669.2.2.1 bt669.2.2.2.1 bt669.2.2.2.2).bind fun bt686=>(if(bt686.2.2 != bt680.2.2)=true then(laws_FnStockApart.j1 kj2 l1 bt680.2.2 bt686.2.2 true bt669.1 bt669.2.1 bt669.2.2.1 bt669.2.2.2.1 bt669.2.2.2.2 bt680.1 bt680.2.1 bt686.1 bt686.2.1) else((laws_lnStock.f kj2 bt686.1 bt686.2.1 bt680.1 bt680.2.1).bind fun t692=>(if t692=true then(laws_FnStockApart.j1 kj2 l1 bt680.2.2 bt686.2.2 (!bt686.2.2) bt669.1 bt669.2.1 bt669.2.2.1 bt669.2.2.2.1 bt669.2.2.2.2 bt680.1 bt680.2.1 bt686.1 bt686.2.1) else(laws_FnStockApart.j1 kj2 l1 bt680.2.2 bt686.2.2 true bt669.1 bt669.2.1 bt669.2.2.1 bt669.2.2.2.1 bt669.2.2.2.2 bt680.1 bt680.2.1 bt686.1 bt686.2.1)))))))=some r:=by rw[if_neg (show ¬(false=true) by decide)] at H;exact H
    clear H
    have H:=H1
    clear H1
    replace H:=Option.bind_eq_some_iff.mp H
    obtain⟨⟨t669,t670,t673,t674,t675⟩,A60,H⟩:=H
    replace H:((spec_StockDo.f kj2 t669 t670 t673 t674 t675).bind fun bt680=>((impl_StockDo.f kj2 t669 t670 t673 t674 t675).bind fun bt686=>(if(bt686.2.2 != bt680.2.2)=true then(laws_FnStockApart.j1 kj2 l1 bt680.2.2 bt686.2.2 true t669 t670 t673 t674 t675 bt680.1 bt680.2.1 bt686.1 bt686.2.1) else((laws_lnStock.f kj2 bt686.1 bt686.2.1 bt680.1 bt680.2.1).bind fun t692=>(if t692=true then(laws_FnStockApart.j1 kj2 l1 bt680.2.2 bt686.2.2 (!bt686.2.2) t669 t670 t673 t674 t675 bt680.1 bt680.2.1 bt686.1 bt686.2.1) else(laws_FnStockApart.j1 kj2 l1 bt680.2.2 bt686.2.2 true t669 t670 t673 t674 t675 bt680.1 bt680.2.1 bt686.1 bt686.2.1))))))=some r:=H
    have A6:=Aside0.mk A60
    clear A60
    replace H:=Option.bind_eq_some_iff.mp H
    obtain⟨⟨t680,t681,t684⟩,A70,H⟩:=H
    replace H:((impl_StockDo.f kj2 t669 t670 t673 t674 t675).bind fun bt686=>(if(bt686.2.2 != t684)=true then(laws_FnStockApart.j1 kj2 l1 t684 bt686.2.2 true t669 t670 t673 t674 t675 t680 t681 bt686.1 bt686.2.1) else((laws_lnStock.f kj2 bt686.1 bt686.2.1 t680 t681).bind fun t692=>(if t692=true then(laws_FnStockApart.j1 kj2 l1 t684 bt686.2.2 (!bt686.2.2) t669 t670 t673 t674 t675 t680 t681 bt686.1 bt686.2.1) else(laws_FnStockApart.j1 kj2 l1 t684 bt686.2.2 true t669 t670 t673 t674 t675 t680 t681 bt686.1 bt686.2.1)))))=some r:=H
    have A7:=Aside0.mk A70
    clear A70
    replace H:=Option.bind_eq_some_iff.mp H
    obtain⟨⟨t686,t687,t690⟩,A80,H⟩:=H
    replace H:(if(t690 != t684)=true then(laws_FnStockApart.j1 kj2 l1 t684 t690 true t669 t670 t673 t674 t675 t680 t681 t686 t687) else((laws_lnStock.f kj2 t686 t687 t680 t681).bind fun t692=>(if t692=true then(laws_FnStockApart.j1 kj2 l1 t684 t690 (!t690) t669 t670 t673 t674 t675 t680 t681 t686 t687) else(laws_FnStockApart.j1 kj2 l1 t684 t690 true t669 t670 t673 t674 t675 t680 t681 t686 t687))))=some r:=H
    have A8:=Aside0.mk A80
    clear A80
    have HC9:=Aside0.mk H
    clear H
    go_upto_region 6 with(first|((with_reducible refine qac (f:=26) rfl ?_);refine zF (some 29) Try.func26 #[.slice A0 l0.length c0] ?_;(with_reducible refine(spec_DrawStockDo.calls kj2 _ _ l0 t669 t670 t673 t674 t675 _ ?side1 ?side2 A6.out).mono ?_);(case side1=>exact zR HR0 HB);(case side2=>exact HC0.out);rintro e w10 ⟨v671,v676,rfl,ho0,ho1,hb⟩;refine⟨_,rfl,?_⟩;have HO672:=Aside0.mk (Kd.Q_lower (Kd.Q_mono (ok':=fun k_=>True) ho0 (fun _ hk_=>trivial)) (below_size (za4 HB)));have HO677:=Aside0.mk (Kd.V_lower (Kd.V_mono (ok':=fun k_=>some k_≠(v671:Value).ownBlock) ho1 (fun k_ hk_=>hk_.2)) (below_size (za4 HB)));replace HB:=Aside0.mk (qab (za4 HB) hb);(try clear hb);(try clear ho0);(try clear ho1))|((with_reducible refine qae (N:=5) rfl ?_);(try(refine gate_guard (by rfl) ?_;dsimp only));refine zX (N:=5) (cs:=#[.int .i64 0,.slice none 0 0]) (t:=38) ?_;intro gb678 hg w11 hbox hb;replace HO672:=Aside0.mk (Kd.Q_below (za10 HO672) hb);replace HO677:=Aside0.mk (Kd.V_below (Kd.V_elderB (za42 HO677) gb678 (Nat.le_of_eq hg.symm)) hb);have BK678:=Aside0.mk hbox;have GW678:=zH (w:=w) hg (za4 HB);have GE678:=GW678;replace HB:=Aside0.mk (qab (za4 HB) hb);clear hb hbox hg)|((with_reducible refine qae (N:=6) rfl ?_);(try(refine gate_guard (by rfl) ?_;dsimp only));refine zX (N:=6) (cs:=#[.int .i64 0,.int .i64 0,.slice none 0 0]) (t:=32) ?_;intro gb679 hg w12 hbox hb;replace HO672:=Aside0.mk (Kd.Q_below (za10 HO672) hb);replace HO677:=Aside0.mk (Kd.V_below (Kd.V_elderB (za42 HO677) gb679 (Nat.le_of_eq hg.symm)) hb);have BK679:=Aside0.mk hbox;have GW679:=zH (w:=w) hg (za1 HB GE678);have GE679:=GW679;replace HB:=Aside0.mk (qab (za1 HB GE678) hb);have NB678_679:=zL BK678 hg;have NB679_678:=zG BK678 hg;replace BK678:=Aside0.mk (qaa (zB BK678) hb);clear hb hbox hg;have hnb13:=NB678_679.out;have hnc13:=NB679_678.out;obtain⟨hcz14_0,hcz14_1,hfz14_0,hfz14_1⟩:=zC2 BK678;obtain⟨Ao15,co15,eo15,_⟩:=Kd.Q_slice HO672.out;subst eo15;obtain⟨hcz16_0,hcz16_1,hcz16_2,hfz16_0,hfz16_1,hfz16_2⟩:=zC3 BK679;obtain⟨Ao17,co17,eo17⟩:=Kd.V_slice HO677.out;subst eo17)|((with_reducible refine qac (f:=27) rfl ?_);refine zF (some 35) Try.func27 #[.agg #[.int .i64 t669,.slice Ao15 t670.length co15],.agg #[.int .i64 t673,.int .i64 t674,.slice Ao17 t675.length co17]] ?_;(with_reducible refine(spec_StockDo.calls kj2 t669 _ _ t670 t673 t674 _ _ t675 t680 t681 t684 _ ?side1 ?side2 ?side3 ?side4 A7.out).mono ?_);(case side1=>refine(Kd.Q_reads' (e:=49) (base:=w.heap.size) (ok:=fun k_=>True) (n:=t670.length) (c:=co15) ?_).2.2;exact(by(with_reducible repeat(first|apply Kd.Q_alloc|apply Kd.Q_drewN|apply Kd.Q_drew));exact(Kd.Q_mono (Kd.Q_mono (Kd.Q_far (p:=⟨gb679,2,none⟩) (Kd.Q_far (p:=⟨gb679,1,none⟩) (Kd.Q_far (p:=⟨gb679,0,none⟩) (Kd.Q_far (p:=⟨gb678,1,none⟩) (Kd.Q_far (p:=⟨gb678,0,none⟩) (Kd.Q_types (Kd.Q_types HO672.out BK678.out (by decide)) BK679.out (by decide)) (fun _ hk=>hk.1.2) (.int .i64 t669)) (fun _ hk=>hk.1.2) (.slice Ao15 t670.length co15)) (fun _ hk=>hk.2) (.int .i64 t673)) (fun _ hk=>hk.2) (.int .i64 t674)) (fun _ hk=>hk.2) (.slice Ao17 t675.length co17)) (fun _ h_=>h_.1)) (fun _ h_=>h_.1))));(case side2=>exact(Kd.Q_reads' HO672.out).2.1);(case side3=>refine(Kd.V_reads' (e:=3) (base:=w.heap.size) (ok:=fun k_=>((some k_≠(.slice Ao15 t670.length co15:Value).ownBlock∧k_≠gb678)∧k_≠gb679)) (n:=t675.length) (c:=co17) ?_).2.2;exact(by(with_reducible repeat(first|apply Kd.V_alloc|apply Kd.V_drewN|apply Kd.V_drew));exact(Kd.V_mono (Kd.V_mono (Kd.V_far (p:=⟨gb679,2,none⟩) (Kd.V_far (p:=⟨gb679,1,none⟩) (Kd.V_far (p:=⟨gb679,0,none⟩) (Kd.V_far (p:=⟨gb678,1,none⟩) (Kd.V_far (p:=⟨gb678,0,none⟩) (Kd.V_mono (Kd.V_mono HO677.out (fun k_ hk=>(⟨hk,hk.1.2⟩:_∧k_≠gb678))) (fun k_ hk=>(⟨hk,hk.1.2⟩:_∧k_≠gb679))) (fun _ hk=>hk.1.2) (.int .i64 t669)) (fun _ hk=>hk.1.2) (.slice Ao15 t670.length co15)) (fun _ hk=>hk.2) (.int .i64 t673)) (fun _ hk=>hk.2) (.int .i64 t674)) (fun _ hk=>hk.2) (.slice Ao17 t675.length co17)) (fun _ h_=>h_.1)) (fun _ h_=>h_.1))));(case side4=>exact(Kd.V_reads' HO677.out).2.1);rintro e w18 ⟨v682,rfl,ho0,hb⟩;refine⟨_,rfl,?_⟩;replace HO677:=Aside0.mk (Kd.V_elder' (by(with_reducible repeat(first|apply Kd.V_alloc|apply Kd.V_drewN|apply Kd.V_drew));exact(Kd.V_mono (Kd.V_mono (Kd.V_far (p:=⟨gb679,2,none⟩) (Kd.V_far (p:=⟨gb679,1,none⟩) (Kd.V_far (p:=⟨gb679,0,none⟩) (Kd.V_far (p:=⟨gb678,1,none⟩) (Kd.V_far (p:=⟨gb678,0,none⟩) (Kd.V_mono (Kd.V_mono HO677.out (fun k_ hk=>(⟨hk,hk.1.2⟩:_∧k_≠gb678))) (fun k_ hk=>(⟨hk,hk.1.2⟩:_∧k_≠gb679))) (fun _ hk=>hk.1.2) (.int .i64 t669)) (fun _ hk=>hk.1.2) (.slice Ao15 t670.length co15)) (fun _ hk=>hk.2) (.int .i64 t673)) (fun _ hk=>hk.2) (.int .i64 t674)) (fun _ hk=>hk.2) (.slice Ao17 t675.length co17)) (fun _ h_=>h_.1)) (fun _ h_=>h_.1))) (Kd.R_base ho0) hb);have HO683:=Aside0.mk (Kd.R_lower (Kd.R_new' ho0 (Kd.Q_lt (by(with_reducible repeat(first|apply Kd.Q_alloc|apply Kd.Q_drewN|apply Kd.Q_drew));exact(Kd.Q_mono (Kd.Q_mono (Kd.Q_far (p:=⟨gb679,2,none⟩) (Kd.Q_far (p:=⟨gb679,1,none⟩) (Kd.Q_far (p:=⟨gb679,0,none⟩) (Kd.Q_far (p:=⟨gb678,1,none⟩) (Kd.Q_far (p:=⟨gb678,0,none⟩) (Kd.Q_types (Kd.Q_types HO672.out BK678.out (by decide)) BK679.out (by decide)) (fun _ hk=>hk.1.2) (.int .i64 t669)) (fun _ hk=>hk.1.2) (.slice Ao15 t670.length co15)) (fun _ hk=>hk.2) (.int .i64 t673)) (fun _ hk=>hk.2) (.int .i64 t674)) (fun _ hk=>hk.2) (.slice Ao17 t675.length co17)) (fun _ h_=>h_.1)) (fun _ h_=>h_.1))))) (below_size (za2 HB GE678 GE679)));replace HO672:=Aside0.mk (Kd.Q_elder' (by(with_reducible repeat(first|apply Kd.Q_alloc|apply Kd.Q_drewN|apply Kd.Q_drew));exact(Kd.Q_mono (Kd.Q_mono (Kd.Q_far (p:=⟨gb679,2,none⟩) (Kd.Q_far (p:=⟨gb679,1,none⟩) (Kd.Q_far (p:=⟨gb679,0,none⟩) (Kd.Q_far (p:=⟨gb678,1,none⟩) (Kd.Q_far (p:=⟨gb678,0,none⟩) (Kd.Q_types (Kd.Q_types HO672.out BK678.out (by decide)) BK679.out (by decide)) (fun _ hk=>hk.1.2) (.int .i64 t669)) (fun _ hk=>hk.1.2) (.slice Ao15 t670.length co15)) (fun _ hk=>hk.2) (.int .i64 t673)) (fun _ hk=>hk.2) (.int .i64 t674)) (fun _ hk=>hk.2) (.slice Ao17 t675.length co17)) (fun _ h_=>h_.1)) (fun _ h_=>h_.1))) (Kd.R_base ho0) hb);replace BK678:=Aside0.mk (qaa (g:=gb678) (o:=.cells #[.int .i64 t669,.slice Ao15 t670.length co15] 38 (0,0)) (by(with_reducible repeat(first|refine blk_drewN ?_ _|refine blk_drew ?_|refine blk_alloc ?_ _));refine blk_far ?_ NB678_679.out _;(with_reducible repeat(first|refine blk_drewN ?_ _|refine blk_drew ?_|refine blk_alloc ?_ _));refine blk_far ?_ NB678_679.out _;(with_reducible repeat(first|refine blk_drewN ?_ _|refine blk_drew ?_|refine blk_alloc ?_ _));refine blk_far ?_ NB678_679.out _;(with_reducible repeat(first|refine blk_drewN ?_ _|refine blk_drew ?_|refine blk_alloc ?_ _));refine qad (cs:=#[.int .i64 t669,.slice none 0 0]) ?_ 1 _ rfl;(with_reducible repeat(first|refine blk_drewN ?_ _|refine blk_drew ?_|refine blk_alloc ?_ _));refine qad (cs:=#[.int .i64 0,.slice none 0 0]) ?_ 0 _ rfl;(with_reducible repeat(first|refine blk_drewN ?_ _|refine blk_drew ?_|refine blk_alloc ?_ _));exact BK678.out) hb);replace BK679:=Aside0.mk (qaa (g:=gb679) (o:=.cells #[.int .i64 t673,.int .i64 t674,.slice Ao17 t675.length co17] 32 (0,0)) (by(with_reducible repeat(first|refine blk_drewN ?_ _|refine blk_drew ?_|refine blk_alloc ?_ _));refine qad (cs:=#[.int .i64 t673,.int .i64 t674,.slice none 0 0]) ?_ 2 _ rfl;(with_reducible repeat(first|refine blk_drewN ?_ _|refine blk_drew ?_|refine blk_alloc ?_ _));refine qad (cs:=#[.int .i64 t673,.int .i64 0,.slice none 0 0]) ?_ 1 _ rfl;(with_reducible repeat(first|refine blk_drewN ?_ _|refine blk_drew ?_|refine blk_alloc ?_ _));refine qad (cs:=#[.int .i64 0,.int .i64 0,.slice none 0 0]) ?_ 0 _ rfl;(with_reducible repeat(first|refine blk_drewN ?_ _|refine blk_drew ?_|refine blk_alloc ?_ _));refine blk_far ?_ NB679_678.out _;(with_reducible repeat(first|refine blk_drewN ?_ _|refine blk_drew ?_|refine blk_alloc ?_ _));refine blk_far ?_ NB679_678.out _;(with_reducible repeat(first|refine blk_drewN ?_ _|refine blk_drew ?_|refine blk_alloc ?_ _));exact BK679.out) hb);replace HB:=Aside0.mk (qab (za2 HB GE678 GE679) hb);(try clear hb);(try clear ho0))|((with_reducible refine qae (N:=7) rfl ?_);(try(refine gate_guard (by rfl) ?_;dsimp only));refine zX (N:=7) (cs:=#[.int .i64 0,.slice none 0 0]) (t:=38) ?_;intro gb685 hg w19 hbox hb;replace HO672:=Aside0.mk (Kd.Q_below (za10 HO672) hb);replace HO677:=Aside0.mk (Kd.V_below (Kd.V_elderB (za42 HO677) gb685 (Nat.le_of_eq hg.symm)) hb);replace HO683:=Aside0.mk (Kd.R_below (za5 HO683) hb);have BK685:=Aside0.mk hbox;have GW685:=zH (w:=w) hg (za2 HB GE678 GE679);have GE685:=GW685;replace HB:=Aside0.mk (qab (za2 HB GE678 GE679) hb);have NB678_685:=zL BK678 hg;have NB685_678:=zG BK678 hg;replace BK678:=Aside0.mk (qaa (zB BK678) hb);have NB679_685:=zL BK679 hg;have NB685_679:=zG BK679 hg;replace BK679:=Aside0.mk (qaa (zB BK679) hb);clear hb hbox hg;have hnb20:=NB685_678.out;have hnc20:=NB678_685.out;have hnb21:=NB685_679.out;have hnc21:=NB679_685.out;obtain⟨hcz22_0,hcz22_1,hfz22_0,hfz22_1⟩:=zC2 BK685;obtain⟨Ao23,co23,eo23⟩:=Kd.R_slice HO683.out;subst eo23;obtain⟨hcz24_0,hcz24_1,hfz24_0,hfz24_1⟩:=zC2 BK678;obtain⟨hcz25_0,hcz25_1,hcz25_2,hfz25_0,hfz25_1,hfz25_2⟩:=zC3 BK679)|((with_reducible refine qac (f:=24) rfl ?_);refine zF (some 41) Try.func24 #[.agg #[.int .i64 t669,.slice Ao15 t670.length co15],.agg #[.int .i64 t673,.int .i64 t674,.slice Ao17 t675.length co17]] ?_;(with_reducible refine(impl_StockDo.calls kj2 t669 _ _ t670 t673 t674 _ _ t675 t686 t687 t690 _ ?side1 ?side2 ?side3 ?side4 A8.out).mono ?_);(case side1=>refine(Kd.Q_reads' (e:=49) (base:=w.heap.size) (ok:=fun k_=>(True∧some k_≠(.slice Ao23 t681.length co23:Value).ownBlock)) (n:=t670.length) (c:=co15) ?_).2.2;exact(by(with_reducible repeat(first|apply Kd.Q_alloc|apply Kd.Q_drewN|apply Kd.Q_drew));exact(Kd.Q_mono (Kd.Q_far (p:=⟨gb685,1,none⟩) (Kd.Q_far (p:=⟨gb685,0,none⟩) (Kd.Q_types HO672.out BK685.out (by decide)) (fun _ hk=>hk.2) (.int .i64 t680)) (fun _ hk=>hk.2) (.slice Ao23 t681.length co23)) (fun _ h_=>h_.1))));(case side2=>exact(Kd.Q_reads' HO672.out).2.1);(case side3=>refine(Kd.V_reads' (e:=3) (base:=w.heap.size) (ok:=fun k_=>((((some k_≠(.slice Ao15 t670.length co15:Value).ownBlock∧k_≠gb678)∧k_≠gb679)∧some k_≠(.slice Ao23 t681.length co23:Value).ownBlock)∧k_≠gb685)) (n:=t675.length) (c:=co17) ?_).2.2;exact(by(with_reducible repeat(first|apply Kd.V_alloc|apply Kd.V_drewN|apply Kd.V_drew));exact(Kd.V_mono (Kd.V_far (p:=⟨gb685,1,none⟩) (Kd.V_far (p:=⟨gb685,0,none⟩) (Kd.V_mono HO677.out (fun k_ hk=>(⟨hk,hk.2⟩:_∧k_≠gb685))) (fun _ hk=>hk.2) (.int .i64 t680)) (fun _ hk=>hk.2) (.slice Ao23 t681.length co23)) (fun _ h_=>h_.1))));(case side4=>exact(Kd.V_reads' HO677.out).2.1);rintro e w26 ⟨v688,rfl,ho0,hb⟩;refine⟨_,rfl,?_⟩;replace HO677:=Aside0.mk (Kd.V_elder' (by(with_reducible repeat(first|apply Kd.V_alloc|apply Kd.V_drewN|apply Kd.V_drew));exact(Kd.V_mono (Kd.V_far (p:=⟨gb685,1,none⟩) (Kd.V_far (p:=⟨gb685,0,none⟩) (Kd.V_mono HO677.out (fun k_ hk=>(⟨hk,hk.2⟩:_∧k_≠gb685))) (fun _ hk=>hk.2) (.int .i64 t680)) (fun _ hk=>hk.2) (.slice Ao23 t681.length co23)) (fun _ h_=>h_.1))) (Kd.R_base ho0) hb);have HO689:=Aside0.mk (Kd.R_lower (Kd.R_new' (Kd.R_new' ho0 (Kd.Q_lt (by(with_reducible repeat(first|apply Kd.Q_alloc|apply Kd.Q_drewN|apply Kd.Q_drew));exact(Kd.Q_mono (Kd.Q_far (p:=⟨gb685,1,none⟩) (Kd.Q_far (p:=⟨gb685,0,none⟩) (Kd.Q_types HO672.out BK685.out (by decide)) (fun _ hk=>hk.2) (.int .i64 t680)) (fun _ hk=>hk.2) (.slice Ao23 t681.length co23)) (fun _ h_=>h_.1))))) (Kd.R_lt (by(with_reducible repeat(first|apply Kd.R_alloc|apply Kd.R_drewN|apply Kd.R_drew));exact(Kd.R_mono (Kd.R_far (p:=⟨gb685,1,none⟩) (Kd.R_far (p:=⟨gb685,0,none⟩) (Kd.R_types HO683.out BK685.out (by decide)) (fun _ hk=>hk.2) (.int .i64 t680)) (fun _ hk=>hk.2) (.slice Ao23 t681.length co23)) (fun _ h_=>h_.1))))) (below_size (za6 HB GE678 GE679 GE685)));replace HO672:=Aside0.mk (Kd.Q_elder' (by(with_reducible repeat(first|apply Kd.Q_alloc|apply Kd.Q_drewN|apply Kd.Q_drew));exact(Kd.Q_mono (Kd.Q_far (p:=⟨gb685,1,none⟩) (Kd.Q_far (p:=⟨gb685,0,none⟩) (Kd.Q_types HO672.out BK685.out (by decide)) (fun _ hk=>hk.2) (.int .i64 t680)) (fun _ hk=>hk.2) (.slice Ao23 t681.length co23)) (fun _ h_=>h_.1))) (Kd.R_base ho0) hb);replace HO683:=Aside0.mk (Kd.R_elder' (by(with_reducible repeat(first|apply Kd.R_alloc|apply Kd.R_drewN|apply Kd.R_drew));exact(Kd.R_mono (Kd.R_far (p:=⟨gb685,1,none⟩) (Kd.R_far (p:=⟨gb685,0,none⟩) (Kd.R_types HO683.out BK685.out (by decide)) (fun _ hk=>hk.2) (.int .i64 t680)) (fun _ hk=>hk.2) (.slice Ao23 t681.length co23)) (fun _ h_=>h_.1))) (Kd.R_base ho0) hb);replace BK678:=Aside0.mk (qaa (g:=gb678) (o:=.cells #[.int .i64 t669,.slice Ao15 t670.length co15] 38 (0,0)) (za0 NB678_685 BK678) hb);replace BK679:=Aside0.mk (qaa (g:=gb679) (o:=.cells #[.int .i64 t673,.int .i64 t674,.slice Ao17 t675.length co17] 32 (0,0)) (za0 NB679_685 BK679) hb);replace BK685:=Aside0.mk (qaa (g:=gb685) (o:=.cells #[.int .i64 t680,.slice Ao23 t681.length co23] 38 (0,0)) (by(with_reducible repeat(first|refine blk_drewN ?_ _|refine blk_drew ?_|refine blk_alloc ?_ _));refine qad (cs:=#[.int .i64 t680,.slice none 0 0]) ?_ 1 _ rfl;(with_reducible repeat(first|refine blk_drewN ?_ _|refine blk_drew ?_|refine blk_alloc ?_ _));refine qad (cs:=#[.int .i64 0,.slice none 0 0]) ?_ 0 _ rfl;(with_reducible repeat(first|refine blk_drewN ?_ _|refine blk_drew ?_|refine blk_alloc ?_ _));exact BK685.out) hb);replace HB:=Aside0.mk (qab (za6 HB GE678 GE679 GE685) hb);(try clear hb);(try clear ho0))|((with_reducible refine qae (N:=9) rfl ?_);(try(refine gate_guard (by rfl) ?_;dsimp only));refine zX (N:=9) (cs:=#[.int .i64 0,.slice none 0 0]) (t:=38) ?_;intro gb691 hg w27 hbox hb;replace HO672:=Aside0.mk (Kd.Q_below (za10 HO672) hb);replace HO677:=Aside0.mk (Kd.V_below (Kd.V_elderB (za42 HO677) gb691 (Nat.le_of_eq hg.symm)) hb);replace HO683:=Aside0.mk (Kd.R_below (za5 HO683) hb);replace HO689:=Aside0.mk (Kd.R_below (za5 HO689) hb);have BK691:=Aside0.mk hbox;have GW691:=zH (w:=w) hg (za6 HB GE678 GE679 GE685);have GE691:=GW691;replace HB:=Aside0.mk (qab (za6 HB GE678 GE679 GE685) hb);have NB678_691:=zL BK678 hg;have NB691_678:=zG BK678 hg;replace BK678:=Aside0.mk (qaa (zB BK678) hb);have NB679_691:=zL BK679 hg;have NB691_679:=zG BK679 hg;replace BK679:=Aside0.mk (qaa (zB BK679) hb);have NB685_691:=zL BK685 hg;have NB691_685:=zG BK685 hg;replace BK685:=Aside0.mk (qaa (zB BK685) hb);clear hb hbox hg;have hnb28:=NB691_678.out;have hnc28:=NB678_691.out;have hnb29:=NB691_679.out;have hnc29:=NB679_691.out;have hnb30:=NB691_685.out;have hnc30:=NB685_691.out;obtain⟨hcz31_0,hcz31_1,hfz31_0,hfz31_1⟩:=zC2 BK691;obtain⟨Ao32,co32,eo32⟩:=Kd.R_slice HO689.out;subst eo32))
    (try simp only[Act.put,List.setIfInBounds_toArray,List.set_cons_zero,List.set_cons_succ])
    go_cut [56] (fun v56 wc=>∃(kq:Nat) (x56_8:Bool),v56=.bool x56_8∧Aside0 (laws_FnStockApart.j1 kq l1 t684 t690 x56_8 t669 t670 t673 t674 t675 t680 t681 t686 t687=some r)∧Aside0 (kq≤kj2)∧Aside0 (Kd.Q k49 49 wc w.heap.size (fun k_=>some k_≠((.slice Ao23 t681.length co23):Value).ownBlock∧some k_≠((.slice Ao32 t687.length co32):Value).ownBlock) (.slice Ao15 t670.length co15) t670)∧Aside0 (Kd.V (Kd.int .i64) 3 wc w.heap.size (fun k_=>some k_≠((.slice Ao15 t670.length co15):Value).ownBlock∧some k_≠((.slice Ao23 t681.length co23):Value).ownBlock∧some k_≠((.slice Ao32 t687.length co32):Value).ownBlock∧k_≠gb678∧k_≠gb679∧k_≠gb685∧k_≠gb691) (.slice Ao17 t675.length co17) t675)∧Aside0 (Kd.Q k49 49 wc w.heap.size (fun k_=>some k_≠((.slice Ao15 t670.length co15):Value).ownBlock∧some k_≠((.slice Ao32 t687.length co32):Value).ownBlock) (.slice Ao23 t681.length co23) t681)∧Aside0 (Kd.Q k49 49 wc w.heap.size (fun k_=>some k_≠((.slice Ao15 t670.length co15):Value).ownBlock∧some k_≠((.slice Ao23 t681.length co23):Value).ownBlock) (.slice Ao32 t687.length co32) t687)∧Aside0 (wc.heap[gb678]?=some (.cells #[.int .i64 t669,(.slice Ao15 t670.length co15)] 38 (0,0)))∧Aside0 (wc.heap[gb679]?=some (.cells #[.int .i64 t673,.int .i64 t674,(.slice Ao17 t675.length co17)] 32 (0,0)))∧Aside0 (wc.heap[gb685]?=some (.cells #[.int .i64 t680,(.slice Ao23 t681.length co23)] 38 (0,0)))∧Aside0 (wc.heap[gb691]?=some (.cells #[.int .i64 t686,(.slice Ao32 t687.length co32)] 38 (0,0)))∧Aside0 (Below w.heap.size w wc))
    case first=>
     have H:=HC9.out
     clear HC9
     by_cases c33:(t690 != t684)=true
     ·rw[if_pos c33] at H
      have c33b0:(t690 != t684)=true:=c33
      (try(have c33b1:decide (t690=t684)=false:=by simpa using c33))
      (try(have c33b2:(t690 == t684)=false:=by simpa using c33))
      (try(have c33b3:¬(t690=t684):=by simpa using c33))
      clear c33
      (first|rw[c33b0]|(simp only[qaf,qag];rw[c33b0])|skip)
      have H':=Aside0.mk H
      clear H
      go_wp2
      go_meet
      case rel=>exact⟨_,(true),(za43),H',⟨za60 HJ2⟩,⟨by(with_reducible repeat(first|apply Kd.Q_alloc|apply Kd.Q_drewN|apply Kd.Q_drew));exact Kd.Q_mono (Kd.Q_far (p:=⟨gb691,1,none⟩) (Kd.Q_far (p:=⟨gb691,0,none⟩) (Kd.Q_types HO672.out BK691.out (by decide)) (fun _ hk=>hk.2) (.int .i64 t686)) (fun _ hk=>hk.2) (.slice Ao32 t687.length co32)) (fun _ hk=>⟨hk.1.1.2,hk.1.2⟩)⟩,⟨by(with_reducible repeat(first|apply Kd.V_alloc|apply Kd.V_drewN|apply Kd.V_drew));exact Kd.V_mono (Kd.V_far (p:=⟨gb691,1,none⟩) (Kd.V_far (p:=⟨gb691,0,none⟩) (Kd.V_mono HO677.out (fun k_ hk=>(⟨hk,hk.2⟩:_∧k_≠gb691))) (fun _ hk=>hk.2) (.int .i64 t686)) (fun _ hk=>hk.2) (.slice Ao32 t687.length co32)) (fun _ hk=>⟨hk.1.1.1.1.1.1.1,⟨hk.1.1.1.1.2,⟨hk.1.1.2,⟨hk.1.1.1.1.1.1.2,⟨hk.1.1.1.1.1.2,⟨hk.1.1.1.2,hk.1.2⟩⟩⟩⟩⟩⟩)⟩,⟨Kd.Q_of_R (by(with_reducible repeat(first|apply Kd.R_alloc|apply Kd.R_drewN|apply Kd.R_drew));exact Kd.R_mono (Kd.R_far (p:=⟨gb691,1,none⟩) (Kd.R_far (p:=⟨gb691,0,none⟩) (Kd.R_types HO683.out BK691.out (by decide)) (fun _ hk=>hk.2) (.int .i64 t686)) (fun _ hk=>hk.2) (.slice Ao32 t687.length co32)) (fun _ hk=>⟨hk.1.1.2,hk.1.2⟩))⟩,⟨Kd.Q_of_R (by(with_reducible repeat(first|apply Kd.R_alloc|apply Kd.R_drewN|apply Kd.R_drew));exact Kd.R_mono (Kd.R_far (p:=⟨gb691,1,none⟩) (Kd.R_far (p:=⟨gb691,0,none⟩) (Kd.R_types HO689.out BK691.out (by decide)) (fun _ hk=>hk.2) (.int .i64 t686)) (fun _ hk=>hk.2) (.slice Ao32 t687.length co32)) (fun _ hk=>⟨hk.1.1.2,hk.1.2⟩))⟩,⟨za0 NB678_691 BK678⟩,⟨za0 NB679_691 BK679⟩,⟨za0 NB685_691 BK685⟩,⟨by(with_reducible repeat(first|refine blk_drewN ?_ _|refine blk_drew ?_|refine blk_alloc ?_ _));refine qad (cs:=#[.int .i64 t686,.slice none 0 0]) ?_ 1 _ rfl;(with_reducible repeat(first|refine blk_drewN ?_ _|refine blk_drew ?_|refine blk_alloc ?_ _));refine qad (cs:=#[.int .i64 0,.slice none 0 0]) ?_ 0 _ rfl;(with_reducible repeat(first|refine blk_drewN ?_ _|refine blk_drew ?_|refine blk_alloc ?_ _));exact BK691.out⟩,⟨za7 HB GE678 GE679 GE685 GE691⟩⟩
     ·rw[if_neg c33] at H
      have c33b0:(t690 != t684)=false:=by simpa using c33
      (try(have c33b1:decide (t690=t684)=true:=by simpa using c33))
      (try(have c33b2:(t690 == t684)=true:=by simpa using c33))
      clear c33
      (first|rw[c33b0]|(simp only[qaf,qag];rw[c33b0])|skip)
      replace H:=Option.bind_eq_some_iff.mp H
      obtain⟨t692,A340,H⟩:=H
      replace H:(if t692=true then(laws_FnStockApart.j1 kj2 l1 t684 t690 (!t690) t669 t670 t673 t674 t675 t680 t681 t686 t687) else(laws_FnStockApart.j1 kj2 l1 t684 t690 true t669 t670 t673 t674 t675 t680 t681 t686 t687))=some r:=H
      have A34:=Aside0.mk A340
      clear A340
      by_cases c35:t692=true
      ·subst c35
       have H1:(laws_FnStockApart.j1 kj2 l1 t684 t690 (!t690) t669 t670 t673 t674 t675 t680 t681 t686 t687)=some r:=by rw[if_pos rfl] at H;exact H
       clear H
       have H:=H1
       clear H1
       have H':=Aside0.mk H
       clear H
       have hnb36:=NB691_678.out
       have hnc36:=NB678_691.out
       have hnb37:=NB691_679.out
       have hnc37:=NB679_691.out
       have hnb38:=NB691_685.out
       have hnc38:=NB685_691.out
       obtain⟨hcz39_0,hcz39_1,hfz39_0,hfz39_1⟩:=zC2 BK691
       have hnb40:=NB685_678.out
       have hnc40:=NB678_685.out
       have hnb41:=NB685_679.out
       have hnc41:=NB679_685.out
       obtain⟨hcz42_0,hcz42_1,hfz42_0,hfz42_1⟩:=zC2 BK685
       go_wp2_with(first|(go_at_call 23;(with_reducible refine(laws_lnStock.calls kj2 t686 _ _ t687 t680 _ _ t681 true _ ?side1 ?side2 ?side3 ?side4 A34.out).mono ?_);(case side1=>refine(Kd.R_reads' (e:=49) (base:=w.heap.size) (ok:=fun k_=>((True∧some k_≠(.slice Ao15 t670.length co15:Value).ownBlock)∧some k_≠(.slice Ao23 t681.length co23:Value).ownBlock)) (n:=t687.length) (c:=co32) ?_).2.2;exact(by(with_reducible repeat(first|apply Kd.R_alloc|apply Kd.R_drewN|apply Kd.R_drew));exact(Kd.R_mono (Kd.R_far (p:=⟨gb691,1,none⟩) (Kd.R_far (p:=⟨gb691,0,none⟩) (Kd.R_types HO689.out BK691.out (by decide)) (fun _ hk=>hk.2) (.int .i64 t686)) (fun _ hk=>hk.2) (.slice Ao32 t687.length co32)) (fun _ h_=>h_.1))));(case side2=>exact(Kd.R_reads' HO689.out).2.1);(case side3=>refine(Kd.R_reads' (e:=49) (base:=w.heap.size) (ok:=fun k_=>((True∧some k_≠(.slice Ao15 t670.length co15:Value).ownBlock)∧some k_≠(.slice Ao32 t687.length co32:Value).ownBlock)) (n:=t681.length) (c:=co23) ?_).2.2;exact(by(with_reducible repeat(first|apply Kd.R_alloc|apply Kd.R_drewN|apply Kd.R_drew));exact(Kd.R_mono (Kd.R_far (p:=⟨gb691,1,none⟩) (Kd.R_far (p:=⟨gb691,0,none⟩) (Kd.R_types HO683.out BK691.out (by decide)) (fun _ hk=>hk.2) (.int .i64 t686)) (fun _ hk=>hk.2) (.slice Ao32 t687.length co32)) (fun _ h_=>h_.1))));(case side4=>exact(Kd.R_reads' HO683.out).2.1);rintro e w43 ⟨rfl,hb⟩;replace HO672:=Aside0.mk (Kd.Q_below (by(with_reducible repeat(first|apply Kd.Q_alloc|apply Kd.Q_drewN|apply Kd.Q_drew));exact(Kd.Q_mono (Kd.Q_far (p:=⟨gb691,1,none⟩) (Kd.Q_far (p:=⟨gb691,0,none⟩) (Kd.Q_types HO672.out BK691.out (by decide)) (fun _ hk=>hk.2) (.int .i64 t686)) (fun _ hk=>hk.2) (.slice Ao32 t687.length co32)) (fun _ h_=>h_.1))) hb);replace HO677:=Aside0.mk (Kd.V_below (by(with_reducible repeat(first|apply Kd.V_alloc|apply Kd.V_drewN|apply Kd.V_drew));exact(Kd.V_mono (Kd.V_far (p:=⟨gb691,1,none⟩) (Kd.V_far (p:=⟨gb691,0,none⟩) (Kd.V_mono HO677.out (fun k_ hk=>(⟨hk,hk.2⟩:_∧k_≠gb691))) (fun _ hk=>hk.2) (.int .i64 t686)) (fun _ hk=>hk.2) (.slice Ao32 t687.length co32)) (fun _ h_=>h_.1))) hb);replace HO683:=Aside0.mk (Kd.R_below (by(with_reducible repeat(first|apply Kd.R_alloc|apply Kd.R_drewN|apply Kd.R_drew));exact(Kd.R_mono (Kd.R_far (p:=⟨gb691,1,none⟩) (Kd.R_far (p:=⟨gb691,0,none⟩) (Kd.R_types HO683.out BK691.out (by decide)) (fun _ hk=>hk.2) (.int .i64 t686)) (fun _ hk=>hk.2) (.slice Ao32 t687.length co32)) (fun _ h_=>h_.1))) hb);replace HO689:=Aside0.mk (Kd.R_below (by(with_reducible repeat(first|apply Kd.R_alloc|apply Kd.R_drewN|apply Kd.R_drew));exact(Kd.R_mono (Kd.R_far (p:=⟨gb691,1,none⟩) (Kd.R_far (p:=⟨gb691,0,none⟩) (Kd.R_types HO689.out BK691.out (by decide)) (fun _ hk=>hk.2) (.int .i64 t686)) (fun _ hk=>hk.2) (.slice Ao32 t687.length co32)) (fun _ h_=>h_.1))) hb);replace BK678:=Aside0.mk (qaa (g:=gb678) (o:=.cells #[.int .i64 t669,.slice Ao15 t670.length co15] 38 (0,0)) (za0 NB678_691 BK678) hb);replace BK679:=Aside0.mk (qaa (g:=gb679) (o:=.cells #[.int .i64 t673,.int .i64 t674,.slice Ao17 t675.length co17] 32 (0,0)) (za0 NB679_691 BK679) hb);replace BK685:=Aside0.mk (qaa (g:=gb685) (o:=.cells #[.int .i64 t680,.slice Ao23 t681.length co23] 38 (0,0)) (za0 NB685_691 BK685) hb);replace BK691:=Aside0.mk (qaa (g:=gb691) (o:=.cells #[.int .i64 t686,.slice Ao32 t687.length co32] 38 (0,0)) (by(with_reducible repeat(first|refine blk_drewN ?_ _|refine blk_drew ?_|refine blk_alloc ?_ _));refine qad (cs:=#[.int .i64 t686,.slice none 0 0]) ?_ 1 _ rfl;(with_reducible repeat(first|refine blk_drewN ?_ _|refine blk_drew ?_|refine blk_alloc ?_ _));refine qad (cs:=#[.int .i64 0,.slice none 0 0]) ?_ 0 _ rfl;(with_reducible repeat(first|refine blk_drewN ?_ _|refine blk_drew ?_|refine blk_alloc ?_ _));exact BK691.out) hb);replace HB:=Aside0.mk (qab (za7 HB GE678 GE679 GE685 GE691) hb);(try clear hb)))
       go_meet
       case rel=>exact⟨_,(!t690),(za43),H',⟨za60 HJ2⟩,⟨by(with_reducible repeat(first|apply Kd.Q_alloc|apply Kd.Q_drewN|apply Kd.Q_drew));exact Kd.Q_mono HO672.out (fun _ hk=>⟨hk.1.2,hk.2⟩)⟩,⟨by(with_reducible repeat(first|apply Kd.V_alloc|apply Kd.V_drewN|apply Kd.V_drew));exact Kd.V_mono HO677.out (fun _ hk=>⟨hk.1.1.1.1.1.1,⟨hk.1.1.1.2,⟨hk.1.2,⟨hk.1.1.1.1.1.2,⟨hk.1.1.1.1.2,⟨hk.1.1.2,hk.2⟩⟩⟩⟩⟩⟩)⟩,⟨Kd.Q_of_R (by(with_reducible repeat(first|apply Kd.R_alloc|apply Kd.R_drewN|apply Kd.R_drew));exact Kd.R_mono HO683.out (fun _ hk=>⟨hk.1.2,hk.2⟩))⟩,⟨Kd.Q_of_R (by(with_reducible repeat(first|apply Kd.R_alloc|apply Kd.R_drewN|apply Kd.R_drew));exact Kd.R_mono HO689.out (fun _ hk=>⟨hk.1.2,hk.2⟩))⟩,⟨za24 BK678⟩,⟨za24 BK679⟩,⟨za24 BK685⟩,⟨za24 BK691⟩,⟨za7 HB GE678 GE679 GE685 GE691⟩⟩
      ·replace c35:=Bool.eq_false_iff.mpr c35
       subst c35
       have H1:(laws_FnStockApart.j1 kj2 l1 t684 t690 true t669 t670 t673 t674 t675 t680 t681 t686 t687)=some r:=by rw[if_neg (show ¬(false=true) by decide)] at H;exact H
       clear H
       have H:=H1
       clear H1
       have H':=Aside0.mk H
       clear H
       have hnb44:=NB691_678.out
       have hnc44:=NB678_691.out
       have hnb45:=NB691_679.out
       have hnc45:=NB679_691.out
       have hnb46:=NB691_685.out
       have hnc46:=NB685_691.out
       obtain⟨hcz47_0,hcz47_1,hfz47_0,hfz47_1⟩:=zC2 BK691
       have hnb48:=NB685_678.out
       have hnc48:=NB678_685.out
       have hnb49:=NB685_679.out
       have hnc49:=NB679_685.out
       obtain⟨hcz50_0,hcz50_1,hfz50_0,hfz50_1⟩:=zC2 BK685
       go_wp2_with(first|(go_at_call 23;(with_reducible refine(laws_lnStock.calls kj2 t686 _ _ t687 t680 _ _ t681 false _ ?side1 ?side2 ?side3 ?side4 A34.out).mono ?_);(case side1=>refine(Kd.R_reads' (e:=49) (base:=w.heap.size) (ok:=fun k_=>((True∧some k_≠(.slice Ao15 t670.length co15:Value).ownBlock)∧some k_≠(.slice Ao23 t681.length co23:Value).ownBlock)) (n:=t687.length) (c:=co32) ?_).2.2;exact(by(with_reducible repeat(first|apply Kd.R_alloc|apply Kd.R_drewN|apply Kd.R_drew));exact(Kd.R_mono (Kd.R_far (p:=⟨gb691,1,none⟩) (Kd.R_far (p:=⟨gb691,0,none⟩) (Kd.R_types HO689.out BK691.out (by decide)) (fun _ hk=>hk.2) (.int .i64 t686)) (fun _ hk=>hk.2) (.slice Ao32 t687.length co32)) (fun _ h_=>h_.1))));(case side2=>exact(Kd.R_reads' HO689.out).2.1);(case side3=>refine(Kd.R_reads' (e:=49) (base:=w.heap.size) (ok:=fun k_=>((True∧some k_≠(.slice Ao15 t670.length co15:Value).ownBlock)∧some k_≠(.slice Ao32 t687.length co32:Value).ownBlock)) (n:=t681.length) (c:=co23) ?_).2.2;exact(by(with_reducible repeat(first|apply Kd.R_alloc|apply Kd.R_drewN|apply Kd.R_drew));exact(Kd.R_mono (Kd.R_far (p:=⟨gb691,1,none⟩) (Kd.R_far (p:=⟨gb691,0,none⟩) (Kd.R_types HO683.out BK691.out (by decide)) (fun _ hk=>hk.2) (.int .i64 t686)) (fun _ hk=>hk.2) (.slice Ao32 t687.length co32)) (fun _ h_=>h_.1))));(case side4=>exact(Kd.R_reads' HO683.out).2.1);rintro e w51 ⟨rfl,hb⟩;replace HO672:=Aside0.mk (Kd.Q_below (by(with_reducible repeat(first|apply Kd.Q_alloc|apply Kd.Q_drewN|apply Kd.Q_drew));exact(Kd.Q_mono (Kd.Q_far (p:=⟨gb691,1,none⟩) (Kd.Q_far (p:=⟨gb691,0,none⟩) (Kd.Q_types HO672.out BK691.out (by decide)) (fun _ hk=>hk.2) (.int .i64 t686)) (fun _ hk=>hk.2) (.slice Ao32 t687.length co32)) (fun _ h_=>h_.1))) hb);replace HO677:=Aside0.mk (Kd.V_below (by(with_reducible repeat(first|apply Kd.V_alloc|apply Kd.V_drewN|apply Kd.V_drew));exact(Kd.V_mono (Kd.V_far (p:=⟨gb691,1,none⟩) (Kd.V_far (p:=⟨gb691,0,none⟩) (Kd.V_mono HO677.out (fun k_ hk=>(⟨hk,hk.2⟩:_∧k_≠gb691))) (fun _ hk=>hk.2) (.int .i64 t686)) (fun _ hk=>hk.2) (.slice Ao32 t687.length co32)) (fun _ h_=>h_.1))) hb);replace HO683:=Aside0.mk (Kd.R_below (by(with_reducible repeat(first|apply Kd.R_alloc|apply Kd.R_drewN|apply Kd.R_drew));exact(Kd.R_mono (Kd.R_far (p:=⟨gb691,1,none⟩) (Kd.R_far (p:=⟨gb691,0,none⟩) (Kd.R_types HO683.out BK691.out (by decide)) (fun _ hk=>hk.2) (.int .i64 t686)) (fun _ hk=>hk.2) (.slice Ao32 t687.length co32)) (fun _ h_=>h_.1))) hb);replace HO689:=Aside0.mk (Kd.R_below (by(with_reducible repeat(first|apply Kd.R_alloc|apply Kd.R_drewN|apply Kd.R_drew));exact(Kd.R_mono (Kd.R_far (p:=⟨gb691,1,none⟩) (Kd.R_far (p:=⟨gb691,0,none⟩) (Kd.R_types HO689.out BK691.out (by decide)) (fun _ hk=>hk.2) (.int .i64 t686)) (fun _ hk=>hk.2) (.slice Ao32 t687.length co32)) (fun _ h_=>h_.1))) hb);replace BK678:=Aside0.mk (qaa (g:=gb678) (o:=.cells #[.int .i64 t669,.slice Ao15 t670.length co15] 38 (0,0)) (za0 NB678_691 BK678) hb);replace BK679:=Aside0.mk (qaa (g:=gb679) (o:=.cells #[.int .i64 t673,.int .i64 t674,.slice Ao17 t675.length co17] 32 (0,0)) (za0 NB679_691 BK679) hb);replace BK685:=Aside0.mk (qaa (g:=gb685) (o:=.cells #[.int .i64 t680,.slice Ao23 t681.length co23] 38 (0,0)) (za0 NB685_691 BK685) hb);replace BK691:=Aside0.mk (qaa (g:=gb691) (o:=.cells #[.int .i64 t686,.slice Ao32 t687.length co32] 38 (0,0)) (by(with_reducible repeat(first|refine blk_drewN ?_ _|refine blk_drew ?_|refine blk_alloc ?_ _));refine qad (cs:=#[.int .i64 t686,.slice none 0 0]) ?_ 1 _ rfl;(with_reducible repeat(first|refine blk_drewN ?_ _|refine blk_drew ?_|refine blk_alloc ?_ _));refine qad (cs:=#[.int .i64 0,.slice none 0 0]) ?_ 0 _ rfl;(with_reducible repeat(first|refine blk_drewN ?_ _|refine blk_drew ?_|refine blk_alloc ?_ _));exact BK691.out) hb);replace HB:=Aside0.mk (qab (za7 HB GE678 GE679 GE685 GE691) hb);(try clear hb)))
       go_meet
       case rel=>exact⟨_,(true),(za43),H',⟨za60 HJ2⟩,⟨by(with_reducible repeat(first|apply Kd.Q_alloc|apply Kd.Q_drewN|apply Kd.Q_drew));exact Kd.Q_mono HO672.out (fun _ hk=>⟨hk.1.2,hk.2⟩)⟩,⟨by(with_reducible repeat(first|apply Kd.V_alloc|apply Kd.V_drewN|apply Kd.V_drew));exact Kd.V_mono HO677.out (fun _ hk=>⟨hk.1.1.1.1.1.1,⟨hk.1.1.1.2,⟨hk.1.2,⟨hk.1.1.1.1.1.2,⟨hk.1.1.1.1.2,⟨hk.1.1.2,hk.2⟩⟩⟩⟩⟩⟩)⟩,⟨Kd.Q_of_R (by(with_reducible repeat(first|apply Kd.R_alloc|apply Kd.R_drewN|apply Kd.R_drew));exact Kd.R_mono HO683.out (fun _ hk=>⟨hk.1.2,hk.2⟩))⟩,⟨Kd.Q_of_R (by(with_reducible repeat(first|apply Kd.R_alloc|apply Kd.R_drewN|apply Kd.R_drew));exact Kd.R_mono HO689.out (fun _ hk=>⟨hk.1.2,hk.2⟩))⟩,⟨za24 BK678⟩,⟨za24 BK679⟩,⟨za24 BK685⟩,⟨za24 BK691⟩,⟨za7 HB GE678 GE679 GE685 GE691⟩⟩
    case rest=>
     clear HC9
     try clear c1
     try clear c2
     try clear p2
     try clear c3
     try clear c4
     try clear c4b0
     try clear c4b1
     try clear c5
     try clear c6
     try clear c13
     try clear c20
     try clear c21
     try clear c24
     try clear c26
     try clear c27
     try clear c28
     try clear c29
     try clear c30
     try clear c33
     try clear c33b0
     try clear c33b1
     try clear c33b2
     try clear c35
     try clear c36
     try clear c37
     try clear c38
     try clear c40
     try clear c41
     try clear c44
     try clear c45
     try clear c46
     try clear c48
     try clear c49
     try clear hcz14_0
     try clear hcz14_1
     try clear hcz16_0
     try clear hcz16_1
     try clear hcz16_2
     try clear hcz22_0
     try clear hcz22_1
     try clear hcz24_0
     try clear hcz24_1
     try clear hcz25_0
     try clear hcz25_1
     try clear hcz25_2
     try clear hcz31_0
     try clear hcz31_1
     try clear hcz39_0
     try clear hcz39_1
     try clear hcz42_0
     try clear hcz42_1
     try clear hcz47_0
     try clear hcz47_1
     try clear hcz50_0
     try clear hcz50_1
     try clear hfz14_0
     try clear hfz14_1
     try clear hfz16_0
     try clear hfz16_1
     try clear hfz16_2
     try clear hfz22_0
     try clear hfz22_1
     try clear hfz24_0
     try clear hfz24_1
     try clear hfz25_0
     try clear hfz25_1
     try clear hfz25_2
     try clear hfz31_0
     try clear hfz31_1
     try clear hfz39_0
     try clear hfz39_1
     try clear hfz42_0
     try clear hfz42_1
     try clear hfz47_0
     try clear hfz47_1
     try clear hfz50_0
     try clear hfz50_1
     try clear p2
     obtain⟨kq,x56_8,rfl,HA,HJ8,HO_679001,HO_680002,HO_686001,HO_692001,BK678,BK679,BK685,BK691,HB⟩:=hcut
     cases kq with
     |zero=>exact absurd HA.out (by simp[laws_FnStockApart.j1])
     |succ kj8=>
      have H:=HA.out
      clear HA
      simp only[laws_FnStockApart.j1] at H
      by_cases c52:x56_8=true
      ·subst c52
       have H1:(if(t690 == t684)=true then((laws_lnStock.f kj8 t686 t687 t680 t681).bind fun t693=>(some t693)) else(some false))=some r:=by rw[if_pos rfl] at H;exact H
       clear H
       have H:=H1
       clear H1
       by_cases c53:(t690 == t684)=true
       ·rw[if_pos c53] at H
        have c53b0:(t690 == t684)=true:=c53
        (try(have c53b1:decide (t690=t684)=true:=by simpa using c53))
        (try(have c53b2:(t690 == t684)=true:=by simpa using c53))
        clear c53
        replace H:=Option.bind_eq_some_iff.mp H
        obtain⟨t693,A540,H⟩:=H
        replace H:(some t693)=some r:=H
        have A54:=Aside0.mk A540
        clear A540
        obtain rfl:=Option.some.inj H
        have hnb55:=NB691_678.out
        have hnc55:=NB678_691.out
        have hnb56:=NB691_679.out
        have hnc56:=NB679_691.out
        have hnb57:=NB691_685.out
        have hnc57:=NB685_691.out
        obtain⟨hcz58_0,hcz58_1,hfz58_0,hfz58_1⟩:=zC2 BK691
        have hnb59:=NB685_678.out
        have hnc59:=NB678_685.out
        have hnb60:=NB685_679.out
        have hnc60:=NB679_685.out
        obtain⟨hcz61_0,hcz61_1,hfz61_0,hfz61_1⟩:=zC2 BK685
        go_wp2_with(first|(go_at_call 23;(with_reducible refine(laws_lnStock.calls kj8 t686 _ _ t687 t680 _ _ t681 t693 _ ?side1 ?side2 ?side3 ?side4 A54.out).mono ?_);(case side1=>repeat(first|exact(Kd.Q_reads' HO_692001.out).2.2|(with_reducible refine Kd.C_alloc ?_ _)|(with_reducible refine Kd.C_drewN ?_ _)|(with_reducible refine Kd.C_drew ?_)));(case side2=>exact(Kd.Q_reads' HO_692001.out).2.1);(case side3=>repeat(first|exact(Kd.Q_reads' HO_686001.out).2.2|(with_reducible refine Kd.C_alloc ?_ _)|(with_reducible refine Kd.C_drewN ?_ _)|(with_reducible refine Kd.C_drew ?_)));(case side4=>exact(Kd.Q_reads' HO_686001.out).2.1);rintro e w62 ⟨rfl,hb⟩;replace HO_679001:=Aside0.mk (Kd.Q_below (za10 HO_679001) hb);replace HO_680002:=Aside0.mk (Kd.V_below (za42 HO_680002) hb);replace HO_686001:=Aside0.mk (Kd.Q_below (za10 HO_686001) hb);replace HO_692001:=Aside0.mk (Kd.Q_below (za10 HO_692001) hb);replace BK678:=Aside0.mk (qaa (zB BK678) hb);replace BK679:=Aside0.mk (qaa (zB BK679) hb);replace BK685:=Aside0.mk (qaa (zB BK685) hb);replace BK691:=Aside0.mk (qaa (zB BK691) hb);replace HB:=Aside0.mk (qab (za7 HB GE678 GE679 GE685 GE691) hb);(try clear hb)))
        go_ret
        exact⟨za16,za7 HB GE678 GE679 GE685 GE691⟩
       ·rw[if_neg c53] at H
        have c53b0:(t690 == t684)=false:=by simpa using c53
        (try(have c53b1:decide (t690=t684)=false:=by simpa using c53))
        (try(have c53b2:(t690 == t684)=false:=by simpa using c53))
        (try(have c53b3:¬(t690=t684):=by simpa using c53))
        clear c53
        obtain rfl:=Option.some.inj H
        go_wp2
        go_ret
        exact⟨za16,za7 HB GE678 GE679 GE685 GE691⟩
      ·replace c52:=Bool.eq_false_iff.mpr c52
       subst c52
       have H1:((some (([1,2,3]:List Int):List Int)).bind fun y694=>(if 0≤(Int.tmod (wrap64 ((l1.length:Int) / 6)) 3) then(if(Int.tmod (wrap64 ((l1.length:Int) / 6)) 3)<(y694.length:Int) then(if(rd y694 (Int.tmod (wrap64 ((l1.length:Int) / 6)) 3))=1 then(laws_FnStockApart.j2 kj8 (1+((l1.length:Int)%6)) t669 t670 t673 t674 t675 t686 t687 (rd y694 (Int.tmod (wrap64 ((l1.length:Int) / 6)) 3)) (1+((l1.length:Int)%6)) (([1]:List Int))) else(laws_FnStockApart.j2 kj8 (1+((l1.length:Int)%6)) t669 t670 t673 t674 t675 t686 t687 (rd y694 (Int.tmod (wrap64 ((l1.length:Int) / 6)) 3)) (1+((l1.length:Int)%6)) ([]:List Int))) else(none)) else(none)))=some r:=by rw[if_neg (show ¬(false=true) by decide)] at H;exact H
       clear H
       have H:=H1
       clear H1
       obtain⟨y694,hy694⟩:∃y_:List Int,y_=(([1,2,3]:List Int)):=⟨_,rfl⟩
       replace H:(if 0≤(Int.tmod (wrap64 ((l1.length:Int) / 6)) 3) then(if(Int.tmod (wrap64 ((l1.length:Int) / 6)) 3)<(y694.length:Int) then(if(rd y694 (Int.tmod (wrap64 ((l1.length:Int) / 6)) 3))=1 then(laws_FnStockApart.j2 kj8 (1+((l1.length:Int)%6)) t669 t670 t673 t674 t675 t686 t687 (rd y694 (Int.tmod (wrap64 ((l1.length:Int) / 6)) 3)) (1+((l1.length:Int)%6)) (([1]:List Int))) else(laws_FnStockApart.j2 kj8 (1+((l1.length:Int)%6)) t669 t670 t673 t674 t675 t686 t687 (rd y694 (Int.tmod (wrap64 ((l1.length:Int) / 6)) 3)) (1+((l1.length:Int)%6)) ([]:List Int))) else(none)) else(none))=some r:=by first|(rw[hy694];with_reducible exact H)|(have H2_:=(Option.bind_some _ _).symm.trans H;rw[hy694];with_reducible exact H2_)|(have H2_:=(Option.bind_some _ _).symm.trans H;with_reducible exact H2_)|with_reducible exact H|(rw[hy694];exact H)|exact H
       have Ny694:=Aside0.mk hy694
       clear hy694
       obtain⟨ji63,hji63⟩:∃j_:Int,(Int.tmod (wrap64 ((l1.length:Int) / 6)) 3)=j_:=⟨_,rfl⟩
       replace H:(if 0≤(ji63) then(if(ji63)<(y694.length:Int) then(if(rd y694 (ji63))=1 then(laws_FnStockApart.j2 kj8 (1+((l1.length:Int)%6)) t669 t670 t673 t674 t675 t686 t687 (rd y694 (ji63)) (1+((l1.length:Int)%6)) (([1]:List Int))) else(laws_FnStockApart.j2 kj8 (1+((l1.length:Int)%6)) t669 t670 t673 t674 t675 t686 t687 (rd y694 (ji63)) (1+((l1.length:Int)%6)) ([]:List Int))) else(none)) else(none))=some r:=by first|(rw[hji63] at H;exact H)|(simp only[hji63] at H ⊢;exact H)
       by_cases c64:0≤(ji63)
       ·rw[if_pos c64] at H
        have c64b0:decide (0≤(ji63))=true:=decide_eq_true c64
        clear c64
        by_cases c65:(ji63)<(y694.length:Int)
        ·rw[if_pos c65] at H
         have c65b0:decide ((ji63)<(y694.length:Int))=true:=decide_eq_true c65
         clear c65
         have HC66:=Aside0.mk H
         clear H
         go_upto_if 80 with(first|((with_reducible refine qae (N:=69) rfl ?_);(try(refine gate_guard (by rfl) ?_;dsimp only));refine Kd.R_lit (Kd.int .i64) _ 3 (by rfl) (N:=69) (by rfl) (xs:=([1,2,3]:List Int)) (inner:=[.int .i64 1,.int .i64 2,.int .i64 3]) (ok:=fun _=>True) (okp:=fun _=>True) (by first|(go_simp;done)|(go_simp;rfl)) ?hp (fun _ hk=>hk) trivial (Below.refl _ _) (Nat.le_refl _) (by simp) ?_;(case hp=>exact(Reps.one (show Kd.M (Kd.int .i64) _ _ _ 1 [.int .i64 1] from rfl) (Reps.one (show Kd.M (Kd.int .i64) _ _ _ 2 [.int .i64 2] from rfl) (Reps.one (show Kd.M (Kd.int .i64) _ _ _ 3 [.int .i64 3] from rfl) (Reps.none _ _)))));intro v695 w67 ho68 hb hg_ hnew_;clear hg_ hnew_;(first|rw[←Ny694.out] at ho68|(simp only[Int.reduceToNat] at ho68;rw[←Ny694.out] at ho68));replace HO_679001:=Aside0.mk (Kd.Q_below (za10 HO_679001) hb);replace HO_680002:=Aside0.mk (Kd.V_elder' (za42 HO_680002) (Kd.R_base ho68) hb);replace HO_686001:=Aside0.mk (Kd.Q_below (za10 HO_686001) hb);replace HO_692001:=Aside0.mk (Kd.Q_below (za10 HO_692001) hb);have HO696:=Aside0.mk (Kd.R_lower ho68 (below_size (za7 HB GE678 GE679 GE685 GE691)));replace BK678:=Aside0.mk (qaa (zB BK678) hb);replace BK679:=Aside0.mk (qaa (zB BK679) hb);replace BK685:=Aside0.mk (qaa (zB BK685) hb);replace BK691:=Aside0.mk (qaa (zB BK691) hb);replace HB:=Aside0.mk (qab (za7 HB GE678 GE679 GE685 GE691) hb);clear hb ho68;obtain⟨Ao69,co69,eo69⟩:=Kd.R_slice HO696.out;subst eo69;have p697:0≤((ji63):Int):=of_decide_eq_true (za9);have q697:(ji63)<(y694.length:Int):=of_decide_eq_true (za9);obtain⟨ad697,e697,hx697_0⟩:=Kd.at_int (Kd.R_reads' HO696.out).2.2 (ji63) p697 q697;cases e697;replace p697:=eq_true p697;replace q697:=eq_true q697)|((with_reducible refine qae (N:=12) rfl ?_);(try(refine gate_guard (by rfl) ?_;dsimp only));refine zX (N:=12) (cs:=#[.int .i64 0,.int .i64 0,.slice none 0 0]) (t:=32) ?_;intro gb698 hg w70 hbox hb;replace HO_679001:=Aside0.mk (Kd.Q_below (za10 HO_679001) hb);replace HO_680002:=Aside0.mk (Kd.V_below (Kd.V_elderB (za42 HO_680002) gb698 (Nat.le_of_eq hg.symm)) hb);replace HO_686001:=Aside0.mk (Kd.Q_below (za10 HO_686001) hb);replace HO_692001:=Aside0.mk (Kd.Q_below (za10 HO_692001) hb);replace HO696:=Aside0.mk (Kd.R_below (za5 HO696) hb);have BK698:=Aside0.mk hbox;have GW698:=zH (w:=w) hg (za7 HB GE678 GE679 GE685 GE691);have GE698:=GW698;replace HB:=Aside0.mk (qab (za7 HB GE678 GE679 GE685 GE691) hb);have NB678_698:=zL BK678 hg;have NB698_678:=zG BK678 hg;replace BK678:=Aside0.mk (qaa (zB BK678) hb);have NB679_698:=zL BK679 hg;have NB698_679:=zG BK679 hg;replace BK679:=Aside0.mk (qaa (zB BK679) hb);have NB685_698:=zL BK685 hg;have NB698_685:=zG BK685 hg;replace BK685:=Aside0.mk (qaa (zB BK685) hb);have NB691_698:=zL BK691 hg;have NB698_691:=zG BK691 hg;replace BK691:=Aside0.mk (qaa (zB BK691) hb);clear hb hbox hg;have hnb71:=NB698_678.out;have hnc71:=NB678_698.out;have hnb72:=NB698_679.out;have hnc72:=NB679_698.out;have hnb73:=NB698_685.out;have hnc73:=NB685_698.out;have hnb74:=NB698_691.out;have hnc74:=NB691_698.out;obtain⟨hcz75_0,hcz75_1,hcz75_2,hfz75_0,hfz75_1,hfz75_2⟩:=zC3 BK698))
         (try simp only[Act.put,List.setIfInBounds_toArray,List.set_cons_zero,List.set_cons_succ])
         go_cut [] (fun wc=>∃(kq:Nat) (x699002_65:List Int) (u699002:Value),Aside0 (laws_FnStockApart.j2 kq (1+((l1.length:Int)%6)) t669 t670 t673 t674 t675 t686 t687 (rd y694 (ji63)) (1+((l1.length:Int)%6)) x699002_65=some r)∧Aside0 (kq≤kj8)∧Aside0 (Kd.Q k49 49 wc w.heap.size (fun k_=>some k_≠((.slice Ao23 t681.length co23):Value).ownBlock∧some k_≠((.slice Ao32 t687.length co32):Value).ownBlock) (.slice Ao15 t670.length co15) t670)∧Aside0 (Kd.V (Kd.int .i64) 3 wc w.heap.size (fun k_=>some k_≠((.slice Ao15 t670.length co15):Value).ownBlock∧some k_≠((.slice Ao23 t681.length co23):Value).ownBlock∧some k_≠((.slice Ao32 t687.length co32):Value).ownBlock∧some k_≠(u699002:Value).ownBlock∧k_≠gb678∧k_≠gb679∧k_≠gb685∧k_≠gb691∧k_≠gb698) (.slice Ao17 t675.length co17) t675)∧Aside0 (Kd.Q k49 49 wc w.heap.size (fun k_=>some k_≠((.slice Ao15 t670.length co15):Value).ownBlock∧some k_≠((.slice Ao32 t687.length co32):Value).ownBlock) (.slice Ao23 t681.length co23) t681)∧Aside0 (Kd.Q k49 49 wc w.heap.size (fun k_=>some k_≠((.slice Ao15 t670.length co15):Value).ownBlock∧some k_≠((.slice Ao23 t681.length co23):Value).ownBlock) (.slice Ao32 t687.length co32) t687)∧Aside0 (Kd.R (Kd.int .i64) 3 wc w.heap.size (fun _=>True) u699002 x699002_65)∧Aside0 (wc.heap[gb678]?=some (.cells #[.int .i64 t669,(.slice Ao15 t670.length co15)] 38 (0,0)))∧Aside0 (wc.heap[gb679]?=some (.cells #[.int .i64 t673,.int .i64 t674,(.slice Ao17 t675.length co17)] 32 (0,0)))∧Aside0 (wc.heap[gb685]?=some (.cells #[.int .i64 t680,(.slice Ao23 t681.length co23)] 38 (0,0)))∧Aside0 (wc.heap[gb691]?=some (.cells #[.int .i64 t686,(.slice Ao32 t687.length co32)] 38 (0,0)))∧Aside0 (wc.heap[gb698]?=some (.cells #[.int .i64 (rd y694 (ji63)),.int .i64 (1+((l1.length:Int)%6)),u699002] 32 (0,0)))∧Aside0 (Below w.heap.size w wc))
         case first=>
          have H:=HC66.out
          clear HC66
          by_cases c76:(rd y694 (ji63))=1
          ·rw[if_pos c76] at H
           have c76b0:((rd y694 (ji63)) == 1)=true:=beq_iff_eq.mpr c76
           have c76b1:((rd y694 (ji63)) != 1)=false:=bne_eq_false_iff_eq.mpr c76
           clear c76
           (first|rw[c76b0]|(simp only[qaf,qag];rw[c76b0])|skip)
           obtain⟨y699,hy699⟩:∃y_:List Int,y_=(([1]:List Int)):=⟨_,rfl⟩
           replace H:(laws_FnStockApart.j2 kj8 (1+((l1.length:Int)%6)) t669 t670 t673 t674 t675 t686 t687 (rd y694 (ji63)) (1+((l1.length:Int)%6)) y699)=some r:=by first|(rw[hy699];with_reducible exact H)|(have H2_:=(Option.bind_some _ _).symm.trans H;rw[hy699];with_reducible exact H2_)|(have H2_:=(Option.bind_some _ _).symm.trans H;with_reducible exact H2_)|with_reducible exact H|(rw[hy699];exact H)|exact H
           have Ny699:=Aside0.mk hy699
           clear hy699
           have H':=Aside0.mk H
           clear H
           go_wp2_with(first|((with_reducible refine qae (N:=81) rfl ?_);(try(refine gate_guard (by rfl) ?_;dsimp only));refine Kd.R_lit (Kd.int .i64) _ 3 (by rfl) (N:=81) (by rfl) (xs:=([1]:List Int)) (inner:=[.int .i64 1]) (ok:=fun _=>True) (okp:=fun _=>True) (by first|(go_simp;done)|(go_simp;rfl)) ?hp (fun _ hk=>hk) trivial (Below.refl _ _) (Nat.le_refl _) (by simp) ?_;(case hp=>exact(Reps.one (show Kd.M (Kd.int .i64) _ _ _ 1 [.int .i64 1] from rfl) (Reps.none _ _)));intro v700 w77 ho78 hb hg_ hnew_;clear hg_ hnew_;(first|rw[←Ny699.out] at ho78|(simp only[Int.reduceToNat] at ho78;rw[←Ny699.out] at ho78));replace HO_679001:=Aside0.mk (Kd.Q_below (by(with_reducible repeat(first|apply Kd.Q_alloc|apply Kd.Q_drewN|apply Kd.Q_drew));exact(Kd.Q_mono (Kd.Q_far (p:=⟨gb698,2,none⟩) (Kd.Q_far (p:=⟨gb698,1,none⟩) (Kd.Q_far (p:=⟨gb698,0,none⟩) (Kd.Q_types HO_679001.out BK698.out (by decide)) (fun _ hk=>hk.2) (.int .i64 (rd y694 (ji63)))) (fun _ hk=>hk.2) (.int .i64 (1+((l1.length:Int)%6)))) (fun _ hk=>hk.2) (.slice none 0 0)) (fun _ h_=>h_.1))) hb);replace HO_680002:=Aside0.mk (Kd.V_elder' (by(with_reducible repeat(first|apply Kd.V_alloc|apply Kd.V_drewN|apply Kd.V_drew));exact(Kd.V_mono (Kd.V_far (p:=⟨gb698,2,none⟩) (Kd.V_far (p:=⟨gb698,1,none⟩) (Kd.V_far (p:=⟨gb698,0,none⟩) (Kd.V_mono HO_680002.out (fun k_ hk=>(⟨hk,hk.2⟩:_∧k_≠gb698))) (fun _ hk=>hk.2) (.int .i64 (rd y694 (ji63)))) (fun _ hk=>hk.2) (.int .i64 (1+((l1.length:Int)%6)))) (fun _ hk=>hk.2) (.slice none 0 0)) (fun _ h_=>h_.1))) (Kd.R_base ho78) hb);replace HO_686001:=Aside0.mk (Kd.Q_below (by(with_reducible repeat(first|apply Kd.Q_alloc|apply Kd.Q_drewN|apply Kd.Q_drew));exact(Kd.Q_mono (Kd.Q_far (p:=⟨gb698,2,none⟩) (Kd.Q_far (p:=⟨gb698,1,none⟩) (Kd.Q_far (p:=⟨gb698,0,none⟩) (Kd.Q_types HO_686001.out BK698.out (by decide)) (fun _ hk=>hk.2) (.int .i64 (rd y694 (ji63)))) (fun _ hk=>hk.2) (.int .i64 (1+((l1.length:Int)%6)))) (fun _ hk=>hk.2) (.slice none 0 0)) (fun _ h_=>h_.1))) hb);replace HO_692001:=Aside0.mk (Kd.Q_below (by(with_reducible repeat(first|apply Kd.Q_alloc|apply Kd.Q_drewN|apply Kd.Q_drew));exact(Kd.Q_mono (Kd.Q_far (p:=⟨gb698,2,none⟩) (Kd.Q_far (p:=⟨gb698,1,none⟩) (Kd.Q_far (p:=⟨gb698,0,none⟩) (Kd.Q_types HO_692001.out BK698.out (by decide)) (fun _ hk=>hk.2) (.int .i64 (rd y694 (ji63)))) (fun _ hk=>hk.2) (.int .i64 (1+((l1.length:Int)%6)))) (fun _ hk=>hk.2) (.slice none 0 0)) (fun _ h_=>h_.1))) hb);have HO701:=Aside0.mk (Kd.R_lower (Kd.R_new' ho78 (Kd.R_lt (by(with_reducible repeat(first|apply Kd.R_alloc|apply Kd.R_drewN|apply Kd.R_drew));exact(Kd.R_mono (Kd.R_far (p:=⟨gb698,2,none⟩) (Kd.R_far (p:=⟨gb698,1,none⟩) (Kd.R_far (p:=⟨gb698,0,none⟩) (Kd.R_types HO696.out BK698.out (by decide)) (fun _ hk=>hk.2) (.int .i64 (rd y694 (ji63)))) (fun _ hk=>hk.2) (.int .i64 (1+((l1.length:Int)%6)))) (fun _ hk=>hk.2) (.slice none 0 0)) (fun _ h_=>h_.1))))) (below_size (za52 HB GE678 GE679 GE685 GE691 GE698)));replace HO696:=Aside0.mk (Kd.R_elder' (by(with_reducible repeat(first|apply Kd.R_alloc|apply Kd.R_drewN|apply Kd.R_drew));exact(Kd.R_mono (Kd.R_far (p:=⟨gb698,2,none⟩) (Kd.R_far (p:=⟨gb698,1,none⟩) (Kd.R_far (p:=⟨gb698,0,none⟩) (Kd.R_types HO696.out BK698.out (by decide)) (fun _ hk=>hk.2) (.int .i64 (rd y694 (ji63)))) (fun _ hk=>hk.2) (.int .i64 (1+((l1.length:Int)%6)))) (fun _ hk=>hk.2) (.slice none 0 0)) (fun _ h_=>h_.1))) (Kd.R_base ho78) hb);replace BK678:=Aside0.mk (qaa (g:=gb678) (o:=.cells #[.int .i64 t669,.slice Ao15 t670.length co15] 38 (0,0)) (za3 NB678_698 BK678) hb);replace BK679:=Aside0.mk (qaa (g:=gb679) (o:=.cells #[.int .i64 t673,.int .i64 t674,.slice Ao17 t675.length co17] 32 (0,0)) (za3 NB679_698 BK679) hb);replace BK685:=Aside0.mk (qaa (g:=gb685) (o:=.cells #[.int .i64 t680,.slice Ao23 t681.length co23] 38 (0,0)) (za3 NB685_698 BK685) hb);replace BK691:=Aside0.mk (qaa (g:=gb691) (o:=.cells #[.int .i64 t686,.slice Ao32 t687.length co32] 38 (0,0)) (za3 NB691_698 BK691) hb);replace BK698:=Aside0.mk (qaa (g:=gb698) (o:=.cells #[.int .i64 (rd y694 (ji63)),.int .i64 (1+((l1.length:Int)%6)),.slice none 0 0] 32 (0,0)) (by(with_reducible repeat(first|refine blk_drewN ?_ _|refine blk_drew ?_|refine blk_alloc ?_ _));refine qad (cs:=#[.int .i64 (rd y694 (ji63)),.int .i64 (1+((l1.length:Int)%6)),.slice none 0 0]) ?_ 2 _ rfl;(with_reducible repeat(first|refine blk_drewN ?_ _|refine blk_drew ?_|refine blk_alloc ?_ _));refine qad (cs:=#[.int .i64 (rd y694 (ji63)),.int .i64 0,.slice none 0 0]) ?_ 1 _ rfl;(with_reducible repeat(first|refine blk_drewN ?_ _|refine blk_drew ?_|refine blk_alloc ?_ _));refine qad (cs:=#[.int .i64 0,.int .i64 0,.slice none 0 0]) ?_ 0 _ rfl;(with_reducible repeat(first|refine blk_drewN ?_ _|refine blk_drew ?_|refine blk_alloc ?_ _));exact BK698.out) hb);replace HB:=Aside0.mk (qab (za52 HB GE678 GE679 GE685 GE691 GE698) hb);clear hb ho78;obtain⟨Ao79,co79,eo79⟩:=Kd.R_slice HO701.out;subst eo79;have hnb80:=NB698_678.out;have hnc80:=NB678_698.out;have hnb81:=NB698_679.out;have hnc81:=NB679_698.out;have hnb82:=NB698_685.out;have hnc82:=NB685_698.out;have hnb83:=NB698_691.out;have hnc83:=NB691_698.out;obtain⟨hcz84_0,hcz84_1,hcz84_2,hfz84_0,hfz84_1,hfz84_2⟩:=zC3 BK698))
           go_meet
           case rel=>exact⟨_,(y699),(.slice Ao79 y699.length co79),H',⟨za61 HJ2 HJ8⟩,⟨by(with_reducible repeat(first|apply Kd.Q_alloc|apply Kd.Q_drewN|apply Kd.Q_drew));exact Kd.Q_mono (Kd.Q_far (p:=⟨gb698,2,none⟩) (Kd.Q_types HO_679001.out BK698.out (by decide)) (fun _ hk=>hk.2) (.slice Ao79 y699.length co79)) (fun _ hk=>⟨hk.1.1,hk.1.2⟩)⟩,⟨by(with_reducible repeat(first|apply Kd.V_alloc|apply Kd.V_drewN|apply Kd.V_drew));exact Kd.V_mono (Kd.V_far (p:=⟨gb698,2,none⟩) (Kd.V_mono HO_680002.out (fun k_ hk=>(⟨hk,hk.1.2⟩:_∧k_≠gb698))) (fun _ hk=>hk.2) (.slice Ao79 y699.length co79)) (fun _ hk=>⟨hk.1.1.1.1.1,⟨hk.1.1.1.1.2.1,⟨hk.1.1.1.1.2.2.1,⟨hk.1.2,⟨hk.1.1.1.1.2.2.2.1,⟨hk.1.1.1.1.2.2.2.2.1,⟨hk.1.1.1.1.2.2.2.2.2.1,⟨hk.1.1.1.1.2.2.2.2.2.2,hk.1.1.2⟩⟩⟩⟩⟩⟩⟩⟩)⟩,⟨by(with_reducible repeat(first|apply Kd.Q_alloc|apply Kd.Q_drewN|apply Kd.Q_drew));exact Kd.Q_mono (Kd.Q_far (p:=⟨gb698,2,none⟩) (Kd.Q_types HO_686001.out BK698.out (by decide)) (fun _ hk=>hk.2) (.slice Ao79 y699.length co79)) (fun _ hk=>⟨hk.1.1,hk.1.2⟩)⟩,⟨by(with_reducible repeat(first|apply Kd.Q_alloc|apply Kd.Q_drewN|apply Kd.Q_drew));exact Kd.Q_mono (Kd.Q_far (p:=⟨gb698,2,none⟩) (Kd.Q_types HO_692001.out BK698.out (by decide)) (fun _ hk=>hk.2) (.slice Ao79 y699.length co79)) (fun _ hk=>⟨hk.1.1,hk.1.2⟩)⟩,⟨by(with_reducible repeat(first|apply Kd.R_alloc|apply Kd.R_drewN|apply Kd.R_drew));exact Kd.R_mono (Kd.R_far (p:=⟨gb698,2,none⟩) (Kd.R_types HO701.out BK698.out (by decide)) (fun _ hk=>hk.2) (.slice Ao79 y699.length co79)) (fun _ hk=>trivial)⟩,⟨za45 NB678_698 BK678⟩,⟨za45 NB679_698 BK679⟩,⟨za45 NB685_698 BK685⟩,⟨za45 NB691_698 BK691⟩,⟨by(with_reducible repeat(first|refine blk_drewN ?_ _|refine blk_drew ?_|refine blk_alloc ?_ _));refine qad (cs:=#[.int .i64 (rd y694 (ji63)),.int .i64 (1+((l1.length:Int)%6)),.slice none 0 0]) ?_ 2 _ rfl;(with_reducible repeat(first|refine blk_drewN ?_ _|refine blk_drew ?_|refine blk_alloc ?_ _));exact BK698.out⟩,⟨za52 HB GE678 GE679 GE685 GE691 GE698⟩⟩
          ·rw[if_neg c76] at H
           have c76b0:((rd y694 (ji63)) == 1)=false:=beq_eq_false_iff_ne.mpr c76
           have c76b1:((rd y694 (ji63)) != 1)=true:=bne_iff_ne.mpr c76
           (first|rw[c76b0]|(simp only[qaf,qag];rw[c76b0])|skip)
           have H':=Aside0.mk H
           clear H
           go_wp2
           go_meet
           case rel=>exact⟨_,(([]:List Int)),(.slice none 0 0),H',⟨za61 HJ2 HJ8⟩,⟨by(with_reducible repeat(first|apply Kd.Q_alloc|apply Kd.Q_drewN|apply Kd.Q_drew));exact Kd.Q_mono (Kd.Q_far (p:=⟨gb698,2,none⟩) (Kd.Q_far (p:=⟨gb698,1,none⟩) (Kd.Q_far (p:=⟨gb698,0,none⟩) (Kd.Q_types HO_679001.out BK698.out (by decide)) (fun _ hk=>hk.2) (.int .i64 (rd y694 (ji63)))) (fun _ hk=>hk.2) (.int .i64 (1+((l1.length:Int)%6)))) (fun _ hk=>hk.2) (.slice none 0 0)) (fun _ hk=>⟨hk.1.1,hk.1.2⟩)⟩,⟨by(with_reducible repeat(first|apply Kd.V_alloc|apply Kd.V_drewN|apply Kd.V_drew));exact Kd.V_mono (Kd.V_far (p:=⟨gb698,2,none⟩) (Kd.V_far (p:=⟨gb698,1,none⟩) (Kd.V_far (p:=⟨gb698,0,none⟩) (Kd.V_mono HO_680002.out (fun k_ hk=>(⟨hk,hk.2⟩:_∧k_≠gb698))) (fun _ hk=>hk.2) (.int .i64 (rd y694 (ji63)))) (fun _ hk=>hk.2) (.int .i64 (1+((l1.length:Int)%6)))) (fun _ hk=>hk.2) (.slice none 0 0)) (fun _ hk=>⟨hk.1.1.1.1,⟨hk.1.1.1.2.1,⟨hk.1.1.1.2.2.1,⟨(by simp[Value.ownBlock]),⟨hk.1.1.1.2.2.2.1,⟨hk.1.1.1.2.2.2.2.1,⟨hk.1.1.1.2.2.2.2.2.1,⟨hk.1.1.1.2.2.2.2.2.2,hk.1.2⟩⟩⟩⟩⟩⟩⟩⟩)⟩,⟨by(with_reducible repeat(first|apply Kd.Q_alloc|apply Kd.Q_drewN|apply Kd.Q_drew));exact Kd.Q_mono (Kd.Q_far (p:=⟨gb698,2,none⟩) (Kd.Q_far (p:=⟨gb698,1,none⟩) (Kd.Q_far (p:=⟨gb698,0,none⟩) (Kd.Q_types HO_686001.out BK698.out (by decide)) (fun _ hk=>hk.2) (.int .i64 (rd y694 (ji63)))) (fun _ hk=>hk.2) (.int .i64 (1+((l1.length:Int)%6)))) (fun _ hk=>hk.2) (.slice none 0 0)) (fun _ hk=>⟨hk.1.1,hk.1.2⟩)⟩,⟨by(with_reducible repeat(first|apply Kd.Q_alloc|apply Kd.Q_drewN|apply Kd.Q_drew));exact Kd.Q_mono (Kd.Q_far (p:=⟨gb698,2,none⟩) (Kd.Q_far (p:=⟨gb698,1,none⟩) (Kd.Q_far (p:=⟨gb698,0,none⟩) (Kd.Q_types HO_692001.out BK698.out (by decide)) (fun _ hk=>hk.2) (.int .i64 (rd y694 (ji63)))) (fun _ hk=>hk.2) (.int .i64 (1+((l1.length:Int)%6)))) (fun _ hk=>hk.2) (.slice none 0 0)) (fun _ hk=>⟨hk.1.1,hk.1.2⟩)⟩,⟨za59⟩,⟨za3 NB678_698 BK678⟩,⟨za3 NB679_698 BK679⟩,⟨za3 NB685_698 BK685⟩,⟨za3 NB691_698 BK691⟩,⟨by(with_reducible repeat(first|refine blk_drewN ?_ _|refine blk_drew ?_|refine blk_alloc ?_ _));refine qad (cs:=#[.int .i64 (rd y694 (ji63)),.int .i64 (1+((l1.length:Int)%6)),.slice none 0 0]) ?_ 2 _ rfl;(with_reducible repeat(first|refine blk_drewN ?_ _|refine blk_drew ?_|refine blk_alloc ?_ _));refine qad (cs:=#[.int .i64 (rd y694 (ji63)),.int .i64 0,.slice none 0 0]) ?_ 1 _ rfl;(with_reducible repeat(first|refine blk_drewN ?_ _|refine blk_drew ?_|refine blk_alloc ?_ _));refine qad (cs:=#[.int .i64 0,.int .i64 0,.slice none 0 0]) ?_ 0 _ rfl;(with_reducible repeat(first|refine blk_drewN ?_ _|refine blk_drew ?_|refine blk_alloc ?_ _));exact BK698.out⟩,⟨za52 HB GE678 GE679 GE685 GE691 GE698⟩⟩
         case rest=>
          clear HC66
          try clear c1
          try clear c2
          try clear p2
          try clear c3
          try clear c4
          try clear c4b0
          try clear c4b1
          try clear c5
          try clear c6
          try clear p6
          try clear q6
          try clear hx6
          try clear c7
          try clear c8
          try clear c13
          try clear c20
          try clear c21
          try clear c24
          try clear c26
          try clear c27
          try clear c28
          try clear c29
          try clear c30
          try clear c33
          try clear c33b0
          try clear c33b1
          try clear c33b2
          try clear c35
          try clear c36
          try clear c37
          try clear c38
          try clear c40
          try clear c41
          try clear c44
          try clear c45
          try clear c46
          try clear c48
          try clear c49
          try clear c52
          try clear c53
          try clear c53b0
          try clear c53b1
          try clear c53b2
          try clear c55
          try clear c56
          try clear c57
          try clear c59
          try clear c60
          try clear c64
          try clear c64b0
          try clear p64
          try clear c65
          try clear c65b0
          try clear p69
          try clear q69
          try clear hx69
          try clear c71
          try clear c72
          try clear c73
          try clear c74
          try clear c76
          try clear c76b0
          try clear c76b1
          try clear c80
          try clear c81
          try clear c82
          try clear c83
          try clear hcz14_0
          try clear hcz14_1
          try clear hcz16_0
          try clear hcz16_1
          try clear hcz16_2
          try clear hcz22_0
          try clear hcz22_1
          try clear hcz24_0
          try clear hcz24_1
          try clear hcz25_0
          try clear hcz25_1
          try clear hcz25_2
          try clear hcz31_0
          try clear hcz31_1
          try clear hcz39_0
          try clear hcz39_1
          try clear hcz42_0
          try clear hcz42_1
          try clear hcz47_0
          try clear hcz47_1
          try clear hcz50_0
          try clear hcz50_1
          try clear hcz58_0
          try clear hcz58_1
          try clear hcz61_0
          try clear hcz61_1
          try clear hcz75_0
          try clear hcz75_1
          try clear hcz75_2
          try clear hcz84_0
          try clear hcz84_1
          try clear hcz84_2
          try clear hfz14_0
          try clear hfz14_1
          try clear hfz16_0
          try clear hfz16_1
          try clear hfz16_2
          try clear hfz22_0
          try clear hfz22_1
          try clear hfz24_0
          try clear hfz24_1
          try clear hfz25_0
          try clear hfz25_1
          try clear hfz25_2
          try clear hfz31_0
          try clear hfz31_1
          try clear hfz39_0
          try clear hfz39_1
          try clear hfz42_0
          try clear hfz42_1
          try clear hfz47_0
          try clear hfz47_1
          try clear hfz50_0
          try clear hfz50_1
          try clear hfz58_0
          try clear hfz58_1
          try clear hfz61_0
          try clear hfz61_1
          try clear hfz75_0
          try clear hfz75_1
          try clear hfz75_2
          try clear hfz84_0
          try clear hfz84_1
          try clear hfz84_2
          try clear hx697_0
          try clear p2
          try clear p697
          try clear q697
          obtain⟨kq,x699002_65,u699002,HA,HJ65,HO_679001,HO_680002,HO_686001,HO_692001,HO_699002,BK678,BK679,BK685,BK691,BK698,HB⟩:=hcut
          cases kq with
          |zero=>exact absurd HA.out (by simp[laws_FnStockApart.j2])
          |succ kj65=>
           have H:=HA.out
           clear HA
           simp only[laws_FnStockApart.j2] at H
           replace H:=Option.bind_eq_some_iff.mp H
           obtain⟨⟨t702,t703,t706⟩,A850,H⟩:=H
           replace H:((impl_StockDo.f kj65 t669 t670 (rd y694 (ji63)) (1+((l1.length:Int)%6)) x699002_65).bind fun bt708=>(if(1+((l1.length:Int)%6))=t674 then(laws_FnStockApart.j3 kj65 true t673 t674 t675 t702 t703 bt708.1 bt708.2.1) else(if t706=true then(laws_FnStockApart.j3 kj65 (!bt708.2.2) t673 t674 t675 t702 t703 bt708.1 bt708.2.1) else(laws_FnStockApart.j3 kj65 true t673 t674 t675 t702 t703 bt708.1 bt708.2.1))))=some r:=H
           have A85:=Aside0.mk A850
           clear A850
           replace H:=Option.bind_eq_some_iff.mp H
           obtain⟨⟨t708,t709,t712⟩,A860,H⟩:=H
           replace H:(if(1+((l1.length:Int)%6))=t674 then(laws_FnStockApart.j3 kj65 true t673 t674 t675 t702 t703 t708 t709) else(if t706=true then(laws_FnStockApart.j3 kj65 (!t712) t673 t674 t675 t702 t703 t708 t709) else(laws_FnStockApart.j3 kj65 true t673 t674 t675 t702 t703 t708 t709)))=some r:=H
           have A86:=Aside0.mk A860
           clear A860
           have HC87:=Aside0.mk H
           clear H
           have hnb88:=NB691_678.out
           have hnc88:=NB678_691.out
           have hnb89:=NB691_679.out
           have hnc89:=NB679_691.out
           have hnb90:=NB691_685.out
           have hnc90:=NB685_691.out
           have hnb91:=NB691_698.out
           have hnc91:=NB698_691.out
           obtain⟨hcz92_0,hcz92_1,hfz92_0,hfz92_1⟩:=zC2 BK691
           have hnb93:=NB698_678.out
           have hnc93:=NB678_698.out
           have hnb94:=NB698_679.out
           have hnc94:=NB679_698.out
           have hnb95:=NB698_685.out
           have hnc95:=NB685_698.out
           obtain⟨hcz96_0,hcz96_1,hcz96_2,hfz96_0,hfz96_1,hfz96_2⟩:=zC3 BK698
           obtain⟨Ao97,co97,eo97⟩:=Kd.R_slice HO_699002.out
           subst eo97
           go_upto_region 14 with(first|((with_reducible refine qac (f:=24) rfl ?_);refine goesL_ (some 86) rfl rfl Try.func24 (by kernel_rfl) rfl #[.agg #[.int .i64 t686,.slice Ao32 t687.length co32],.agg #[.int .i64 (rd y694 (ji63)),.int .i64 (1+((l1.length:Int)%6)),.slice Ao97 x699002_65.length co97]] rfl (by(try simp only[List.map_toArray,List.map_cons,List.map_nil]);first|done|(simp only[hji63];rfl)|rfl|(simp only[List.length_drop,List.length_take];rfl)) ?_;(with_reducible refine(impl_StockDo.calls kj65 t686 _ _ t687 (rd y694 (ji63)) (1+((l1.length:Int)%6)) _ _ x699002_65 t702 t703 t706 _ ?side1 ?side2 ?side3 ?side4 A85.out).mono ?_);(case side1=>repeat(first|exact(Kd.Q_reads' HO_692001.out).2.2|(with_reducible refine Kd.C_alloc ?_ _)|(with_reducible refine Kd.C_drewN ?_ _)|(with_reducible refine Kd.C_drew ?_)));(case side2=>exact(Kd.Q_reads' HO_692001.out).2.1);(case side3=>repeat(first|exact(Kd.R_reads' HO_699002.out).2.2|(with_reducible refine Kd.C_alloc ?_ _)|(with_reducible refine Kd.C_drewN ?_ _)|(with_reducible refine Kd.C_drew ?_)));(case side4=>exact(Kd.R_reads' HO_699002.out).2.1);rintro e w98 ⟨v704,rfl,ho0,hb⟩;refine⟨_,rfl,?_⟩;replace HO_680002:=Aside0.mk (Kd.V_elder' (za42 HO_680002) (Kd.R_base ho0) hb);replace HO_699002:=Aside0.mk (Kd.R_below (za5 HO_699002) hb);have HO705:=Aside0.mk (Kd.R_lower (Kd.R_new' (Kd.R_new' (Kd.R_new' ho0 (Kd.Q_lt (za10 HO_679001))) (Kd.Q_lt (za10 HO_686001))) (Kd.Q_lt (za10 HO_692001))) (below_size (za52 HB GE678 GE679 GE685 GE691 GE698)));replace HO_679001:=Aside0.mk (Kd.Q_elder' (za10 HO_679001) (Kd.R_base ho0) hb);replace HO_686001:=Aside0.mk (Kd.Q_elder' (za10 HO_686001) (Kd.R_base ho0) hb);replace HO_692001:=Aside0.mk (Kd.Q_elder' (za10 HO_692001) (Kd.R_base ho0) hb);replace BK678:=Aside0.mk (qaa (zB BK678) hb);replace BK679:=Aside0.mk (qaa (zB BK679) hb);replace BK685:=Aside0.mk (qaa (zB BK685) hb);replace BK691:=Aside0.mk (qaa (zB BK691) hb);replace BK698:=Aside0.mk (qaa (zB BK698) hb);replace HB:=Aside0.mk (qab (za52 HB GE678 GE679 GE685 GE691 GE698) hb);(try clear hb);(try clear ho0))|((with_reducible refine qae (N:=13) rfl ?_);(try(refine gate_guard (by rfl) ?_;dsimp only));refine zX (N:=13) (cs:=#[.int .i64 0,.slice none 0 0]) (t:=38) ?_;intro gb707 hg w99 hbox hb;replace HO_679001:=Aside0.mk (Kd.Q_below (za10 HO_679001) hb);replace HO_680002:=Aside0.mk (Kd.V_below (Kd.V_elderB (za42 HO_680002) gb707 (Nat.le_of_eq hg.symm)) hb);replace HO_686001:=Aside0.mk (Kd.Q_below (za10 HO_686001) hb);replace HO_692001:=Aside0.mk (Kd.Q_below (za10 HO_692001) hb);replace HO_699002:=Aside0.mk (Kd.R_below (za5 HO_699002) hb);replace HO705:=Aside0.mk (Kd.R_below (za5 HO705) hb);have BK707:=Aside0.mk hbox;have GW707:=zH (w:=w) hg (za52 HB GE678 GE679 GE685 GE691 GE698);have GE707:=GW707;replace HB:=Aside0.mk (qab (za52 HB GE678 GE679 GE685 GE691 GE698) hb);have NB678_707:=zL BK678 hg;have NB707_678:=zG BK678 hg;replace BK678:=Aside0.mk (qaa (zB BK678) hb);have NB679_707:=zL BK679 hg;have NB707_679:=zG BK679 hg;replace BK679:=Aside0.mk (qaa (zB BK679) hb);have NB685_707:=zL BK685 hg;have NB707_685:=zG BK685 hg;replace BK685:=Aside0.mk (qaa (zB BK685) hb);have NB691_707:=zL BK691 hg;have NB707_691:=zG BK691 hg;replace BK691:=Aside0.mk (qaa (zB BK691) hb);have NB698_707:=zL BK698 hg;have NB707_698:=zG BK698 hg;replace BK698:=Aside0.mk (qaa (zB BK698) hb);clear hb hbox hg;have hnb100:=NB707_678.out;have hnc100:=NB678_707.out;have hnb101:=NB707_679.out;have hnc101:=NB679_707.out;have hnb102:=NB707_685.out;have hnc102:=NB685_707.out;have hnb103:=NB707_691.out;have hnc103:=NB691_707.out;have hnb104:=NB707_698.out;have hnc104:=NB698_707.out;obtain⟨hcz105_0,hcz105_1,hfz105_0,hfz105_1⟩:=zC2 BK707;obtain⟨Ao106,co106,eo106⟩:=Kd.R_slice HO705.out;subst eo106;have hnb107:=NB678_679.out;have hnc107:=NB679_678.out;have hnb108:=NB678_685.out;have hnc108:=NB685_678.out;obtain⟨hcz109_0,hcz109_1,hfz109_0,hfz109_1⟩:=zC2 BK678;obtain⟨hcz110_0,hcz110_1,hcz110_2,hfz110_0,hfz110_1,hfz110_2⟩:=zC3 BK698)|((with_reducible refine qac (f:=24) rfl ?_);refine goesL_ (some 92) rfl rfl Try.func24 (by kernel_rfl) rfl #[.agg #[.int .i64 t669,.slice Ao15 t670.length co15],.agg #[.int .i64 (rd y694 (ji63)),.int .i64 (1+((l1.length:Int)%6)),.slice Ao97 x699002_65.length co97]] rfl (by(try simp only[List.map_toArray,List.map_cons,List.map_nil]);first|done|(simp only[hji63];rfl)|rfl|(simp only[List.length_drop,List.length_take];rfl)) ?_;(with_reducible refine(impl_StockDo.calls kj65 t669 _ _ t670 (rd y694 (ji63)) (1+((l1.length:Int)%6)) _ _ x699002_65 t708 t709 t712 _ ?side1 ?side2 ?side3 ?side4 A86.out).mono ?_);(case side1=>refine(Kd.Q_reads' (e:=49) (base:=w.heap.size) (ok:=fun k_=>((some k_≠(.slice Ao23 t681.length co23:Value).ownBlock∧some k_≠(.slice Ao32 t687.length co32:Value).ownBlock)∧some k_≠(.slice Ao106 t703.length co106:Value).ownBlock)) (n:=t670.length) (c:=co15) ?_).2.2;exact(by(with_reducible repeat(first|apply Kd.Q_alloc|apply Kd.Q_drewN|apply Kd.Q_drew));exact(Kd.Q_mono (Kd.Q_far (p:=⟨gb707,1,none⟩) (Kd.Q_far (p:=⟨gb707,0,none⟩) (Kd.Q_types HO_679001.out BK707.out (by decide)) (fun _ hk=>hk.2) (.int .i64 t702)) (fun _ hk=>hk.2) (.slice Ao106 t703.length co106)) (fun _ h_=>h_.1))));(case side2=>exact(Kd.Q_reads' HO_679001.out).2.1);(case side3=>refine(Kd.R_reads' (e:=3) (base:=w.heap.size) (ok:=fun k_=>True) (n:=x699002_65.length) (c:=co97) ?_).2.2;exact(by(with_reducible repeat(first|apply Kd.R_alloc|apply Kd.R_drewN|apply Kd.R_drew));exact(Kd.R_mono (Kd.R_far (p:=⟨gb707,1,none⟩) (Kd.R_far (p:=⟨gb707,0,none⟩) (Kd.R_types HO_699002.out BK707.out (by decide)) (fun _ hk=>hk.2) (.int .i64 t702)) (fun _ hk=>hk.2) (.slice Ao106 t703.length co106)) (fun _ h_=>h_.1))));(case side4=>exact(Kd.R_reads' HO_699002.out).2.1);rintro e w111 ⟨v710,rfl,ho0,hb⟩;refine⟨_,rfl,?_⟩;replace HO_680002:=Aside0.mk (Kd.V_elder' (by(with_reducible repeat(first|apply Kd.V_alloc|apply Kd.V_drewN|apply Kd.V_drew));exact(Kd.V_mono (Kd.V_far (p:=⟨gb707,1,none⟩) (Kd.V_far (p:=⟨gb707,0,none⟩) (Kd.V_mono HO_680002.out (fun k_ hk=>(⟨hk,hk.2⟩:_∧k_≠gb707))) (fun _ hk=>hk.2) (.int .i64 t702)) (fun _ hk=>hk.2) (.slice Ao106 t703.length co106)) (fun _ h_=>h_.1))) (Kd.R_base ho0) hb);replace HO_699002:=Aside0.mk (Kd.R_below (by(with_reducible repeat(first|apply Kd.R_alloc|apply Kd.R_drewN|apply Kd.R_drew));exact(Kd.R_mono (Kd.R_far (p:=⟨gb707,1,none⟩) (Kd.R_far (p:=⟨gb707,0,none⟩) (Kd.R_types HO_699002.out BK707.out (by decide)) (fun _ hk=>hk.2) (.int .i64 t702)) (fun _ hk=>hk.2) (.slice Ao106 t703.length co106)) (fun _ h_=>h_.1))) hb);have HO711:=Aside0.mk (Kd.R_lower (Kd.R_new' (Kd.R_new' (Kd.R_new' (Kd.R_new' ho0 (Kd.Q_lt (by(with_reducible repeat(first|apply Kd.Q_alloc|apply Kd.Q_drewN|apply Kd.Q_drew));exact(Kd.Q_mono (Kd.Q_far (p:=⟨gb707,1,none⟩) (Kd.Q_far (p:=⟨gb707,0,none⟩) (Kd.Q_types HO_679001.out BK707.out (by decide)) (fun _ hk=>hk.2) (.int .i64 t702)) (fun _ hk=>hk.2) (.slice Ao106 t703.length co106)) (fun _ h_=>h_.1))))) (Kd.Q_lt (by(with_reducible repeat(first|apply Kd.Q_alloc|apply Kd.Q_drewN|apply Kd.Q_drew));exact(Kd.Q_mono (Kd.Q_far (p:=⟨gb707,1,none⟩) (Kd.Q_far (p:=⟨gb707,0,none⟩) (Kd.Q_types HO_686001.out BK707.out (by decide)) (fun _ hk=>hk.2) (.int .i64 t702)) (fun _ hk=>hk.2) (.slice Ao106 t703.length co106)) (fun _ h_=>h_.1))))) (Kd.Q_lt (by(with_reducible repeat(first|apply Kd.Q_alloc|apply Kd.Q_drewN|apply Kd.Q_drew));exact(Kd.Q_mono (Kd.Q_far (p:=⟨gb707,1,none⟩) (Kd.Q_far (p:=⟨gb707,0,none⟩) (Kd.Q_types HO_692001.out BK707.out (by decide)) (fun _ hk=>hk.2) (.int .i64 t702)) (fun _ hk=>hk.2) (.slice Ao106 t703.length co106)) (fun _ h_=>h_.1))))) (Kd.R_lt (by(with_reducible repeat(first|apply Kd.R_alloc|apply Kd.R_drewN|apply Kd.R_drew));exact(Kd.R_mono (Kd.R_far (p:=⟨gb707,1,none⟩) (Kd.R_far (p:=⟨gb707,0,none⟩) (Kd.R_types HO705.out BK707.out (by decide)) (fun _ hk=>hk.2) (.int .i64 t702)) (fun _ hk=>hk.2) (.slice Ao106 t703.length co106)) (fun _ h_=>h_.1))))) (below_size (za46 HB GE678 GE679 GE685 GE691 GE698 GE707)));replace HO_679001:=Aside0.mk (Kd.Q_elder' (by(with_reducible repeat(first|apply Kd.Q_alloc|apply Kd.Q_drewN|apply Kd.Q_drew));exact(Kd.Q_mono (Kd.Q_far (p:=⟨gb707,1,none⟩) (Kd.Q_far (p:=⟨gb707,0,none⟩) (Kd.Q_types HO_679001.out BK707.out (by decide)) (fun _ hk=>hk.2) (.int .i64 t702)) (fun _ hk=>hk.2) (.slice Ao106 t703.length co106)) (fun _ h_=>h_.1))) (Kd.R_base ho0) hb);replace HO_686001:=Aside0.mk (Kd.Q_elder' (by(with_reducible repeat(first|apply Kd.Q_alloc|apply Kd.Q_drewN|apply Kd.Q_drew));exact(Kd.Q_mono (Kd.Q_far (p:=⟨gb707,1,none⟩) (Kd.Q_far (p:=⟨gb707,0,none⟩) (Kd.Q_types HO_686001.out BK707.out (by decide)) (fun _ hk=>hk.2) (.int .i64 t702)) (fun _ hk=>hk.2) (.slice Ao106 t703.length co106)) (fun _ h_=>h_.1))) (Kd.R_base ho0) hb);replace HO_692001:=Aside0.mk (Kd.Q_elder' (by(with_reducible repeat(first|apply Kd.Q_alloc|apply Kd.Q_drewN|apply Kd.Q_drew));exact(Kd.Q_mono (Kd.Q_far (p:=⟨gb707,1,none⟩) (Kd.Q_far (p:=⟨gb707,0,none⟩) (Kd.Q_types HO_692001.out BK707.out (by decide)) (fun _ hk=>hk.2) (.int .i64 t702)) (fun _ hk=>hk.2) (.slice Ao106 t703.length co106)) (fun _ h_=>h_.1))) (Kd.R_base ho0) hb);replace HO705:=Aside0.mk (Kd.R_elder' (by(with_reducible repeat(first|apply Kd.R_alloc|apply Kd.R_drewN|apply Kd.R_drew));exact(Kd.R_mono (Kd.R_far (p:=⟨gb707,1,none⟩) (Kd.R_far (p:=⟨gb707,0,none⟩) (Kd.R_types HO705.out BK707.out (by decide)) (fun _ hk=>hk.2) (.int .i64 t702)) (fun _ hk=>hk.2) (.slice Ao106 t703.length co106)) (fun _ h_=>h_.1))) (Kd.R_base ho0) hb);replace BK678:=Aside0.mk (qaa (g:=gb678) (o:=.cells #[.int .i64 t669,.slice Ao15 t670.length co15] 38 (0,0)) (za0 NB678_707 BK678) hb);replace BK679:=Aside0.mk (qaa (g:=gb679) (o:=.cells #[.int .i64 t673,.int .i64 t674,.slice Ao17 t675.length co17] 32 (0,0)) (za0 NB679_707 BK679) hb);replace BK685:=Aside0.mk (qaa (g:=gb685) (o:=.cells #[.int .i64 t680,.slice Ao23 t681.length co23] 38 (0,0)) (za0 NB685_707 BK685) hb);replace BK691:=Aside0.mk (qaa (g:=gb691) (o:=.cells #[.int .i64 t686,.slice Ao32 t687.length co32] 38 (0,0)) (za0 NB691_707 BK691) hb);replace BK698:=Aside0.mk (qaa (g:=gb698) (o:=.cells #[.int .i64 (rd y694 (ji63)),.int .i64 (1+((l1.length:Int)%6)),.slice Ao97 x699002_65.length co97] 32 (0,0)) (za0 NB698_707 BK698) hb);replace BK707:=Aside0.mk (qaa (g:=gb707) (o:=.cells #[.int .i64 t702,.slice Ao106 t703.length co106] 38 (0,0)) (by(with_reducible repeat(first|refine blk_drewN ?_ _|refine blk_drew ?_|refine blk_alloc ?_ _));refine qad (cs:=#[.int .i64 t702,.slice none 0 0]) ?_ 1 _ rfl;(with_reducible repeat(first|refine blk_drewN ?_ _|refine blk_drew ?_|refine blk_alloc ?_ _));refine qad (cs:=#[.int .i64 0,.slice none 0 0]) ?_ 0 _ rfl;(with_reducible repeat(first|refine blk_drewN ?_ _|refine blk_drew ?_|refine blk_alloc ?_ _));exact BK707.out) hb);replace HB:=Aside0.mk (qab (za46 HB GE678 GE679 GE685 GE691 GE698 GE707) hb);(try clear hb);(try clear ho0))|((with_reducible refine qae (N:=15) rfl ?_);(try(refine gate_guard (by rfl) ?_;dsimp only));refine zX (N:=15) (cs:=#[.int .i64 0,.slice none 0 0]) (t:=38) ?_;intro gb713 hg w112 hbox hb;replace HO_679001:=Aside0.mk (Kd.Q_below (za10 HO_679001) hb);replace HO_680002:=Aside0.mk (Kd.V_below (Kd.V_elderB (za42 HO_680002) gb713 (Nat.le_of_eq hg.symm)) hb);replace HO_686001:=Aside0.mk (Kd.Q_below (za10 HO_686001) hb);replace HO_692001:=Aside0.mk (Kd.Q_below (za10 HO_692001) hb);replace HO_699002:=Aside0.mk (Kd.R_below (za5 HO_699002) hb);replace HO705:=Aside0.mk (Kd.R_below (za5 HO705) hb);replace HO711:=Aside0.mk (Kd.R_below (za5 HO711) hb);have BK713:=Aside0.mk hbox;have GW713:=zH (w:=w) hg (za46 HB GE678 GE679 GE685 GE691 GE698 GE707);have GE713:=GW713;replace HB:=Aside0.mk (qab (za46 HB GE678 GE679 GE685 GE691 GE698 GE707) hb);have NB678_713:=zL BK678 hg;have NB713_678:=zG BK678 hg;replace BK678:=Aside0.mk (qaa (zB BK678) hb);have NB679_713:=zL BK679 hg;have NB713_679:=zG BK679 hg;replace BK679:=Aside0.mk (qaa (zB BK679) hb);have NB685_713:=zL BK685 hg;have NB713_685:=zG BK685 hg;replace BK685:=Aside0.mk (qaa (zB BK685) hb);have NB691_713:=zL BK691 hg;have NB713_691:=zG BK691 hg;replace BK691:=Aside0.mk (qaa (zB BK691) hb);have NB698_713:=zL BK698 hg;have NB713_698:=zG BK698 hg;replace BK698:=Aside0.mk (qaa (zB BK698) hb);have NB707_713:=zL BK707 hg;have NB713_707:=zG BK707 hg;replace BK707:=Aside0.mk (qaa (zB BK707) hb);clear hb hbox hg;have hnb113:=NB713_678.out;have hnc113:=NB678_713.out;have hnb114:=NB713_679.out;have hnc114:=NB679_713.out;have hnb115:=NB713_685.out;have hnc115:=NB685_713.out;have hnb116:=NB713_691.out;have hnc116:=NB691_713.out;have hnb117:=NB713_698.out;have hnc117:=NB698_713.out;have hnb118:=NB713_707.out;have hnc118:=NB707_713.out;obtain⟨hcz119_0,hcz119_1,hfz119_0,hfz119_1⟩:=zC2 BK713;obtain⟨Ao120,co120,eo120⟩:=Kd.R_slice HO711.out;subst eo120))
           (try simp only[Act.put,List.setIfInBounds_toArray,List.set_cons_zero,List.set_cons_succ])
           go_cut [106] (fun v106 wc=>∃(kq:Nat) (x106_86:Bool),v106=.bool x106_86∧Aside0 (laws_FnStockApart.j3 kq x106_86 t673 t674 t675 t702 t703 t708 t709=some r)∧Aside0 (kq≤kj65)∧Aside0 (Kd.Q k49 49 wc w.heap.size (fun k_=>some k_≠((.slice Ao23 t681.length co23):Value).ownBlock∧some k_≠((.slice Ao32 t687.length co32):Value).ownBlock∧some k_≠((.slice Ao106 t703.length co106):Value).ownBlock∧some k_≠((.slice Ao120 t709.length co120):Value).ownBlock) (.slice Ao15 t670.length co15) t670)∧Aside0 (Kd.V (Kd.int .i64) 3 wc w.heap.size (fun k_=>some k_≠((.slice Ao15 t670.length co15):Value).ownBlock∧some k_≠((.slice Ao23 t681.length co23):Value).ownBlock∧some k_≠((.slice Ao32 t687.length co32):Value).ownBlock∧some k_≠((.slice Ao97 x699002_65.length co97):Value).ownBlock∧some k_≠((.slice Ao106 t703.length co106):Value).ownBlock∧some k_≠((.slice Ao120 t709.length co120):Value).ownBlock∧k_≠gb678∧k_≠gb679∧k_≠gb685∧k_≠gb691∧k_≠gb698∧k_≠gb707∧k_≠gb713) (.slice Ao17 t675.length co17) t675)∧Aside0 (Kd.Q k49 49 wc w.heap.size (fun k_=>some k_≠((.slice Ao15 t670.length co15):Value).ownBlock∧some k_≠((.slice Ao32 t687.length co32):Value).ownBlock∧some k_≠((.slice Ao106 t703.length co106):Value).ownBlock∧some k_≠((.slice Ao120 t709.length co120):Value).ownBlock) (.slice Ao23 t681.length co23) t681)∧Aside0 (Kd.Q k49 49 wc w.heap.size (fun k_=>some k_≠((.slice Ao15 t670.length co15):Value).ownBlock∧some k_≠((.slice Ao23 t681.length co23):Value).ownBlock∧some k_≠((.slice Ao106 t703.length co106):Value).ownBlock∧some k_≠((.slice Ao120 t709.length co120):Value).ownBlock) (.slice Ao32 t687.length co32) t687)∧Aside0 (Kd.R (Kd.int .i64) 3 wc w.heap.size (fun _=>True) (.slice Ao97 x699002_65.length co97) x699002_65)∧Aside0 (Kd.Q k49 49 wc w.heap.size (fun k_=>some k_≠((.slice Ao15 t670.length co15):Value).ownBlock∧some k_≠((.slice Ao23 t681.length co23):Value).ownBlock∧some k_≠((.slice Ao32 t687.length co32):Value).ownBlock∧some k_≠((.slice Ao120 t709.length co120):Value).ownBlock) (.slice Ao106 t703.length co106) t703)∧Aside0 (Kd.Q k49 49 wc w.heap.size (fun k_=>some k_≠((.slice Ao15 t670.length co15):Value).ownBlock∧some k_≠((.slice Ao23 t681.length co23):Value).ownBlock∧some k_≠((.slice Ao32 t687.length co32):Value).ownBlock∧some k_≠((.slice Ao106 t703.length co106):Value).ownBlock) (.slice Ao120 t709.length co120) t709)∧Aside0 (wc.heap[gb678]?=some (.cells #[.int .i64 t669,(.slice Ao15 t670.length co15)] 38 (0,0)))∧Aside0 (wc.heap[gb679]?=some (.cells #[.int .i64 t673,.int .i64 t674,(.slice Ao17 t675.length co17)] 32 (0,0)))∧Aside0 (wc.heap[gb685]?=some (.cells #[.int .i64 t680,(.slice Ao23 t681.length co23)] 38 (0,0)))∧Aside0 (wc.heap[gb691]?=some (.cells #[.int .i64 t686,(.slice Ao32 t687.length co32)] 38 (0,0)))∧Aside0 (wc.heap[gb698]?=some (.cells #[.int .i64 (rd y694 (ji63)),.int .i64 (1+((l1.length:Int)%6)),(.slice Ao97 x699002_65.length co97)] 32 (0,0)))∧Aside0 (wc.heap[gb707]?=some (.cells #[.int .i64 t702,(.slice Ao106 t703.length co106)] 38 (0,0)))∧Aside0 (wc.heap[gb713]?=some (.cells #[.int .i64 t708,(.slice Ao120 t709.length co120)] 38 (0,0)))∧Aside0 (Below w.heap.size w wc))
           case first=>
            have H:=HC87.out
            clear HC87
            by_cases c121:(1+((l1.length:Int)%6))=t674
            ·rw[if_pos c121] at H
             have c121b0:((1+((l1.length:Int)%6)) == t674)=true:=beq_iff_eq.mpr c121
             have c121b1:((1+((l1.length:Int)%6)) != t674)=false:=bne_eq_false_iff_eq.mpr c121
             clear c121
             (first|rw[c121b0]|(simp only[qaf,qag];rw[c121b0])|skip)
             have H':=Aside0.mk H
             clear H
             have hnb122:=NB679_678.out
             have hnc122:=NB678_679.out
             have hnb123:=NB679_685.out
             have hnc123:=NB685_679.out
             have hnb124:=NB679_691.out
             have hnc124:=NB691_679.out
             have hnb125:=NB679_698.out
             have hnc125:=NB698_679.out
             have hnb126:=NB679_707.out
             have hnc126:=NB707_679.out
             have hnb127:=NB679_713.out
             have hnc127:=NB713_679.out
             obtain⟨hcz128_0,hcz128_1,hcz128_2,hfz128_0,hfz128_1,hfz128_2⟩:=zC3 BK679
             go_wp2
             go_meet
             case rel=>exact⟨_,(true),(za43),H',⟨by have:=HJ2.out;have:=HJ8.out;have:=HJ65.out;first|omega|exact Nat.le_refl _⟩,⟨by(with_reducible repeat(first|apply Kd.Q_alloc|apply Kd.Q_drewN|apply Kd.Q_drew));exact Kd.Q_mono (Kd.Q_far (p:=⟨gb713,1,none⟩) (Kd.Q_far (p:=⟨gb713,0,none⟩) (Kd.Q_types HO_679001.out BK713.out (by decide)) (fun _ hk=>hk.2) (.int .i64 t708)) (fun _ hk=>hk.2) (.slice Ao120 t709.length co120)) (fun _ hk=>⟨hk.1.1.1.1,⟨hk.1.1.1.2,⟨hk.1.1.2,hk.1.2⟩⟩⟩)⟩,⟨by(with_reducible repeat(first|apply Kd.V_alloc|apply Kd.V_drewN|apply Kd.V_drew));exact Kd.V_mono (Kd.V_far (p:=⟨gb713,1,none⟩) (Kd.V_far (p:=⟨gb713,0,none⟩) (Kd.V_mono HO_680002.out (fun k_ hk=>(⟨hk,hk.2⟩:_∧k_≠gb713))) (fun _ hk=>hk.2) (.int .i64 t708)) (fun _ hk=>hk.2) (.slice Ao120 t709.length co120)) (fun _ hk=>⟨hk.1.1.1.1.1.1,⟨hk.1.1.1.1.1.2.1,⟨hk.1.1.1.1.1.2.2.1,⟨hk.1.1.1.1.1.2.2.2.1,⟨hk.1.1.1.1.2,⟨hk.1.1.2,⟨hk.1.1.1.1.1.2.2.2.2.1,⟨hk.1.1.1.1.1.2.2.2.2.2.1,⟨hk.1.1.1.1.1.2.2.2.2.2.2.1,⟨hk.1.1.1.1.1.2.2.2.2.2.2.2.1,⟨hk.1.1.1.1.1.2.2.2.2.2.2.2.2,⟨hk.1.1.1.2,hk.1.2⟩⟩⟩⟩⟩⟩⟩⟩⟩⟩⟩⟩)⟩,⟨by(with_reducible repeat(first|apply Kd.Q_alloc|apply Kd.Q_drewN|apply Kd.Q_drew));exact Kd.Q_mono (Kd.Q_far (p:=⟨gb713,1,none⟩) (Kd.Q_far (p:=⟨gb713,0,none⟩) (Kd.Q_types HO_686001.out BK713.out (by decide)) (fun _ hk=>hk.2) (.int .i64 t708)) (fun _ hk=>hk.2) (.slice Ao120 t709.length co120)) (fun _ hk=>⟨hk.1.1.1.1,⟨hk.1.1.1.2,⟨hk.1.1.2,hk.1.2⟩⟩⟩)⟩,⟨by(with_reducible repeat(first|apply Kd.Q_alloc|apply Kd.Q_drewN|apply Kd.Q_drew));exact Kd.Q_mono (Kd.Q_far (p:=⟨gb713,1,none⟩) (Kd.Q_far (p:=⟨gb713,0,none⟩) (Kd.Q_types HO_692001.out BK713.out (by decide)) (fun _ hk=>hk.2) (.int .i64 t708)) (fun _ hk=>hk.2) (.slice Ao120 t709.length co120)) (fun _ hk=>⟨hk.1.1.1.1,⟨hk.1.1.1.2,⟨hk.1.1.2,hk.1.2⟩⟩⟩)⟩,⟨by(with_reducible repeat(first|apply Kd.R_alloc|apply Kd.R_drewN|apply Kd.R_drew));exact Kd.R_mono (Kd.R_far (p:=⟨gb713,1,none⟩) (Kd.R_far (p:=⟨gb713,0,none⟩) (Kd.R_types HO_699002.out BK713.out (by decide)) (fun _ hk=>hk.2) (.int .i64 t708)) (fun _ hk=>hk.2) (.slice Ao120 t709.length co120)) (fun _ hk=>trivial)⟩,⟨Kd.Q_of_R (by(with_reducible repeat(first|apply Kd.R_alloc|apply Kd.R_drewN|apply Kd.R_drew));exact Kd.R_mono (Kd.R_far (p:=⟨gb713,1,none⟩) (Kd.R_far (p:=⟨gb713,0,none⟩) (Kd.R_types HO705.out BK713.out (by decide)) (fun _ hk=>hk.2) (.int .i64 t708)) (fun _ hk=>hk.2) (.slice Ao120 t709.length co120)) (fun _ hk=>⟨hk.1.1.1.1.2,⟨hk.1.1.1.2,⟨hk.1.1.2,hk.1.2⟩⟩⟩))⟩,⟨Kd.Q_of_R (by(with_reducible repeat(first|apply Kd.R_alloc|apply Kd.R_drewN|apply Kd.R_drew));exact Kd.R_mono (Kd.R_far (p:=⟨gb713,1,none⟩) (Kd.R_far (p:=⟨gb713,0,none⟩) (Kd.R_types HO711.out BK713.out (by decide)) (fun _ hk=>hk.2) (.int .i64 t708)) (fun _ hk=>hk.2) (.slice Ao120 t709.length co120)) (fun _ hk=>⟨hk.1.1.1.1.2,⟨hk.1.1.1.2,⟨hk.1.1.2,hk.1.2⟩⟩⟩))⟩,⟨za0 NB678_713 BK678⟩,⟨za0 NB679_713 BK679⟩,⟨za0 NB685_713 BK685⟩,⟨za0 NB691_713 BK691⟩,⟨za0 NB698_713 BK698⟩,⟨za0 NB707_713 BK707⟩,⟨by(with_reducible repeat(first|refine blk_drewN ?_ _|refine blk_drew ?_|refine blk_alloc ?_ _));refine qad (cs:=#[.int .i64 t708,.slice none 0 0]) ?_ 1 _ rfl;(with_reducible repeat(first|refine blk_drewN ?_ _|refine blk_drew ?_|refine blk_alloc ?_ _));refine qad (cs:=#[.int .i64 0,.slice none 0 0]) ?_ 0 _ rfl;(with_reducible repeat(first|refine blk_drewN ?_ _|refine blk_drew ?_|refine blk_alloc ?_ _));exact BK713.out⟩,⟨za51 HB GE678 GE679 GE685 GE691 GE698 GE707 GE713⟩⟩
            ·rw[if_neg c121] at H
             have c121b0:((1+((l1.length:Int)%6)) == t674)=false:=beq_eq_false_iff_ne.mpr c121
             have c121b1:((1+((l1.length:Int)%6)) != t674)=true:=bne_iff_ne.mpr c121
             (first|rw[c121b0]|(simp only[qaf,qag];rw[c121b0])|skip)
             by_cases c129:t706=true
             ·subst c129
              have H1:(laws_FnStockApart.j3 kj65 (!t712) t673 t674 t675 t702 t703 t708 t709)=some r:=by rw[if_pos rfl] at H;exact H
              clear H
              have H:=H1
              clear H1
              have H':=Aside0.mk H
              clear H
              have hnb130:=NB679_678.out
              have hnc130:=NB678_679.out
              have hnb131:=NB679_685.out
              have hnc131:=NB685_679.out
              have hnb132:=NB679_691.out
              have hnc132:=NB691_679.out
              have hnb133:=NB679_698.out
              have hnc133:=NB698_679.out
              have hnb134:=NB679_707.out
              have hnc134:=NB707_679.out
              have hnb135:=NB679_713.out
              have hnc135:=NB713_679.out
              obtain⟨hcz136_0,hcz136_1,hcz136_2,hfz136_0,hfz136_1,hfz136_2⟩:=zC3 BK679
              go_wp2
              go_meet
              case rel=>exact⟨_,(!t712),(za43),H',⟨by have:=HJ2.out;have:=HJ8.out;have:=HJ65.out;first|omega|exact Nat.le_refl _⟩,⟨by(with_reducible repeat(first|apply Kd.Q_alloc|apply Kd.Q_drewN|apply Kd.Q_drew));exact Kd.Q_mono (Kd.Q_far (p:=⟨gb713,1,none⟩) (Kd.Q_far (p:=⟨gb713,0,none⟩) (Kd.Q_types HO_679001.out BK713.out (by decide)) (fun _ hk=>hk.2) (.int .i64 t708)) (fun _ hk=>hk.2) (.slice Ao120 t709.length co120)) (fun _ hk=>⟨hk.1.1.1.1,⟨hk.1.1.1.2,⟨hk.1.1.2,hk.1.2⟩⟩⟩)⟩,⟨by(with_reducible repeat(first|apply Kd.V_alloc|apply Kd.V_drewN|apply Kd.V_drew));exact Kd.V_mono (Kd.V_far (p:=⟨gb713,1,none⟩) (Kd.V_far (p:=⟨gb713,0,none⟩) (Kd.V_mono HO_680002.out (fun k_ hk=>(⟨hk,hk.2⟩:_∧k_≠gb713))) (fun _ hk=>hk.2) (.int .i64 t708)) (fun _ hk=>hk.2) (.slice Ao120 t709.length co120)) (fun _ hk=>⟨hk.1.1.1.1.1.1,⟨hk.1.1.1.1.1.2.1,⟨hk.1.1.1.1.1.2.2.1,⟨hk.1.1.1.1.1.2.2.2.1,⟨hk.1.1.1.1.2,⟨hk.1.1.2,⟨hk.1.1.1.1.1.2.2.2.2.1,⟨hk.1.1.1.1.1.2.2.2.2.2.1,⟨hk.1.1.1.1.1.2.2.2.2.2.2.1,⟨hk.1.1.1.1.1.2.2.2.2.2.2.2.1,⟨hk.1.1.1.1.1.2.2.2.2.2.2.2.2,⟨hk.1.1.1.2,hk.1.2⟩⟩⟩⟩⟩⟩⟩⟩⟩⟩⟩⟩)⟩,⟨by(with_reducible repeat(first|apply Kd.Q_alloc|apply Kd.Q_drewN|apply Kd.Q_drew));exact Kd.Q_mono (Kd.Q_far (p:=⟨gb713,1,none⟩) (Kd.Q_far (p:=⟨gb713,0,none⟩) (Kd.Q_types HO_686001.out BK713.out (by decide)) (fun _ hk=>hk.2) (.int .i64 t708)) (fun _ hk=>hk.2) (.slice Ao120 t709.length co120)) (fun _ hk=>⟨hk.1.1.1.1,⟨hk.1.1.1.2,⟨hk.1.1.2,hk.1.2⟩⟩⟩)⟩,⟨by(with_reducible repeat(first|apply Kd.Q_alloc|apply Kd.Q_drewN|apply Kd.Q_drew));exact Kd.Q_mono (Kd.Q_far (p:=⟨gb713,1,none⟩) (Kd.Q_far (p:=⟨gb713,0,none⟩) (Kd.Q_types HO_692001.out BK713.out (by decide)) (fun _ hk=>hk.2) (.int .i64 t708)) (fun _ hk=>hk.2) (.slice Ao120 t709.length co120)) (fun _ hk=>⟨hk.1.1.1.1,⟨hk.1.1.1.2,⟨hk.1.1.2,hk.1.2⟩⟩⟩)⟩,⟨by(with_reducible repeat(first|apply Kd.R_alloc|apply Kd.R_drewN|apply Kd.R_drew));exact Kd.R_mono (Kd.R_far (p:=⟨gb713,1,none⟩) (Kd.R_far (p:=⟨gb713,0,none⟩) (Kd.R_types HO_699002.out BK713.out (by decide)) (fun _ hk=>hk.2) (.int .i64 t708)) (fun _ hk=>hk.2) (.slice Ao120 t709.length co120)) (fun _ hk=>trivial)⟩,⟨Kd.Q_of_R (by(with_reducible repeat(first|apply Kd.R_alloc|apply Kd.R_drewN|apply Kd.R_drew));exact Kd.R_mono (Kd.R_far (p:=⟨gb713,1,none⟩) (Kd.R_far (p:=⟨gb713,0,none⟩) (Kd.R_types HO705.out BK713.out (by decide)) (fun _ hk=>hk.2) (.int .i64 t708)) (fun _ hk=>hk.2) (.slice Ao120 t709.length co120)) (fun _ hk=>⟨hk.1.1.1.1.2,⟨hk.1.1.1.2,⟨hk.1.1.2,hk.1.2⟩⟩⟩))⟩,⟨Kd.Q_of_R (by(with_reducible repeat(first|apply Kd.R_alloc|apply Kd.R_drewN|apply Kd.R_drew));exact Kd.R_mono (Kd.R_far (p:=⟨gb713,1,none⟩) (Kd.R_far (p:=⟨gb713,0,none⟩) (Kd.R_types HO711.out BK713.out (by decide)) (fun _ hk=>hk.2) (.int .i64 t708)) (fun _ hk=>hk.2) (.slice Ao120 t709.length co120)) (fun _ hk=>⟨hk.1.1.1.1.2,⟨hk.1.1.1.2,⟨hk.1.1.2,hk.1.2⟩⟩⟩))⟩,⟨za0 NB678_713 BK678⟩,⟨za0 NB679_713 BK679⟩,⟨za0 NB685_713 BK685⟩,⟨za0 NB691_713 BK691⟩,⟨za0 NB698_713 BK698⟩,⟨za0 NB707_713 BK707⟩,⟨by(with_reducible repeat(first|refine blk_drewN ?_ _|refine blk_drew ?_|refine blk_alloc ?_ _));refine qad (cs:=#[.int .i64 t708,.slice none 0 0]) ?_ 1 _ rfl;(with_reducible repeat(first|refine blk_drewN ?_ _|refine blk_drew ?_|refine blk_alloc ?_ _));refine qad (cs:=#[.int .i64 0,.slice none 0 0]) ?_ 0 _ rfl;(with_reducible repeat(first|refine blk_drewN ?_ _|refine blk_drew ?_|refine blk_alloc ?_ _));exact BK713.out⟩,⟨za51 HB GE678 GE679 GE685 GE691 GE698 GE707 GE713⟩⟩
             ·replace c129:=Bool.eq_false_iff.mpr c129
              subst c129
              have H1:(laws_FnStockApart.j3 kj65 true t673 t674 t675 t702 t703 t708 t709)=some r:=by rw[if_neg (show ¬(false=true) by decide)] at H;exact H
              clear H
              have H:=H1
              clear H1
              have H':=Aside0.mk H
              clear H
              have hnb137:=NB679_678.out
              have hnc137:=NB678_679.out
              have hnb138:=NB679_685.out
              have hnc138:=NB685_679.out
              have hnb139:=NB679_691.out
              have hnc139:=NB691_679.out
              have hnb140:=NB679_698.out
              have hnc140:=NB698_679.out
              have hnb141:=NB679_707.out
              have hnc141:=NB707_679.out
              have hnb142:=NB679_713.out
              have hnc142:=NB713_679.out
              obtain⟨hcz143_0,hcz143_1,hcz143_2,hfz143_0,hfz143_1,hfz143_2⟩:=zC3 BK679
              go_wp2
              go_meet
              case rel=>exact⟨_,(true),(za43),H',⟨by have:=HJ2.out;have:=HJ8.out;have:=HJ65.out;first|omega|exact Nat.le_refl _⟩,⟨by(with_reducible repeat(first|apply Kd.Q_alloc|apply Kd.Q_drewN|apply Kd.Q_drew));exact Kd.Q_mono (Kd.Q_far (p:=⟨gb713,1,none⟩) (Kd.Q_far (p:=⟨gb713,0,none⟩) (Kd.Q_types HO_679001.out BK713.out (by decide)) (fun _ hk=>hk.2) (.int .i64 t708)) (fun _ hk=>hk.2) (.slice Ao120 t709.length co120)) (fun _ hk=>⟨hk.1.1.1.1,⟨hk.1.1.1.2,⟨hk.1.1.2,hk.1.2⟩⟩⟩)⟩,⟨by(with_reducible repeat(first|apply Kd.V_alloc|apply Kd.V_drewN|apply Kd.V_drew));exact Kd.V_mono (Kd.V_far (p:=⟨gb713,1,none⟩) (Kd.V_far (p:=⟨gb713,0,none⟩) (Kd.V_mono HO_680002.out (fun k_ hk=>(⟨hk,hk.2⟩:_∧k_≠gb713))) (fun _ hk=>hk.2) (.int .i64 t708)) (fun _ hk=>hk.2) (.slice Ao120 t709.length co120)) (fun _ hk=>⟨hk.1.1.1.1.1.1,⟨hk.1.1.1.1.1.2.1,⟨hk.1.1.1.1.1.2.2.1,⟨hk.1.1.1.1.1.2.2.2.1,⟨hk.1.1.1.1.2,⟨hk.1.1.2,⟨hk.1.1.1.1.1.2.2.2.2.1,⟨hk.1.1.1.1.1.2.2.2.2.2.1,⟨hk.1.1.1.1.1.2.2.2.2.2.2.1,⟨hk.1.1.1.1.1.2.2.2.2.2.2.2.1,⟨hk.1.1.1.1.1.2.2.2.2.2.2.2.2,⟨hk.1.1.1.2,hk.1.2⟩⟩⟩⟩⟩⟩⟩⟩⟩⟩⟩⟩)⟩,⟨by(with_reducible repeat(first|apply Kd.Q_alloc|apply Kd.Q_drewN|apply Kd.Q_drew));exact Kd.Q_mono (Kd.Q_far (p:=⟨gb713,1,none⟩) (Kd.Q_far (p:=⟨gb713,0,none⟩) (Kd.Q_types HO_686001.out BK713.out (by decide)) (fun _ hk=>hk.2) (.int .i64 t708)) (fun _ hk=>hk.2) (.slice Ao120 t709.length co120)) (fun _ hk=>⟨hk.1.1.1.1,⟨hk.1.1.1.2,⟨hk.1.1.2,hk.1.2⟩⟩⟩)⟩,⟨by(with_reducible repeat(first|apply Kd.Q_alloc|apply Kd.Q_drewN|apply Kd.Q_drew));exact Kd.Q_mono (Kd.Q_far (p:=⟨gb713,1,none⟩) (Kd.Q_far (p:=⟨gb713,0,none⟩) (Kd.Q_types HO_692001.out BK713.out (by decide)) (fun _ hk=>hk.2) (.int .i64 t708)) (fun _ hk=>hk.2) (.slice Ao120 t709.length co120)) (fun _ hk=>⟨hk.1.1.1.1,⟨hk.1.1.1.2,⟨hk.1.1.2,hk.1.2⟩⟩⟩)⟩,⟨by(with_reducible repeat(first|apply Kd.R_alloc|apply Kd.R_drewN|apply Kd.R_drew));exact Kd.R_mono (Kd.R_far (p:=⟨gb713,1,none⟩) (Kd.R_far (p:=⟨gb713,0,none⟩) (Kd.R_types HO_699002.out BK713.out (by decide)) (fun _ hk=>hk.2) (.int .i64 t708)) (fun _ hk=>hk.2) (.slice Ao120 t709.length co120)) (fun _ hk=>trivial)⟩,⟨Kd.Q_of_R (by(with_reducible repeat(first|apply Kd.R_alloc|apply Kd.R_drewN|apply Kd.R_drew));exact Kd.R_mono (Kd.R_far (p:=⟨gb713,1,none⟩) (Kd.R_far (p:=⟨gb713,0,none⟩) (Kd.R_types HO705.out BK713.out (by decide)) (fun _ hk=>hk.2) (.int .i64 t708)) (fun _ hk=>hk.2) (.slice Ao120 t709.length co120)) (fun _ hk=>⟨hk.1.1.1.1.2,⟨hk.1.1.1.2,⟨hk.1.1.2,hk.1.2⟩⟩⟩))⟩,⟨Kd.Q_of_R (by(with_reducible repeat(first|apply Kd.R_alloc|apply Kd.R_drewN|apply Kd.R_drew));exact Kd.R_mono (Kd.R_far (p:=⟨gb713,1,none⟩) (Kd.R_far (p:=⟨gb713,0,none⟩) (Kd.R_types HO711.out BK713.out (by decide)) (fun _ hk=>hk.2) (.int .i64 t708)) (fun _ hk=>hk.2) (.slice Ao120 t709.length co120)) (fun _ hk=>⟨hk.1.1.1.1.2,⟨hk.1.1.1.2,⟨hk.1.1.2,hk.1.2⟩⟩⟩))⟩,⟨za0 NB678_713 BK678⟩,⟨za0 NB679_713 BK679⟩,⟨za0 NB685_713 BK685⟩,⟨za0 NB691_713 BK691⟩,⟨za0 NB698_713 BK698⟩,⟨za0 NB707_713 BK707⟩,⟨by(with_reducible repeat(first|refine blk_drewN ?_ _|refine blk_drew ?_|refine blk_alloc ?_ _));refine qad (cs:=#[.int .i64 t708,.slice none 0 0]) ?_ 1 _ rfl;(with_reducible repeat(first|refine blk_drewN ?_ _|refine blk_drew ?_|refine blk_alloc ?_ _));refine qad (cs:=#[.int .i64 0,.slice none 0 0]) ?_ 0 _ rfl;(with_reducible repeat(first|refine blk_drewN ?_ _|refine blk_drew ?_|refine blk_alloc ?_ _));exact BK713.out⟩,⟨za51 HB GE678 GE679 GE685 GE691 GE698 GE707 GE713⟩⟩
           case rest=>
            clear HC87
            try clear c1
            try clear c2
            try clear p2
            try clear c3
            try clear c4
            try clear c4b0
            try clear c4b1
            try clear c5
            try clear c6
            try clear p6
            try clear q6
            try clear hx6
            try clear c7
            try clear c8
            try clear c9
            try clear c10
            try clear c11
            try clear c12
            try clear c13
            try clear c14
            try clear c20
            try clear c21
            try clear c24
            try clear c26
            try clear c27
            try clear c28
            try clear c29
            try clear c30
            try clear c33
            try clear c33b0
            try clear c33b1
            try clear c33b2
            try clear c35
            try clear c36
            try clear c37
            try clear c38
            try clear c40
            try clear c41
            try clear c44
            try clear c45
            try clear c46
            try clear c48
            try clear c49
            try clear c52
            try clear c53
            try clear c53b0
            try clear c53b1
            try clear c53b2
            try clear c55
            try clear c56
            try clear c57
            try clear c59
            try clear c60
            try clear c64
            try clear c64b0
            try clear p64
            try clear c65
            try clear c65b0
            try clear p69
            try clear q69
            try clear hx69
            try clear c71
            try clear c72
            try clear c73
            try clear c74
            try clear c76
            try clear c76b0
            try clear c76b1
            try clear c80
            try clear c81
            try clear c82
            try clear c83
            try clear c88
            try clear c89
            try clear c90
            try clear c91
            try clear c93
            try clear c94
            try clear c95
            try clear c100
            try clear c101
            try clear c102
            try clear c103
            try clear c104
            try clear c107
            try clear c108
            try clear c113
            try clear c114
            try clear c115
            try clear c116
            try clear c117
            try clear c118
            try clear c121
            try clear c121b0
            try clear c121b1
            try clear c122
            try clear c123
            try clear c124
            try clear c125
            try clear c126
            try clear c127
            try clear c129
            try clear c130
            try clear c131
            try clear c132
            try clear c133
            try clear c134
            try clear c135
            try clear c137
            try clear c138
            try clear c139
            try clear c140
            try clear c141
            try clear c142
            try clear hcz105_0
            try clear hcz105_1
            try clear hcz109_0
            try clear hcz109_1
            try clear hcz110_0
            try clear hcz110_1
            try clear hcz110_2
            try clear hcz119_0
            try clear hcz119_1
            try clear hcz128_0
            try clear hcz128_1
            try clear hcz128_2
            try clear hcz136_0
            try clear hcz136_1
            try clear hcz136_2
            try clear hcz143_0
            try clear hcz143_1
            try clear hcz143_2
            try clear hcz14_0
            try clear hcz14_1
            try clear hcz16_0
            try clear hcz16_1
            try clear hcz16_2
            try clear hcz22_0
            try clear hcz22_1
            try clear hcz24_0
            try clear hcz24_1
            try clear hcz25_0
            try clear hcz25_1
            try clear hcz25_2
            try clear hcz31_0
            try clear hcz31_1
            try clear hcz39_0
            try clear hcz39_1
            try clear hcz42_0
            try clear hcz42_1
            try clear hcz47_0
            try clear hcz47_1
            try clear hcz50_0
            try clear hcz50_1
            try clear hcz58_0
            try clear hcz58_1
            try clear hcz61_0
            try clear hcz61_1
            try clear hcz75_0
            try clear hcz75_1
            try clear hcz75_2
            try clear hcz84_0
            try clear hcz84_1
            try clear hcz84_2
            try clear hcz92_0
            try clear hcz92_1
            try clear hcz96_0
            try clear hcz96_1
            try clear hcz96_2
            try clear hfz105_0
            try clear hfz105_1
            try clear hfz109_0
            try clear hfz109_1
            try clear hfz110_0
            try clear hfz110_1
            try clear hfz110_2
            try clear hfz119_0
            try clear hfz119_1
            try clear hfz128_0
            try clear hfz128_1
            try clear hfz128_2
            try clear hfz136_0
            try clear hfz136_1
            try clear hfz136_2
            try clear hfz143_0
            try clear hfz143_1
            try clear hfz143_2
            try clear hfz14_0
            try clear hfz14_1
            try clear hfz16_0
            try clear hfz16_1
            try clear hfz16_2
            try clear hfz22_0
            try clear hfz22_1
            try clear hfz24_0
            try clear hfz24_1
            try clear hfz25_0
            try clear hfz25_1
            try clear hfz25_2
            try clear hfz31_0
            try clear hfz31_1
            try clear hfz39_0
            try clear hfz39_1
            try clear hfz42_0
            try clear hfz42_1
            try clear hfz47_0
            try clear hfz47_1
            try clear hfz50_0
            try clear hfz50_1
            try clear hfz58_0
            try clear hfz58_1
            try clear hfz61_0
            try clear hfz61_1
            try clear hfz75_0
            try clear hfz75_1
            try clear hfz75_2
            try clear hfz84_0
            try clear hfz84_1
            try clear hfz84_2
            try clear hfz92_0
            try clear hfz92_1
            try clear hfz96_0
            try clear hfz96_1
            try clear hfz96_2
            try clear hx697_0
            try clear p2
            try clear p6
            try clear p64
            try clear p69
            try clear p697
            try clear q6
            try clear q69
            try clear q697
            obtain⟨kq,x106_86,rfl,HA,HJ86,HO_679001,HO_680002,HO_686001,HO_692001,HO_699002,HO_708001,HO_714001,BK678,BK679,BK685,BK691,BK698,BK707,BK713,HB⟩:=hcut
            cases kq with
            |zero=>exact absurd HA.out (by simp[laws_FnStockApart.j3])
            |succ kj86=>
             have H:=HA.out
             clear HA
             simp only[laws_FnStockApart.j3] at H
             by_cases c144:x106_86=true
             ·subst c144
              have H1:(some true)=some r:=by rw[if_pos rfl] at H;exact H
              clear H
              have H:=H1
              clear H1
              obtain rfl:=Option.some.inj H
              go_wp2
              go_ret
              exact⟨by first|rfl|(simp[qal,qam]<;>rfl)|(simp only[←hji63];first|rfl|(simp[qal,qam]<;>rfl))|(simp[*,qal,qam]<;>rfl),za51 HB GE678 GE679 GE685 GE691 GE698 GE707 GE713⟩
             ·replace c144:=Bool.eq_false_iff.mpr c144
              subst c144
              have H1:((impl_StockDo.f kj86 t708 t709 t673 t674 t675).bind fun bt714=>(if bt714.2.2=true then((laws_lnStock.f kj86 t702 t703 bt714.1 bt714.2.1).bind fun t720=>(some t720)) else(some false)))=some r:=by rw[if_neg (show ¬(false=true) by decide)] at H;exact H
              clear H
              have H:=H1
              clear H1
              replace H:=Option.bind_eq_some_iff.mp H
              obtain⟨⟨t714,t715,t718⟩,A1450,H⟩:=H
              replace H:(if t718=true then((laws_lnStock.f kj86 t702 t703 t714 t715).bind fun t720=>(some t720)) else(some false))=some r:=H
              have A145:=Aside0.mk A1450
              clear A1450
              by_cases c146:t718=true
              ·subst c146
               have H1:((laws_lnStock.f kj86 t702 t703 t714 t715).bind fun t720=>(some t720))=some r:=by rw[if_pos rfl] at H;exact H
               clear H
               have H:=H1
               clear H1
               replace H:=Option.bind_eq_some_iff.mp H
               obtain⟨t720,A1470,H⟩:=H
               replace H:(some t720)=some r:=H
               have A147:=Aside0.mk A1470
               clear A1470
               obtain rfl:=Option.some.inj H
               have hnb148:=NB713_678.out
               have hnc148:=NB678_713.out
               have hnb149:=NB713_679.out
               have hnc149:=NB679_713.out
               have hnb150:=NB713_685.out
               have hnc150:=NB685_713.out
               have hnb151:=NB713_691.out
               have hnc151:=NB691_713.out
               have hnb152:=NB713_698.out
               have hnc152:=NB698_713.out
               have hnb153:=NB713_707.out
               have hnc153:=NB707_713.out
               obtain⟨hcz154_0,hcz154_1,hfz154_0,hfz154_1⟩:=zC2 BK713
               have hnb155:=NB679_678.out
               have hnc155:=NB678_679.out
               have hnb156:=NB679_685.out
               have hnc156:=NB685_679.out
               have hnb157:=NB679_691.out
               have hnc157:=NB691_679.out
               have hnb158:=NB679_698.out
               have hnc158:=NB698_679.out
               have hnb159:=NB679_707.out
               have hnc159:=NB707_679.out
               obtain⟨hcz160_0,hcz160_1,hcz160_2,hfz160_0,hfz160_1,hfz160_2⟩:=zC3 BK679
               go_wp2_with(first|((with_reducible refine qac (f:=24) rfl ?_);refine zF (some 110) Try.func24 #[.agg #[.int .i64 t708,.slice Ao120 t709.length co120],.agg #[.int .i64 t673,.int .i64 t674,.slice Ao17 t675.length co17]] ?_;(with_reducible refine(impl_StockDo.calls kj86 t708 _ _ t709 t673 t674 _ _ t675 t714 t715 true _ ?side1 ?side2 ?side3 ?side4 A145.out).mono ?_);(case side1=>repeat(first|exact(Kd.Q_reads' HO_714001.out).2.2|(with_reducible refine Kd.C_alloc ?_ _)|(with_reducible refine Kd.C_drewN ?_ _)|(with_reducible refine Kd.C_drew ?_)));(case side2=>exact(Kd.Q_reads' HO_714001.out).2.1);(case side3=>repeat(first|exact(Kd.V_reads' HO_680002.out).2.2|(with_reducible refine Kd.C_alloc ?_ _)|(with_reducible refine Kd.C_drewN ?_ _)|(with_reducible refine Kd.C_drew ?_)));(case side4=>exact(Kd.V_reads' HO_680002.out).2.1);rintro e w161 ⟨v716,rfl,ho0,hb⟩;refine⟨_,rfl,?_⟩;replace HO_680002:=Aside0.mk (Kd.V_elder' (za42 HO_680002) (Kd.R_base ho0) hb);replace HO_699002:=Aside0.mk (Kd.R_below (za5 HO_699002) hb);have HO717:=Aside0.mk (Kd.R_lower (Kd.R_new' (Kd.R_new' (Kd.R_new' (Kd.R_new' (Kd.R_new' ho0 (Kd.Q_lt (za10 HO_679001))) (Kd.Q_lt (za10 HO_686001))) (Kd.Q_lt (za10 HO_692001))) (Kd.Q_lt (za10 HO_708001))) (Kd.Q_lt (za10 HO_714001))) (below_size (za51 HB GE678 GE679 GE685 GE691 GE698 GE707 GE713)));replace HO_679001:=Aside0.mk (Kd.Q_elder' (za10 HO_679001) (Kd.R_base ho0) hb);replace HO_686001:=Aside0.mk (Kd.Q_elder' (za10 HO_686001) (Kd.R_base ho0) hb);replace HO_692001:=Aside0.mk (Kd.Q_elder' (za10 HO_692001) (Kd.R_base ho0) hb);replace HO_708001:=Aside0.mk (Kd.Q_elder' (za10 HO_708001) (Kd.R_base ho0) hb);replace HO_714001:=Aside0.mk (Kd.Q_elder' (za10 HO_714001) (Kd.R_base ho0) hb);replace BK678:=Aside0.mk (qaa (zB BK678) hb);replace BK679:=Aside0.mk (qaa (zB BK679) hb);replace BK685:=Aside0.mk (qaa (zB BK685) hb);replace BK691:=Aside0.mk (qaa (zB BK691) hb);replace BK698:=Aside0.mk (qaa (zB BK698) hb);replace BK707:=Aside0.mk (qaa (zB BK707) hb);replace BK713:=Aside0.mk (qaa (zB BK713) hb);replace HB:=Aside0.mk (qab (za51 HB GE678 GE679 GE685 GE691 GE698 GE707 GE713) hb);(try clear hb);(try clear ho0))|((with_reducible refine qae (N:=17) rfl ?_);(try(refine gate_guard (by rfl) ?_;dsimp only));refine zX (N:=17) (cs:=#[.int .i64 0,.slice none 0 0]) (t:=38) ?_;intro gb719 hg w162 hbox hb;replace HO_679001:=Aside0.mk (Kd.Q_below (za10 HO_679001) hb);replace HO_680002:=Aside0.mk (Kd.V_below (Kd.V_elderB (za42 HO_680002) gb719 (Nat.le_of_eq hg.symm)) hb);replace HO_686001:=Aside0.mk (Kd.Q_below (za10 HO_686001) hb);replace HO_692001:=Aside0.mk (Kd.Q_below (za10 HO_692001) hb);replace HO_699002:=Aside0.mk (Kd.R_below (za5 HO_699002) hb);replace HO_708001:=Aside0.mk (Kd.Q_below (za10 HO_708001) hb);replace HO_714001:=Aside0.mk (Kd.Q_below (za10 HO_714001) hb);replace HO717:=Aside0.mk (Kd.R_below (za5 HO717) hb);have BK719:=Aside0.mk hbox;have GW719:=zH (w:=w) hg (za51 HB GE678 GE679 GE685 GE691 GE698 GE707 GE713);have GE719:=GW719;replace HB:=Aside0.mk (qab (za51 HB GE678 GE679 GE685 GE691 GE698 GE707 GE713) hb);have NB678_719:=zL BK678 hg;have NB719_678:=zG BK678 hg;replace BK678:=Aside0.mk (qaa (zB BK678) hb);have NB679_719:=zL BK679 hg;have NB719_679:=zG BK679 hg;replace BK679:=Aside0.mk (qaa (zB BK679) hb);have NB685_719:=zL BK685 hg;have NB719_685:=zG BK685 hg;replace BK685:=Aside0.mk (qaa (zB BK685) hb);have NB691_719:=zL BK691 hg;have NB719_691:=zG BK691 hg;replace BK691:=Aside0.mk (qaa (zB BK691) hb);have NB698_719:=zL BK698 hg;have NB719_698:=zG BK698 hg;replace BK698:=Aside0.mk (qaa (zB BK698) hb);have NB707_719:=zL BK707 hg;have NB719_707:=zG BK707 hg;replace BK707:=Aside0.mk (qaa (zB BK707) hb);have NB713_719:=zL BK713 hg;have NB719_713:=zG BK713 hg;replace BK713:=Aside0.mk (qaa (zB BK713) hb);clear hb hbox hg;have hnb163:=NB719_678.out;have hnc163:=NB678_719.out;have hnb164:=NB719_679.out;have hnc164:=NB679_719.out;have hnb165:=NB719_685.out;have hnc165:=NB685_719.out;have hnb166:=NB719_691.out;have hnc166:=NB691_719.out;have hnb167:=NB719_698.out;have hnc167:=NB698_719.out;have hnb168:=NB719_707.out;have hnc168:=NB707_719.out;have hnb169:=NB719_713.out;have hnc169:=NB713_719.out;obtain⟨hcz170_0,hcz170_1,hfz170_0,hfz170_1⟩:=zC2 BK719;obtain⟨Ao171,co171,eo171⟩:=Kd.R_slice HO717.out;subst eo171;have hnb172:=NB707_678.out;have hnc172:=NB678_707.out;have hnb173:=NB707_685.out;have hnc173:=NB685_707.out;have hnb174:=NB707_691.out;have hnc174:=NB691_707.out;have hnb175:=NB707_698.out;have hnc175:=NB698_707.out;obtain⟨hcz176_0,hcz176_1,hfz176_0,hfz176_1⟩:=zC2 BK707)|(go_at_call 23;(with_reducible refine(laws_lnStock.calls kj86 t702 _ _ t703 t714 _ _ t715 t720 _ ?side1 ?side2 ?side3 ?side4 A147.out).mono ?_);(case side1=>refine(Kd.Q_reads' (e:=49) (base:=w.heap.size) (ok:=fun k_=>((some k_≠(.slice Ao15 t670.length co15:Value).ownBlock∧(some k_≠(.slice Ao23 t681.length co23:Value).ownBlock∧(some k_≠(.slice Ao32 t687.length co32:Value).ownBlock∧some k_≠(.slice Ao120 t709.length co120:Value).ownBlock)))∧some k_≠(.slice Ao171 t715.length co171:Value).ownBlock)) (n:=t703.length) (c:=co106) ?_).2.2;exact(by(with_reducible repeat(first|apply Kd.Q_alloc|apply Kd.Q_drewN|apply Kd.Q_drew));exact(Kd.Q_mono (Kd.Q_far (p:=⟨gb719,1,none⟩) (Kd.Q_far (p:=⟨gb719,0,none⟩) (Kd.Q_types HO_708001.out BK719.out (by decide)) (fun _ hk=>hk.2) (.int .i64 t714)) (fun _ hk=>hk.2) (.slice Ao171 t715.length co171)) (fun _ h_=>h_.1))));(case side2=>exact(Kd.Q_reads' HO_708001.out).2.1);(case side3=>refine(Kd.R_reads' (e:=49) (base:=w.heap.size) (ok:=fun k_=>(((((True∧some k_≠(.slice Ao15 t670.length co15:Value).ownBlock)∧some k_≠(.slice Ao23 t681.length co23:Value).ownBlock)∧some k_≠(.slice Ao32 t687.length co32:Value).ownBlock)∧some k_≠(.slice Ao106 t703.length co106:Value).ownBlock)∧some k_≠(.slice Ao120 t709.length co120:Value).ownBlock)) (n:=t715.length) (c:=co171) ?_).2.2;exact(by(with_reducible repeat(first|apply Kd.R_alloc|apply Kd.R_drewN|apply Kd.R_drew));exact(Kd.R_mono (Kd.R_far (p:=⟨gb719,1,none⟩) (Kd.R_far (p:=⟨gb719,0,none⟩) (Kd.R_types HO717.out BK719.out (by decide)) (fun _ hk=>hk.2) (.int .i64 t714)) (fun _ hk=>hk.2) (.slice Ao171 t715.length co171)) (fun _ h_=>h_.1))));(case side4=>exact(Kd.R_reads' HO717.out).2.1);rintro e w177 ⟨rfl,hb⟩;replace HO_679001:=Aside0.mk (Kd.Q_below (by(with_reducible repeat(first|apply Kd.Q_alloc|apply Kd.Q_drewN|apply Kd.Q_drew));exact(Kd.Q_mono (Kd.Q_far (p:=⟨gb719,1,none⟩) (Kd.Q_far (p:=⟨gb719,0,none⟩) (Kd.Q_types HO_679001.out BK719.out (by decide)) (fun _ hk=>hk.2) (.int .i64 t714)) (fun _ hk=>hk.2) (.slice Ao171 t715.length co171)) (fun _ h_=>h_.1))) hb);replace HO_680002:=Aside0.mk (Kd.V_below (by(with_reducible repeat(first|apply Kd.V_alloc|apply Kd.V_drewN|apply Kd.V_drew));exact(Kd.V_mono (Kd.V_far (p:=⟨gb719,1,none⟩) (Kd.V_far (p:=⟨gb719,0,none⟩) (Kd.V_mono HO_680002.out (fun k_ hk=>(⟨hk,hk.2⟩:_∧k_≠gb719))) (fun _ hk=>hk.2) (.int .i64 t714)) (fun _ hk=>hk.2) (.slice Ao171 t715.length co171)) (fun _ h_=>h_.1))) hb);replace HO_686001:=Aside0.mk (Kd.Q_below (by(with_reducible repeat(first|apply Kd.Q_alloc|apply Kd.Q_drewN|apply Kd.Q_drew));exact(Kd.Q_mono (Kd.Q_far (p:=⟨gb719,1,none⟩) (Kd.Q_far (p:=⟨gb719,0,none⟩) (Kd.Q_types HO_686001.out BK719.out (by decide)) (fun _ hk=>hk.2) (.int .i64 t714)) (fun _ hk=>hk.2) (.slice Ao171 t715.length co171)) (fun _ h_=>h_.1))) hb);replace HO_692001:=Aside0.mk (Kd.Q_below (by(with_reducible repeat(first|apply Kd.Q_alloc|apply Kd.Q_drewN|apply Kd.Q_drew));exact(Kd.Q_mono (Kd.Q_far (p:=⟨gb719,1,none⟩) (Kd.Q_far (p:=⟨gb719,0,none⟩) (Kd.Q_types HO_692001.out BK719.out (by decide)) (fun _ hk=>hk.2) (.int .i64 t714)) (fun _ hk=>hk.2) (.slice Ao171 t715.length co171)) (fun _ h_=>h_.1))) hb);replace HO_699002:=Aside0.mk (Kd.R_below (by(with_reducible repeat(first|apply Kd.R_alloc|apply Kd.R_drewN|apply Kd.R_drew));exact(Kd.R_mono (Kd.R_far (p:=⟨gb719,1,none⟩) (Kd.R_far (p:=⟨gb719,0,none⟩) (Kd.R_types HO_699002.out BK719.out (by decide)) (fun _ hk=>hk.2) (.int .i64 t714)) (fun _ hk=>hk.2) (.slice Ao171 t715.length co171)) (fun _ h_=>h_.1))) hb);replace HO_708001:=Aside0.mk (Kd.Q_below (by(with_reducible repeat(first|apply Kd.Q_alloc|apply Kd.Q_drewN|apply Kd.Q_drew));exact(Kd.Q_mono (Kd.Q_far (p:=⟨gb719,1,none⟩) (Kd.Q_far (p:=⟨gb719,0,none⟩) (Kd.Q_types HO_708001.out BK719.out (by decide)) (fun _ hk=>hk.2) (.int .i64 t714)) (fun _ hk=>hk.2) (.slice Ao171 t715.length co171)) (fun _ h_=>h_.1))) hb);replace HO_714001:=Aside0.mk (Kd.Q_below (by(with_reducible repeat(first|apply Kd.Q_alloc|apply Kd.Q_drewN|apply Kd.Q_drew));exact(Kd.Q_mono (Kd.Q_far (p:=⟨gb719,1,none⟩) (Kd.Q_far (p:=⟨gb719,0,none⟩) (Kd.Q_types HO_714001.out BK719.out (by decide)) (fun _ hk=>hk.2) (.int .i64 t714)) (fun _ hk=>hk.2) (.slice Ao171 t715.length co171)) (fun _ h_=>h_.1))) hb);replace HO717:=Aside0.mk (Kd.R_below (by(with_reducible repeat(first|apply Kd.R_alloc|apply Kd.R_drewN|apply Kd.R_drew));exact(Kd.R_mono (Kd.R_far (p:=⟨gb719,1,none⟩) (Kd.R_far (p:=⟨gb719,0,none⟩) (Kd.R_types HO717.out BK719.out (by decide)) (fun _ hk=>hk.2) (.int .i64 t714)) (fun _ hk=>hk.2) (.slice Ao171 t715.length co171)) (fun _ h_=>h_.1))) hb);replace BK678:=Aside0.mk (qaa (g:=gb678) (o:=.cells #[.int .i64 t669,.slice Ao15 t670.length co15] 38 (0,0)) (za0 NB678_719 BK678) hb);replace BK679:=Aside0.mk (qaa (g:=gb679) (o:=.cells #[.int .i64 t673,.int .i64 t674,.slice Ao17 t675.length co17] 32 (0,0)) (za0 NB679_719 BK679) hb);replace BK685:=Aside0.mk (qaa (g:=gb685) (o:=.cells #[.int .i64 t680,.slice Ao23 t681.length co23] 38 (0,0)) (za0 NB685_719 BK685) hb);replace BK691:=Aside0.mk (qaa (g:=gb691) (o:=.cells #[.int .i64 t686,.slice Ao32 t687.length co32] 38 (0,0)) (za0 NB691_719 BK691) hb);replace BK698:=Aside0.mk (qaa (g:=gb698) (o:=.cells #[.int .i64 (rd y694 (ji63)),.int .i64 (1+((l1.length:Int)%6)),.slice Ao97 x699002_65.length co97] 32 (0,0)) (za0 NB698_719 BK698) hb);replace BK707:=Aside0.mk (qaa (g:=gb707) (o:=.cells #[.int .i64 t702,.slice Ao106 t703.length co106] 38 (0,0)) (za0 NB707_719 BK707) hb);replace BK713:=Aside0.mk (qaa (g:=gb713) (o:=.cells #[.int .i64 t708,.slice Ao120 t709.length co120] 38 (0,0)) (za0 NB713_719 BK713) hb);replace BK719:=Aside0.mk (qaa (g:=gb719) (o:=.cells #[.int .i64 t714,.slice Ao171 t715.length co171] 38 (0,0)) (by(with_reducible repeat(first|refine blk_drewN ?_ _|refine blk_drew ?_|refine blk_alloc ?_ _));refine qad (cs:=#[.int .i64 t714,.slice none 0 0]) ?_ 1 _ rfl;(with_reducible repeat(first|refine blk_drewN ?_ _|refine blk_drew ?_|refine blk_alloc ?_ _));refine qad (cs:=#[.int .i64 0,.slice none 0 0]) ?_ 0 _ rfl;(with_reducible repeat(first|refine blk_drewN ?_ _|refine blk_drew ?_|refine blk_alloc ?_ _));exact BK719.out) hb);replace HB:=Aside0.mk (qab (by repeat(first|(with_reducible first|exact HB.out|apply below_alloc|apply qaq|apply qao|refine qak ?_ GE678.out|refine qak ?_ GE679.out|refine qak ?_ GE685.out|refine qak ?_ GE691.out|refine qak ?_ GE698.out|refine qak ?_ GE707.out|refine qak ?_ GE713.out|refine qak ?_ GE719.out)|exact HB.out)) hb);(try clear hb)))
               go_ret
               exact⟨by first|rfl|(simp[qal,qam]<;>rfl)|(simp only[←hji63];first|rfl|(simp[qal,qam]<;>rfl))|(simp[*,qal,qam]<;>rfl),by repeat(first|(with_reducible first|exact HB.out|apply below_alloc|apply qaq|apply qao|refine qak ?_ GE678.out|refine qak ?_ GE679.out|refine qak ?_ GE685.out|refine qak ?_ GE691.out|refine qak ?_ GE698.out|refine qak ?_ GE707.out|refine qak ?_ GE713.out|refine qak ?_ GE719.out)|exact HB.out)⟩
              ·replace c146:=Bool.eq_false_iff.mpr c146
               subst c146
               have H1:(some false)=some r:=by rw[if_neg (show ¬(false=true) by decide)] at H;exact H
               clear H
               have H:=H1
               clear H1
               obtain rfl:=Option.some.inj H
               have hnb178:=NB713_678.out
               have hnc178:=NB678_713.out
               have hnb179:=NB713_679.out
               have hnc179:=NB679_713.out
               have hnb180:=NB713_685.out
               have hnc180:=NB685_713.out
               have hnb181:=NB713_691.out
               have hnc181:=NB691_713.out
               have hnb182:=NB713_698.out
               have hnc182:=NB698_713.out
               have hnb183:=NB713_707.out
               have hnc183:=NB707_713.out
               obtain⟨hcz184_0,hcz184_1,hfz184_0,hfz184_1⟩:=zC2 BK713
               have hnb185:=NB679_678.out
               have hnc185:=NB678_679.out
               have hnb186:=NB679_685.out
               have hnc186:=NB685_679.out
               have hnb187:=NB679_691.out
               have hnc187:=NB691_679.out
               have hnb188:=NB679_698.out
               have hnc188:=NB698_679.out
               have hnb189:=NB679_707.out
               have hnc189:=NB707_679.out
               obtain⟨hcz190_0,hcz190_1,hcz190_2,hfz190_0,hfz190_1,hfz190_2⟩:=zC3 BK679
               go_wp2_with(first|((with_reducible refine qac (f:=24) rfl ?_);refine zF (some 110) Try.func24 #[.agg #[.int .i64 t708,.slice Ao120 t709.length co120],.agg #[.int .i64 t673,.int .i64 t674,.slice Ao17 t675.length co17]] ?_;(with_reducible refine(impl_StockDo.calls kj86 t708 _ _ t709 t673 t674 _ _ t675 t714 t715 false _ ?side1 ?side2 ?side3 ?side4 A145.out).mono ?_);(case side1=>repeat(first|exact(Kd.Q_reads' HO_714001.out).2.2|(with_reducible refine Kd.C_alloc ?_ _)|(with_reducible refine Kd.C_drewN ?_ _)|(with_reducible refine Kd.C_drew ?_)));(case side2=>exact(Kd.Q_reads' HO_714001.out).2.1);(case side3=>repeat(first|exact(Kd.V_reads' HO_680002.out).2.2|(with_reducible refine Kd.C_alloc ?_ _)|(with_reducible refine Kd.C_drewN ?_ _)|(with_reducible refine Kd.C_drew ?_)));(case side4=>exact(Kd.V_reads' HO_680002.out).2.1);rintro e w191 ⟨v716,rfl,ho0,hb⟩;refine⟨_,rfl,?_⟩;replace HO_680002:=Aside0.mk (Kd.V_elder' (za42 HO_680002) (Kd.R_base ho0) hb);replace HO_699002:=Aside0.mk (Kd.R_below (za5 HO_699002) hb);have HO717:=Aside0.mk (Kd.R_lower (Kd.R_new' (Kd.R_new' (Kd.R_new' (Kd.R_new' (Kd.R_new' ho0 (Kd.Q_lt (za10 HO_679001))) (Kd.Q_lt (za10 HO_686001))) (Kd.Q_lt (za10 HO_692001))) (Kd.Q_lt (za10 HO_708001))) (Kd.Q_lt (za10 HO_714001))) (below_size (za51 HB GE678 GE679 GE685 GE691 GE698 GE707 GE713)));replace HO_679001:=Aside0.mk (Kd.Q_elder' (za10 HO_679001) (Kd.R_base ho0) hb);replace HO_686001:=Aside0.mk (Kd.Q_elder' (za10 HO_686001) (Kd.R_base ho0) hb);replace HO_692001:=Aside0.mk (Kd.Q_elder' (za10 HO_692001) (Kd.R_base ho0) hb);replace HO_708001:=Aside0.mk (Kd.Q_elder' (za10 HO_708001) (Kd.R_base ho0) hb);replace HO_714001:=Aside0.mk (Kd.Q_elder' (za10 HO_714001) (Kd.R_base ho0) hb);replace BK678:=Aside0.mk (qaa (zB BK678) hb);replace BK679:=Aside0.mk (qaa (zB BK679) hb);replace BK685:=Aside0.mk (qaa (zB BK685) hb);replace BK691:=Aside0.mk (qaa (zB BK691) hb);replace BK698:=Aside0.mk (qaa (zB BK698) hb);replace BK707:=Aside0.mk (qaa (zB BK707) hb);replace BK713:=Aside0.mk (qaa (zB BK713) hb);replace HB:=Aside0.mk (qab (za51 HB GE678 GE679 GE685 GE691 GE698 GE707 GE713) hb);(try clear hb);(try clear ho0))|((with_reducible refine qae (N:=17) rfl ?_);(try(refine gate_guard (by rfl) ?_;dsimp only));refine zX (N:=17) (cs:=#[.int .i64 0,.slice none 0 0]) (t:=38) ?_;intro gb719 hg w192 hbox hb;replace HO_679001:=Aside0.mk (Kd.Q_below (za10 HO_679001) hb);replace HO_680002:=Aside0.mk (Kd.V_below (Kd.V_elderB (za42 HO_680002) gb719 (Nat.le_of_eq hg.symm)) hb);replace HO_686001:=Aside0.mk (Kd.Q_below (za10 HO_686001) hb);replace HO_692001:=Aside0.mk (Kd.Q_below (za10 HO_692001) hb);replace HO_699002:=Aside0.mk (Kd.R_below (za5 HO_699002) hb);replace HO_708001:=Aside0.mk (Kd.Q_below (za10 HO_708001) hb);replace HO_714001:=Aside0.mk (Kd.Q_below (za10 HO_714001) hb);replace HO717:=Aside0.mk (Kd.R_below (za5 HO717) hb);have BK719:=Aside0.mk hbox;have GW719:=zH (w:=w) hg (za51 HB GE678 GE679 GE685 GE691 GE698 GE707 GE713);have GE719:=GW719;replace HB:=Aside0.mk (qab (za51 HB GE678 GE679 GE685 GE691 GE698 GE707 GE713) hb);have NB678_719:=zL BK678 hg;have NB719_678:=zG BK678 hg;replace BK678:=Aside0.mk (qaa (zB BK678) hb);have NB679_719:=zL BK679 hg;have NB719_679:=zG BK679 hg;replace BK679:=Aside0.mk (qaa (zB BK679) hb);have NB685_719:=zL BK685 hg;have NB719_685:=zG BK685 hg;replace BK685:=Aside0.mk (qaa (zB BK685) hb);have NB691_719:=zL BK691 hg;have NB719_691:=zG BK691 hg;replace BK691:=Aside0.mk (qaa (zB BK691) hb);have NB698_719:=zL BK698 hg;have NB719_698:=zG BK698 hg;replace BK698:=Aside0.mk (qaa (zB BK698) hb);have NB707_719:=zL BK707 hg;have NB719_707:=zG BK707 hg;replace BK707:=Aside0.mk (qaa (zB BK707) hb);have NB713_719:=zL BK713 hg;have NB719_713:=zG BK713 hg;replace BK713:=Aside0.mk (qaa (zB BK713) hb);clear hb hbox hg;have hnb193:=NB719_678.out;have hnc193:=NB678_719.out;have hnb194:=NB719_679.out;have hnc194:=NB679_719.out;have hnb195:=NB719_685.out;have hnc195:=NB685_719.out;have hnb196:=NB719_691.out;have hnc196:=NB691_719.out;have hnb197:=NB719_698.out;have hnc197:=NB698_719.out;have hnb198:=NB719_707.out;have hnc198:=NB707_719.out;have hnb199:=NB719_713.out;have hnc199:=NB713_719.out;obtain⟨hcz200_0,hcz200_1,hfz200_0,hfz200_1⟩:=zC2 BK719;obtain⟨Ao201,co201,eo201⟩:=Kd.R_slice HO717.out;subst eo201))
               go_ret
               exact⟨by first|rfl|(simp[qal,qam]<;>rfl)|(simp only[←hji63];first|rfl|(simp[qal,qam]<;>rfl))|(simp[*,qal,qam]<;>rfl),by repeat(first|(with_reducible first|exact HB.out|apply below_alloc|apply qaq|apply qao|refine qak ?_ GE678.out|refine qak ?_ GE679.out|refine qak ?_ GE685.out|refine qak ?_ GE691.out|refine qak ?_ GE698.out|refine qak ?_ GE707.out|refine qak ?_ GE713.out|refine qak ?_ GE719.out)|exact HB.out)⟩
        ·rw[if_neg c65] at H
         exact absurd H (by simp)
       ·rw[if_neg c64] at H
        exact absurd H (by simp)
def laws_FnStockApart.Pure:Prop:=∀(l0:List Int) (l1:List Int),l0.length≤maxLen→l0.length*1≤140737488351232→(∀x ∈ l0,(Lit.int .u8 x).wf=true)→l1.length≤maxLen→l1.length*1≤140737488351232→(∀x ∈ l1,(Lit.int .u8 x).wf=true)→∃k,laws_FnStockApart.f k l0 l1=some true
theorem laws_FnStockApart.walk (P:laws_FnStockApart.Pure) (a0:Option Addr) (len0 cap0:Nat) (z0:List Int) (a1:Option Addr) (len1 cap1:Nat) (z1:List Int) (w:World) (w0:(a0=none∧len0=0∧cap0=0∧z0=[])∨∃x,a0=some x∧len0≤cap0∧cap0≤maxLen∧z0.length=cap0∧(∀i,i<z0.length→w.cell? (x.add i)=some (.int .u8 (z0.getD i 0)))∧∀n ∈ z0,(Lit.int .u8 n).wf=true) (y0:len0*1≤140737488351232) (w1:(a1=none∧len1=0∧cap1=0∧z1=[])∨∃x,a1=some x∧len1≤cap1∧cap1≤maxLen∧z1.length=cap1∧(∀i,i<z1.length→w.cell? (x.add i)=some (.int .u8 (z1.getD i 0)))∧∀n ∈ z1,(Lit.int .u8 n).wf=true) (y1:len1*1≤140737488351232) :
  Calls Try.prog 6 #[.slice a0 len0 cap0,.slice a1 len1 cap1] w fun e w'=>e=.returned (.bool true)∧Below w.heap.size w w':=by
 obtain⟨l0,rfl,hr0,hm0,hw0,hc0⟩:=ReadsInt.ofRowC w0
 obtain⟨l1,rfl,hr1,hm1,hw1,hc1⟩:=ReadsInt.ofRowC w1
 obtain⟨k,h⟩:=P l0 l1 hm0 y0 hw0 hm1 y1 hw1
 refine(laws_FnStockApart.calls k _ _ l0 _ _ l1 true w (Kd.C_of_reads (d:=(0:Int)) (h1:=fun _=>rfl) hr0) hc0 (Kd.C_of_reads (d:=(0:Int)) (h1:=fun _=>rfl) hr1) hc1 h).mono ?_
 rintro e w' ⟨rfl,hd⟩
 exact⟨rfl,hd⟩
end Go.Proofs.Ytmbdphefnalenaa.Print
