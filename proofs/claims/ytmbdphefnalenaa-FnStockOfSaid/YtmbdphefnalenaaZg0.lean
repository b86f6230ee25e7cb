-- Written by squeeze.py: not trusted, Lean checks it.
import Derived.Test.YtmbdphefnalenaaZK
import Derived.Test.YtmbdphefnalenaaZa0
import Derived.Test.YtmbdphefnalenaaZc8
import Derived.Test.YtmbdphefnalenaaZd0
import Derived.Test.YtmbdphefnalenaaZe0
import Derived.Test.YtmbdphefnalenaaZf0
namespace Go.Proofs.Ytmbdphefnalenaa.Print
open Go.RowKit Go.Proofs.YtmbdphefnalenaaW.PrintWords Go.Proofs.YtmbdphefnalenaaW.PrintLast Go.Proofs.YtmbdphefnalenaaW.PrintMore
attribute [local go_sem] max2_int min2_int max_two min_two max_three min_three max_four min_four
set_option linter.unusedVariables false
set_option linter.unusedSimpArgs false
mutual
def laws_FnStockOf.j0:Nat→List Int→List Int→Bool→Option (Bool)
 |0,_,_,_=>none
 |k+1,x0,x1,x22=>if x22=true then(some true) else((spec_DrawStockOf.f k x0).bind fun bt526=>((spec_StockOf.f k bt526.1 bt526.2).bind fun bt530=>((impl_StockOf.f k bt526.1 bt526.2).bind fun bt536=>(if(bt536.2.2 != bt530.2.2)=true then(laws_FnStockOf.j1 k x1 bt526.1 bt526.2 bt530.2.2 bt536.2.2 true bt530.1 bt530.2.1 bt536.1 bt536.2.1) else((laws_lnStock.f k bt536.1 bt536.2.1 bt530.1 bt530.2.1).bind fun t542=>(if t542=true then(if bt526.1<0 then(laws_FnStockOf.j1 k x1 bt526.1 bt526.2 bt530.2.2 bt536.2.2 true bt530.1 bt530.2.1 bt536.1 bt536.2.1) else(laws_FnStockOf.j1 k x1 bt526.1 bt526.2 bt530.2.2 bt536.2.2 (decide (bt526.1>9)) bt530.1 bt530.2.1 bt536.1 bt536.2.1)) else(laws_FnStockOf.j1 k x1 bt526.1 bt526.2 bt530.2.2 bt536.2.2 true bt530.1 bt530.2.1 bt536.1 bt536.2.1)))))))
def laws_FnStockOf.j1:Nat→List Int→Int→List (S32)→Bool→Bool→Bool→Int→List (S49)→Int→List (S49)→Option (Bool)
 |0,_,_,_,_,_,_,_,_,_,_=>none
 |k+1,x1,x5,x6,x8,x10,x56,x536000,x536001,x542000,x542001=>if x56=true then(if(x10 == x8)=true then((laws_lnStock.f k x542000 x542001 x536000 x536001).bind fun t543=>(some t543)) else(some false)) else(if(wrap64 ((x6.length:Int)+1))=0 then(none) else(if 0≤((x1.length:Int)%(wrap64 ((x6.length:Int)+1))) then(if((x1.length:Int)%(wrap64 ((x6.length:Int)+1)))≤(x6.length:Int) then((impl_StockOf.f k x5 (x6.take (((x1.length:Int)%(wrap64 ((x6.length:Int)+1))):Int).toNat)).bind fun bt549=>(laws_FnStockOf.l0 k x6 x10 bt549.2.2 ((x1.length:Int)%(wrap64 ((x6.length:Int)+1))) x542000 x542001 bt549.1 bt549.2.1)) else(none)) else(none)))
def laws_FnStockOf.l0:Nat→List (S32)→Bool→Bool→Int→Int→List (S49)→Int→List (S49)→Option (Bool)
 |0,_,_,_,_,_,_,_,_=>none
 |k+1,x6,x10,x13,x14,x542000,x542001,x555000,x555001=>if x14<(x6.length:Int) then(if x13=true then(if 0≤x14 then((impl_StockDo.f k x555000 x555001 ((rd_T32 x6 x14).f0) ((rd_T32 x6 x14).f1) ((rd_T32 x6 x14).f2)).bind fun bt556=>(laws_FnStockOf.l0 k x6 x10 bt556.2.2 (wrap64 (x14+1)) x542000 x542001 bt556.1 bt556.2.1)) else(none)) else(laws_FnStockOf.l0 k x6 x10 x13 (wrap64 (x14+1)) x542000 x542001 x555000 x555001)) else(if(x13 == x10)=true then(if x10=true then((laws_lnStock.f k x555000 x555001 x542000 x542001).bind fun t561=>(some t561)) else(some true)) else(some false))
end
def laws_FnStockOf.f (k:Nat) (l0:List Int) (l1:List Int):Option (Bool):=if(l0.length:Int)>1048576 then(laws_FnStockOf.j0 k l0 l1 true) else(laws_FnStockOf.j0 k l0 l1 (decide ((l1.length:Int)>1048576)))
theorem laws_FnStockOf.mono_l:∀k,(∀y0 y1 y2,LeO (laws_FnStockOf.j0 k y0 y1 y2) (laws_FnStockOf.j0 (k+1) y0 y1 y2))∧(∀y0 y1 y2 y3 y4 y5 y6 y7 y8 y9,LeO (laws_FnStockOf.j1 k y0 y1 y2 y3 y4 y5 y6 y7 y8 y9) (laws_FnStockOf.j1 (k+1) y0 y1 y2 y3 y4 y5 y6 y7 y8 y9))∧(∀y0 y1 y2 y3 y4 y5 y6 y7,LeO (laws_FnStockOf.l0 k y0 y1 y2 y3 y4 y5 y6 y7) (laws_FnStockOf.l0 (k+1) y0 y1 y2 y3 y4 y5 y6 y7))
 |0=>⟨fun _ _ _ r h=>by simp[laws_FnStockOf.j0] at h,fun _ _ _ _ _ _ _ _ _ _ r h=>by simp[laws_FnStockOf.j1] at h,fun _ _ _ _ _ _ _ _ r h=>by simp[laws_FnStockOf.l0] at h⟩
 |k+1=>by
  obtain⟨ih0,ih1,ih2⟩:=laws_FnStockOf.mono_l k
  refine⟨?_,?_,?_⟩
  ·intro y0 y1 y2
   unfold laws_FnStockOf.j0
   repeat' first
   |(with_reducible exact ih0 _ _ _)
   |(with_reducible exact ih1 _ _ _ _ _ _ _ _ _ _)
   |(with_reducible exact ih2 _ _ _ _ _ _ _ _)
   |(with_reducible exact impl_StockDo.mono _ _ _ _ _ _)
   |(with_reducible exact impl_StockOf.mono _ _ _)
   |(with_reducible exact laws_lnStock.mono _ _ _ _ _)
   |(with_reducible exact spec_DrawStockOf.mono _ _)
   |(with_reducible exact spec_StockOf.mono _ _ _)
   |(with_reducible exact LeO.refl _)
   |(with_reducible exact LeO.none _)
   |(with_reducible refine LeO.ite ?_ ?_)
   |(with_reducible refine LeO.bind ?_ (fun _=>?_))
   |exact ih0 _ _ _
   |exact ih1 _ _ _ _ _ _ _ _ _ _
   |exact ih2 _ _ _ _ _ _ _ _
   |exact impl_StockDo.mono _ _ _ _ _ _
   |exact impl_StockOf.mono _ _ _
   |exact laws_lnStock.mono _ _ _ _ _
   |exact spec_DrawStockOf.mono _ _
   |exact spec_StockOf.mono _ _ _
   |exact LeO.none _
   |refine LeO.ite ?_ ?_
   |refine LeO.bind ?_ (fun _=>?_)
  ·intro y0 y1 y2 y3 y4 y5 y6 y7 y8 y9
   unfold laws_FnStockOf.j1
   repeat' first
   |(with_reducible exact ih0 _ _ _)
   |(with_reducible exact ih1 _ _ _ _ _ _ _ _ _ _)
   |(with_reducible exact ih2 _ _ _ _ _ _ _ _)
   |(with_reducible exact impl_StockDo.mono _ _ _ _ _ _)
   |(with_reducible exact impl_StockOf.mono _ _ _)
   |(with_reducible exact laws_lnStock.mono _ _ _ _ _)
   |(with_reducible exact spec_DrawStockOf.mono _ _)
   |(with_reducible exact spec_StockOf.mono _ _ _)
   |(with_reducible exact LeO.refl _)
   |(with_reducible exact LeO.none _)
   |(with_reducible refine LeO.ite ?_ ?_)
   |(with_reducible refine LeO.bind ?_ (fun _=>?_))
   |exact ih0 _ _ _
   |exact ih1 _ _ _ _ _ _ _ _ _ _
   |exact ih2 _ _ _ _ _ _ _ _
   |exact impl_StockDo.mono _ _ _ _ _ _
   |exact impl_StockOf.mono _ _ _
   |exact laws_lnStock.mono _ _ _ _ _
   |exact spec_DrawStockOf.mono _ _
   |exact spec_StockOf.mono _ _ _
   |exact LeO.none _
   |refine LeO.ite ?_ ?_
   |refine LeO.bind ?_ (fun _=>?_)
  ·intro y0 y1 y2 y3 y4 y5 y6 y7
   unfold laws_FnStockOf.l0
   repeat' first
   |(with_reducible exact ih0 _ _ _)
   |(with_reducible exact ih1 _ _ _ _ _ _ _ _ _ _)
   |(with_reducible exact ih2 _ _ _ _ _ _ _ _)
   |(with_reducible exact impl_StockDo.mono _ _ _ _ _ _)
   |(with_reducible exact impl_StockOf.mono _ _ _)
   |(with_reducible exact laws_lnStock.mono _ _ _ _ _)
   |(with_reducible exact spec_DrawStockOf.mono _ _)
   |(with_reducible exact spec_StockOf.mono _ _ _)
   |(with_reducible exact LeO.refl _)
   |(with_reducible exact LeO.none _)
   |(with_reducible refine LeO.ite ?_ ?_)
   |(with_reducible refine LeO.bind ?_ (fun _=>?_))
   |exact ih0 _ _ _
   |exact ih1 _ _ _ _ _ _ _ _ _ _
   |exact ih2 _ _ _ _ _ _ _ _
   |exact impl_StockDo.mono _ _ _ _ _ _
   |exact impl_StockOf.mono _ _ _
   |exact laws_lnStock.mono _ _ _ _ _
   |exact spec_DrawStockOf.mono _ _
   |exact spec_StockOf.mono _ _ _
   |exact LeO.none _
   |refine LeO.ite ?_ ?_
   |refine LeO.bind ?_ (fun _=>?_)
theorem laws_FnStockOf.mono:∀a0 a1 k,LeO (laws_FnStockOf.f k a0 a1) (laws_FnStockOf.f (k+1) a0 a1):=by
 intro a0 a1 k
 obtain⟨ih0,ih1,ih2⟩:=laws_FnStockOf.mono_l k
 unfold laws_FnStockOf.f
 repeat' first
   |(with_reducible exact ih0 _ _ _)
   |(with_reducible exact ih1 _ _ _ _ _ _ _ _ _ _)
   |(with_reducible exact ih2 _ _ _ _ _ _ _ _)
   |(with_reducible exact impl_StockDo.mono _ _ _ _ _ _)
   |(with_reducible exact impl_StockOf.mono _ _ _)
   |(with_reducible exact laws_lnStock.mono _ _ _ _ _)
   |(with_reducible exact spec_DrawStockOf.mono _ _)
   |(with_reducible exact spec_StockOf.mono _ _ _)
   |(with_reducible exact LeO.refl _)
   |(with_reducible exact LeO.none _)
   |(with_reducible refine LeO.ite ?_ ?_)
   |(with_reducible refine LeO.bind ?_ (fun _=>?_))
   |exact ih0 _ _ _
   |exact ih1 _ _ _ _ _ _ _ _ _ _
   |exact ih2 _ _ _ _ _ _ _ _
   |exact impl_StockDo.mono _ _ _ _ _ _
   |exact impl_StockOf.mono _ _ _
   |exact laws_lnStock.mono _ _ _ _ _
   |exact spec_DrawStockOf.mono _ _
   |exact spec_StockOf.mono _ _ _
   |exact LeO.none _
   |refine LeO.ite ?_ ?_
   |refine LeO.bind ?_ (fun _=>?_)
def laws_FnStockOf.T14:Bool × List (List Nat × List Nat):=(true,[([],[]),([],[]),([],[]),([1,2],[1,2]),([3],[3]),([0,4],[0,4]),([5],[5]),([6],[6]),([6],[6]),([7,5,0,1,2,3,4,5,6,7],[7]),([8,9,0,1,2,3,4,5,6,7,8,9],[8])])
def laws_FnStockOf.B14:List Nat:=[0,0,0,6,14,31,63,127,127,255,1023]
theorem laws_FnStockOf.tab14:rtab .any (opsOf Try.f4 14)=laws_FnStockOf.T14:=by kernel_rfl
theorem laws_FnStockOf.bits14:waitsOk laws_FnStockOf.T14.2 laws_FnStockOf.B14=true:=by kernel_rfl
set_option maxHeartbeats 8000000 in
set_option maxRecDepth 100000 in
theorem laws_FnStockOf.calls (k:Nat) (A0:Option Addr) (c0:Nat) (l0:List Int) (A1:Option Addr) (c1:Nat) (l1:List Int) (r:Bool) (w:World) (hr0:Kd.C (Kd.int .u8) w A0 l0.length l0) (hc0:l0.length≤c0) (hr1:Kd.C (Kd.int .u8) w A1 l1.length l1) (hc1:l1.length≤c1) (h:laws_FnStockOf.f k l0 l1=some r) :
  Calls Try.prog 4 #[.slice A0 l0.length c0,.slice A1 l1.length c1] w fun e w'=>e=.returned (.bool r)∧Below w.heap.size w w':=by
 have hu38:=Try.underlying38
 have hu32:=Try.underlying32
 have HR0:=Aside0.mk hr0
 have HC0:=Aside0.mk hc0
 clear hr0 hc0
 have HR1:=Aside0.mk hr1
 have HC1:=Aside0.mk hc1
 clear hr1 hc1
 have HB:=Aside0.mk (Below.refl w.heap.size w)
 have H:(if(l0.length:Int)>1048576 then(laws_FnStockOf.j0 k l0 l1 true) else(laws_FnStockOf.j0 k l0 l1 (decide ((l1.length:Int)>1048576))))=some r:=h
 clear h
 have HC3:=Aside0.mk H
 clear H
 go_enter Try.func4,Try.ntmps4
 go_upto_region 1 with(fail)
 go_cut [22] (fun v22 wc=>∃(kq:Nat) (x22_2:Bool),v22=.bool x22_2∧Aside0 (laws_FnStockOf.j0 kq l0 l1 x22_2=some r)∧Aside0 (kq≤k)∧Aside0 (Below w.heap.size w wc))
 case first=>
  have H:=HC3.out
  clear HC3
  by_cases c4:(l0.length:Int)>1048576
  ·rw[if_pos c4] at H
   have c4b0:decide (1048576<(l0.length:Int))=true:=decide_eq_true c4
   have c4b1:decide (1048576<l0.length)=true:=decide_eq_true (by omega)
   clear c4
   (first|rw[c4b0]|(simp only[qaf,qag];rw[c4b0])|skip)
   have H':=Aside0.mk H
   clear H
   go_wp2
   go_meet
   case rel=>exact⟨_,(true),(za43),H',⟨za57⟩,⟨za4 HB⟩⟩
  ·rw[if_neg c4] at H
   have c4b0:decide (1048576<(l0.length:Int))=false:=decide_eq_false c4
   have c4b1:decide (1048576<l0.length)=false:=decide_eq_false (by omega)
   clear c4
   (first|rw[c4b0]|(simp only[qaf,qag];rw[c4b0])|skip)
   have H':=Aside0.mk H
   clear H
   go_wp2
   go_meet
   case rel=>exact⟨_,(decide ((l1.length:Int)>1048576)),(za43),H',⟨za57⟩,⟨za4 HB⟩⟩
 case rest=>
  clear HC3
  try clear c1
  try clear p2
  try clear c4
  try clear c4b0
  try clear c4b1
  obtain⟨kq,x22_2,rfl,HA,HJ2,HB⟩:=hcut
  cases kq with
  |zero=>exact absurd HA.out (by simp[laws_FnStockOf.j0])
  |succ kj2=>
   have H:=HA.out
   clear HA
   simp only[laws_FnStockOf.j0] at H
   by_cases c5:x22_2=true
   ·subst c5
    have H1:(some true)=some r:=by rw[if_pos rfl] at H;exact H
    clear H
    have H:=H1
    clear H1
    obtain rfl:=Option.some.inj H
    go_wp2
    go_ret
    exact⟨za16,za4 HB⟩
   ·replace c5:=Bool.eq_false_iff.mpr c5
    subst c5
    have H1:((spec_DrawStockOf.f kj2 l0).bind fun bt526=>((spec_StockOf.f kj2 bt526.1 bt526.2).bind fun bt530=>((impl_StockOf.f kj2 bt526.1 bt526.2).bind fun bt536=>(if(bt536.2.2 != bt530.2.2)=true then(laws_FnStockOf.j1 kj2 l1 bt526.1 bt526.2 bt530.2.2 bt536.2.2 true bt530.1 bt530.2.1 bt536.1 bt536.2.1) else((laws_lnStock.f kj2 bt536.1 bt536.2.1 bt530.1 bt530.2.1).bind fun t542=>(if t542=true then(if bt526.1<0 then(laws_FnStockOf.j1 kj2 l1 bt526.1 bt526.2 bt530.2.2 bt536.2.2 true bt530.1 bt530.2.1 bt536.1 bt536.2.1) else(laws_FnStockOf.j1 kj2 l1 bt526.1 bt526.2 bt530.2.2 bt536.2.2 (decide (bt526.1>9)) bt530.1 bt530.2.1 bt536.1 bt536.2.1)) else(laws_FnStockOf.j1 kj2 l1 bt526.1 bt526.2 bt530.2.2 bt536.2.2 true bt530.1 bt530.2.1 bt536.1 bt536.2.1)))))))=some r:=by rw[if_neg (show ¬(false=true) by decide)] at H;exact H
    clear H
    have H:=H1
    clear H1
    replace H:=Option.bind_eq_some_iff.mp H
    obtain⟨⟨t526,t527⟩,A60,H⟩:=H
    replace H:((spec_StockOf.f kj2 t526 t527).bind fun bt530=>((impl_StockOf.f kj2 t526 t527).bind fun bt536=>(if(bt536.2.2 != bt530.2.2)=true then(laws_FnStockOf.j1 kj2 l1 t526 t527 bt530.2.2 bt536.2.2 true bt530.1 bt530.2.1 bt536.1 bt536.2.1) else((laws_lnStock.f kj2 bt536.1 bt536.2.1 bt530.1 bt530.2.1).bind fun t542=>(if t542=true then(if t526<0 then(laws_FnStockOf.j1 kj2 l1 t526 t527 bt530.2.2 bt536.2.2 true bt530.1 bt530.2.1 bt536.1 bt536.2.1) else(laws_FnStockOf.j1 kj2 l1 t526 t527 bt530.2.2 bt536.2.2 (decide (t526>9)) bt530.1 bt530.2.1 bt536.1 bt536.2.1)) else(laws_FnStockOf.j1 kj2 l1 t526 t527 bt530.2.2 bt536.2.2 true bt530.1 bt530.2.1 bt536.1 bt536.2.1))))))=some r:=H
    have A6:=Aside0.mk A60
    clear A60
    replace H:=Option.bind_eq_some_iff.mp H
    obtain⟨⟨t530,t531,t534⟩,A70,H⟩:=H
    replace H:((impl_StockOf.f kj2 t526 t527).bind fun bt536=>(if(bt536.2.2 != t534)=true then(laws_FnStockOf.j1 kj2 l1 t526 t527 t534 bt536.2.2 true t530 t531 bt536.1 bt536.2.1) else((laws_lnStock.f kj2 bt536.1 bt536.2.1 t530 t531).bind fun t542=>(if t542=true then(if t526<0 then(laws_FnStockOf.j1 kj2 l1 t526 t527 t534 bt536.2.2 true t530 t531 bt536.1 bt536.2.1) else(laws_FnStockOf.j1 kj2 l1 t526 t527 t534 bt536.2.2 (decide (t526>9)) t530 t531 bt536.1 bt536.2.1)) else(laws_FnStockOf.j1 kj2 l1 t526 t527 t534 bt536.2.2 true t530 t531 bt536.1 bt536.2.1)))))=some r:=H
    have A7:=Aside0.mk A70
    clear A70
    replace H:=Option.bind_eq_some_iff.mp H
    obtain⟨⟨t536,t537,t540⟩,A80,H⟩:=H
    replace H:(if(t540 != t534)=true then(laws_FnStockOf.j1 kj2 l1 t526 t527 t534 t540 true t530 t531 t536 t537) else((laws_lnStock.f kj2 t536 t537 t530 t531).bind fun t542=>(if t542=true then(if t526<0 then(laws_FnStockOf.j1 kj2 l1 t526 t527 t534 t540 true t530 t531 t536 t537) else(laws_FnStockOf.j1 kj2 l1 t526 t527 t534 t540 (decide (t526>9)) t530 t531 t536 t537)) else(laws_FnStockOf.j1 kj2 l1 t526 t527 t534 t540 true t530 t531 t536 t537))))=some r:=H
    have A8:=Aside0.mk A80
    clear A80
    have HC9:=Aside0.mk H
    clear H
    go_upto_region 6 with(first|((with_reducible refine qac (f:=20) rfl ?_);refine zF (some 25) Try.func20 #[.slice A0 l0.length c0] ?_;(with_reducible refine(spec_DrawStockOf.calls kj2 _ _ l0 t526 t527 _ ?side1 ?side2 A6.out).mono ?_);(case side1=>exact zR HR0 HB);(case side2=>exact HC0.out);rintro e w10 ⟨v528,rfl,ho0,hb⟩;refine⟨_,rfl,?_⟩;have HO529:=Aside0.mk (Kd.N_lower (Kd.N_mono (ok':=fun k_=>True) ho0 (fun k_ hk_=>trivial)) (below_size (za4 HB)));replace HB:=Aside0.mk (qab (za4 HB) hb);(try clear hb);(try clear ho0);obtain⟨Ao11,co11,eo11⟩:=Kd.N_slice HO529.out;subst eo11)|((with_reducible refine qac (f:=21) rfl ?_);refine zF (some 31) Try.func21 #[.int .i64 t526,.slice Ao11 t527.length co11] ?_;(with_reducible refine(spec_StockOf.calls kj2 t526 _ _ t527 t530 t531 t534 _ ?side1 ?side2 A7.out).mono ?_);(case side1=>repeat(first|exact(Kd.N_reads' HO529.out).2.2|(with_reducible refine Kd.C_alloc ?_ _)|(with_reducible refine Kd.C_drewN ?_ _)|(with_reducible refine Kd.C_drew ?_)));(case side2=>exact(Kd.N_reads' HO529.out).2.1);rintro e w12 ⟨v532,rfl,ho0,hb⟩;refine⟨_,rfl,?_⟩;replace HO529:=Aside0.mk (Kd.N_elder' (za36 HO529) (Kd.R_base ho0) hb);have HO533:=Aside0.mk (Kd.R_lower ho0 (below_size (za4 HB)));replace HB:=Aside0.mk (qab (za4 HB) hb);(try clear hb);(try clear ho0))|((with_reducible refine qae (N:=7) rfl ?_);(try(refine gate_guard (by rfl) ?_;dsimp only));refine zX (N:=7) (cs:=#[.int .i64 0,.slice none 0 0]) (t:=38) ?_;intro gb535 hg w13 hbox hb;replace HO529:=Aside0.mk (Kd.N_below (Kd.N_elderB (za36 HO529) gb535 (Nat.le_of_eq hg.symm)) hb);replace HO533:=Aside0.mk (Kd.R_below (za5 HO533) hb);have BK535:=Aside0.mk hbox;have GW535:=zH (w:=w) hg (za4 HB);have GE535:=GW535;replace HB:=Aside0.mk (qab (za4 HB) hb);clear hb hbox hg;obtain⟨hcz14_0,hcz14_1,hfz14_0,hfz14_1⟩:=zC2 BK535;obtain⟨Ao15,co15,eo15⟩:=Kd.R_slice HO533.out;subst eo15)|((with_reducible refine qac (f:=22) rfl ?_);refine zF (some 37) Try.func22 #[.int .i64 t526,.slice Ao11 t527.length co11] ?_;(with_reducible refine(impl_StockOf.calls kj2 t526 _ _ t527 t536 t537 t540 _ ?side1 ?side2 A8.out).mono ?_);(case side1=>refine(Kd.N_reads' (e:=32) (base:=w.heap.size) (ok:=fun k_=>((True∧some k_≠(.slice Ao15 t531.length co15:Value).ownBlock)∧k_≠gb535)) (n:=t527.length) (c:=co11) ?_).2.2;exact(by(with_reducible repeat(first|apply Kd.N_alloc|apply Kd.N_drewN|apply Kd.N_drew));exact(Kd.N_mono (Kd.N_far (p:=⟨gb535,1,none⟩) (Kd.N_far (p:=⟨gb535,0,none⟩) (Kd.N_mono HO529.out (fun k_ hk=>(⟨hk,hk.2⟩:_∧k_≠gb535))) (fun _ hk=>hk.2) (.int .i64 t530)) (fun _ hk=>hk.2) (.slice Ao15 t531.length co15)) (fun _ h_=>h_.1))));(case side2=>exact(Kd.N_reads' HO529.out).2.1);rintro e w16 ⟨v538,rfl,ho0,hb⟩;refine⟨_,rfl,?_⟩;replace HO529:=Aside0.mk (Kd.N_elder' (by(with_reducible repeat(first|apply Kd.N_alloc|apply Kd.N_drewN|apply Kd.N_drew));exact(Kd.N_mono (Kd.N_far (p:=⟨gb535,1,none⟩) (Kd.N_far (p:=⟨gb535,0,none⟩) (Kd.N_mono HO529.out (fun k_ hk=>(⟨hk,hk.2⟩:_∧k_≠gb535))) (fun _ hk=>hk.2) (.int .i64 t530)) (fun _ hk=>hk.2) (.slice Ao15 t531.length co15)) (fun _ h_=>h_.1))) (Kd.R_base ho0) hb);have HO539:=Aside0.mk (Kd.R_lower (Kd.R_new' ho0 (Kd.R_lt (by(with_reducible repeat(first|apply Kd.R_alloc|apply Kd.R_drewN|apply Kd.R_drew));exact(Kd.R_mono (Kd.R_far (p:=⟨gb535,1,none⟩) (Kd.R_far (p:=⟨gb535,0,none⟩) (Kd.R_types HO533.out BK535.out (by decide)) (fun _ hk=>hk.2) (.int .i64 t530)) (fun _ hk=>hk.2) (.slice Ao15 t531.length co15)) (fun _ h_=>h_.1))))) (below_size (za1 HB GE535)));replace HO533:=Aside0.mk (Kd.R_elder' (by(with_reducible repeat(first|apply Kd.R_alloc|apply Kd.R_drewN|apply Kd.R_drew));exact(Kd.R_mono (Kd.R_far (p:=⟨gb535,1,none⟩) (Kd.R_far (p:=⟨gb535,0,none⟩) (Kd.R_types HO533.out BK535.out (by decide)) (fun _ hk=>hk.2) (.int .i64 t530)) (fun _ hk=>hk.2) (.slice Ao15 t531.length co15)) (fun _ h_=>h_.1))) (Kd.R_base ho0) hb);replace BK535:=Aside0.mk (qaa (g:=gb535) (o:=.cells #[.int .i64 t530,.slice Ao15 t531.length co15] 38 (0,0)) (by(with_reducible repeat(first|refine blk_drewN ?_ _|refine blk_drew ?_|refine blk_alloc ?_ _));refine qad (cs:=#[.int .i64 t530,.slice none 0 0]) ?_ 1 _ rfl;(with_reducible repeat(first|refine blk_drewN ?_ _|refine blk_drew ?_|refine blk_alloc ?_ _));refine qad (cs:=#[.int .i64 0,.slice none 0 0]) ?_ 0 _ rfl;(with_reducible repeat(first|refine blk_drewN ?_ _|refine blk_drew ?_|refine blk_alloc ?_ _));exact BK535.out) hb);replace HB:=Aside0.mk (qab (za1 HB GE535) hb);(try clear hb);(try clear ho0))|((with_reducible refine qae (N:=9) rfl ?_);(try(refine gate_guard (by rfl) ?_;dsimp only));refine zX (N:=9) (cs:=#[.int .i64 0,.slice none 0 0]) (t:=38) ?_;intro gb541 hg w17 hbox hb;replace HO529:=Aside0.mk (Kd.N_below (Kd.N_elderB (za36 HO529) gb541 (Nat.le_of_eq hg.symm)) hb);replace HO533:=Aside0.mk (Kd.R_below (za5 HO533) hb);replace HO539:=Aside0.mk (Kd.R_below (za5 HO539) hb);have BK541:=Aside0.mk hbox;have GW541:=zH (w:=w) hg (za1 HB GE535);have GE541:=GW541;replace HB:=Aside0.mk (qab (za1 HB GE535) hb);have NB535_541:=zL BK535 hg;have NB541_535:=zG BK535 hg;replace BK535:=Aside0.mk (qaa (zB BK535) hb);clear hb hbox hg;have hnb18:=NB541_535.out;have hnc18:=NB535_541.out;obtain⟨hcz19_0,hcz19_1,hfz19_0,hfz19_1⟩:=zC2 BK541;obtain⟨Ao20,co20,eo20⟩:=Kd.R_slice HO539.out;subst eo20))
    (try simp only[Act.put,List.setIfInBounds_toArray,List.set_cons_zero,List.set_cons_succ])
    go_cut [56] (fun v56 wc=>∃(kq:Nat) (x56_8:Bool),v56=.bool x56_8∧Aside0 (laws_FnStockOf.j1 kq l1 t526 t527 t534 t540 x56_8 t530 t531 t536 t537=some r)∧Aside0 (kq≤kj2)∧Aside0 (Kd.N k32 32 wc w.heap.size (fun k_=>some k_≠((.slice Ao15 t531.length co15):Value).ownBlock∧some k_≠((.slice Ao20 t537.length co20):Value).ownBlock∧k_≠gb535∧k_≠gb541) (.slice Ao11 t527.length co11) t527)∧Aside0 (Kd.R k49 49 wc w.heap.size (fun k_=>some k_≠((.slice Ao20 t537.length co20):Value).ownBlock) (.slice Ao15 t531.length co15) t531)∧Aside0 (Kd.R k49 49 wc w.heap.size (fun k_=>some k_≠((.slice Ao15 t531.length co15):Value).ownBlock) (.slice Ao20 t537.length co20) t537)∧Aside0 (wc.heap[gb535]?=some (.cells #[.int .i64 t530,(.slice Ao15 t531.length co15)] 38 (0,0)))∧Aside0 (wc.heap[gb541]?=some (.cells #[.int .i64 t536,(.slice Ao20 t537.length co20)] 38 (0,0)))∧Aside0 (Below w.heap.size w wc))
    case first=>
     have H:=HC9.out
     clear HC9
     by_cases c21:(t540 != t534)=true
     ·rw[if_pos c21] at H
      have c21b0:(t540 != t534)=true:=c21
      (try(have c21b1:decide (t540=t534)=false:=by simpa using c21))
      (try(have c21b2:(t540 == t534)=false:=by simpa using c21))
      (try(have c21b3:¬(t540=t534):=by simpa using c21))
      clear c21
      (first|rw[c21b0]|(simp only[qaf,qag];rw[c21b0])|skip)
      have H':=Aside0.mk H
      clear H
      go_wp2
      go_meet
      case rel=>exact⟨_,(true),(za43),H',⟨za60 HJ2⟩,⟨by(with_reducible repeat(first|apply Kd.N_alloc|apply Kd.N_drewN|apply Kd.N_drew));exact Kd.N_mono (Kd.N_far (p:=⟨gb541,1,none⟩) (Kd.N_far (p:=⟨gb541,0,none⟩) (Kd.N_mono HO529.out (fun k_ hk=>(⟨hk,hk.2⟩:_∧k_≠gb541))) (fun _ hk=>hk.2) (.int .i64 t536)) (fun _ hk=>hk.2) (.slice Ao20 t537.length co20)) (fun _ hk=>⟨hk.1.1.1.1.2,⟨hk.1.1.2,⟨hk.1.1.1.2,hk.1.2⟩⟩⟩)⟩,⟨by(with_reducible repeat(first|apply Kd.R_alloc|apply Kd.R_drewN|apply Kd.R_drew));exact Kd.R_mono (Kd.R_far (p:=⟨gb541,1,none⟩) (Kd.R_far (p:=⟨gb541,0,none⟩) (Kd.R_types HO533.out BK541.out (by decide)) (fun _ hk=>hk.2) (.int .i64 t536)) (fun _ hk=>hk.2) (.slice Ao20 t537.length co20)) (fun _ hk=>hk.1.2)⟩,⟨by(with_reducible repeat(first|apply Kd.R_alloc|apply Kd.R_drewN|apply Kd.R_drew));exact Kd.R_mono (Kd.R_far (p:=⟨gb541,1,none⟩) (Kd.R_far (p:=⟨gb541,0,none⟩) (Kd.R_types HO539.out BK541.out (by decide)) (fun _ hk=>hk.2) (.int .i64 t536)) (fun _ hk=>hk.2) (.slice Ao20 t537.length co20)) (fun _ hk=>hk.1.2)⟩,⟨za0 NB535_541 BK535⟩,⟨by(with_reducible repeat(first|refine blk_drewN ?_ _|refine blk_drew ?_|refine blk_alloc ?_ _));refine qad (cs:=#[.int .i64 t536,.slice none 0 0]) ?_ 1 _ rfl;(with_reducible repeat(first|refine blk_drewN ?_ _|refine blk_drew ?_|refine blk_alloc ?_ _));refine qad (cs:=#[.int .i64 0,.slice none 0 0]) ?_ 0 _ rfl;(with_reducible repeat(first|refine blk_drewN ?_ _|refine blk_drew ?_|refine blk_alloc ?_ _));exact BK541.out⟩,⟨za2 HB GE535 GE541⟩⟩
     ·rw[if_neg c21] at H
      have c21b0:(t540 != t534)=false:=by simpa using c21
      (try(have c21b1:decide (t540=t534)=true:=by simpa using c21))
      (try(have c21b2:(t540 == t534)=true:=by simpa using c21))
      clear c21
      (first|rw[c21b0]|(simp only[qaf,qag];rw[c21b0])|skip)
      replace H:=Option.bind_eq_some_iff.mp H
      obtain⟨t542,A220,H⟩:=H
      replace H:(if t542=true then(if t526<0 then(laws_FnStockOf.j1 kj2 l1 t526 t527 t534 t540 true t530 t531 t536 t537) else(laws_FnStockOf.j1 kj2 l1 t526 t527 t534 t540 (decide (t526>9)) t530 t531 t536 t537)) else(laws_FnStockOf.j1 kj2 l1 t526 t527 t534 t540 true t530 t531 t536 t537))=some r:=H
      have A22:=Aside0.mk A220
      clear A220
      by_cases c23:t542=true
      ·subst c23
       have H1:(if t526<0 then(laws_FnStockOf.j1 kj2 l1 t526 t527 t534 t540 true t530 t531 t536 t537) else(laws_FnStockOf.j1 kj2 l1 t526 t527 t534 t540 (decide (t526>9)) t530 t531 t536 t537))=some r:=by rw[if_pos rfl] at H;exact H
       clear H
       have H:=H1
       clear H1
       by_cases c24:t526<0
       ·rw[if_pos c24] at H
        have c24b0:decide (t526<0)=true:=decide_eq_true c24
        clear c24
        have H':=Aside0.mk H
        clear H
        have hnb25:=NB541_535.out
        have hnc25:=NB535_541.out
        obtain⟨hcz26_0,hcz26_1,hfz26_0,hfz26_1⟩:=zC2 BK541
        obtain⟨hcz27_0,hcz27_1,hfz27_0,hfz27_1⟩:=zC2 BK535
        go_wp2_with(first|(go_at_call 23;(with_reducible refine(laws_lnStock.calls kj2 t536 _ _ t537 t530 _ _ t531 true _ ?side1 ?side2 ?side3 ?side4 A22.out).mono ?_);(case side1=>refine(Kd.R_reads' (e:=49) (base:=w.heap.size) (ok:=fun k_=>(True∧some k_≠(.slice Ao15 t531.length co15:Value).ownBlock)) (n:=t537.length) (c:=co20) ?_).2.2;exact(by(with_reducible repeat(first|apply Kd.R_alloc|apply Kd.R_drewN|apply Kd.R_drew));exact(Kd.R_mono (Kd.R_far (p:=⟨gb541,1,none⟩) (Kd.R_far (p:=⟨gb541,0,none⟩) (Kd.R_types HO539.out BK541.out (by decide)) (fun _ hk=>hk.2) (.int .i64 t536)) (fun _ hk=>hk.2) (.slice Ao20 t537.length co20)) (fun _ h_=>h_.1))));(case side2=>exact(Kd.R_reads' HO539.out).2.1);(case side3=>refine(Kd.R_reads' (e:=49) (base:=w.heap.size) (ok:=fun k_=>(True∧some k_≠(.slice Ao20 t537.length co20:Value).ownBlock)) (n:=t531.length) (c:=co15) ?_).2.2;exact(by(with_reducible repeat(first|apply Kd.R_alloc|apply Kd.R_drewN|apply Kd.R_drew));exact(Kd.R_mono (Kd.R_far (p:=⟨gb541,1,none⟩) (Kd.R_far (p:=⟨gb541,0,none⟩) (Kd.R_types HO533.out BK541.out (by decide)) (fun _ hk=>hk.2) (.int .i64 t536)) (fun _ hk=>hk.2) (.slice Ao20 t537.length co20)) (fun _ h_=>h_.1))));(case side4=>exact(Kd.R_reads' HO533.out).2.1);rintro e w28 ⟨rfl,hb⟩;replace HO529:=Aside0.mk (Kd.N_below (by(with_reducible repeat(first|apply Kd.N_alloc|apply Kd.N_drewN|apply Kd.N_drew));exact(Kd.N_mono (Kd.N_far (p:=⟨gb541,1,none⟩) (Kd.N_far (p:=⟨gb541,0,none⟩) (Kd.N_mono HO529.out (fun k_ hk=>(⟨hk,hk.2⟩:_∧k_≠gb541))) (fun _ hk=>hk.2) (.int .i64 t536)) (fun _ hk=>hk.2) (.slice Ao20 t537.length co20)) (fun _ h_=>h_.1))) hb);replace HO533:=Aside0.mk (Kd.R_below (by(with_reducible repeat(first|apply Kd.R_alloc|apply Kd.R_drewN|apply Kd.R_drew));exact(Kd.R_mono (Kd.R_far (p:=⟨gb541,1,none⟩) (Kd.R_far (p:=⟨gb541,0,none⟩) (Kd.R_types HO533.out BK541.out (by decide)) (fun _ hk=>hk.2) (.int .i64 t536)) (fun _ hk=>hk.2) (.slice Ao20 t537.length co20)) (fun _ h_=>h_.1))) hb);replace HO539:=Aside0.mk (Kd.R_below (by(with_reducible repeat(first|apply Kd.R_alloc|apply Kd.R_drewN|apply Kd.R_drew));exact(Kd.R_mono (Kd.R_far (p:=⟨gb541,1,none⟩) (Kd.R_far (p:=⟨gb541,0,none⟩) (Kd.R_types HO539.out BK541.out (by decide)) (fun _ hk=>hk.2) (.int .i64 t536)) (fun _ hk=>hk.2) (.slice Ao20 t537.length co20)) (fun _ h_=>h_.1))) hb);replace BK535:=Aside0.mk (qaa (g:=gb535) (o:=.cells #[.int .i64 t530,.slice Ao15 t531.length co15] 38 (0,0)) (za0 NB535_541 BK535) hb);replace BK541:=Aside0.mk (qaa (g:=gb541) (o:=.cells #[.int .i64 t536,.slice Ao20 t537.length co20] 38 (0,0)) (by(with_reducible repeat(first|refine blk_drewN ?_ _|refine blk_drew ?_|refine blk_alloc ?_ _));refine qad (cs:=#[.int .i64 t536,.slice none 0 0]) ?_ 1 _ rfl;(with_reducible repeat(first|refine blk_drewN ?_ _|refine blk_drew ?_|refine blk_alloc ?_ _));refine qad (cs:=#[.int .i64 0,.slice none 0 0]) ?_ 0 _ rfl;(with_reducible repeat(first|refine blk_drewN ?_ _|refine blk_drew ?_|refine blk_alloc ?_ _));exact BK541.out) hb);replace HB:=Aside0.mk (qab (za2 HB GE535 GE541) hb);(try clear hb)))
        go_meet
        case rel=>exact⟨_,(true),(za43),H',⟨za60 HJ2⟩,⟨by(with_reducible repeat(first|apply Kd.N_alloc|apply Kd.N_drewN|apply Kd.N_drew));exact Kd.N_mono HO529.out (fun _ hk=>⟨hk.1.1.1.2,⟨hk.1.2,⟨hk.1.1.2,hk.2⟩⟩⟩)⟩,⟨by(with_reducible repeat(first|apply Kd.R_alloc|apply Kd.R_drewN|apply Kd.R_drew));exact Kd.R_mono HO533.out (fun _ hk=>hk.2)⟩,⟨by(with_reducible repeat(first|apply Kd.R_alloc|apply Kd.R_drewN|apply Kd.R_drew));exact Kd.R_mono HO539.out (fun _ hk=>hk.2)⟩,⟨za24 BK535⟩,⟨za24 BK541⟩,⟨za2 HB GE535 GE541⟩⟩
       ·rw[if_neg c24] at H
        have c24b0:decide (t526<0)=false:=decide_eq_false c24
        clear c24
        have H':=Aside0.mk H
        clear H
        have hnb29:=NB541_535.out
        have hnc29:=NB535_541.out
        obtain⟨hcz30_0,hcz30_1,hfz30_0,hfz30_1⟩:=zC2 BK541
        obtain⟨hcz31_0,hcz31_1,hfz31_0,hfz31_1⟩:=zC2 BK535
        go_wp2_with(first|(go_at_call 23;(with_reducible refine(laws_lnStock.calls kj2 t536 _ _ t537 t530 _ _ t531 true _ ?side1 ?side2 ?side3 ?side4 A22.out).mono ?_);(case side1=>refine(Kd.R_reads' (e:=49) (base:=w.heap.size) (ok:=fun k_=>(True∧some k_≠(.slice Ao15 t531.length co15:Value).ownBlock)) (n:=t537.length) (c:=co20) ?_).2.2;exact(by(with_reducible repeat(first|apply Kd.R_alloc|apply Kd.R_drewN|apply Kd.R_drew));exact(Kd.R_mono (Kd.R_far (p:=⟨gb541,1,none⟩) (Kd.R_far (p:=⟨gb541,0,none⟩) (Kd.R_types HO539.out BK541.out (by decide)) (fun _ hk=>hk.2) (.int .i64 t536)) (fun _ hk=>hk.2) (.slice Ao20 t537.length co20)) (fun _ h_=>h_.1))));(case side2=>exact(Kd.R_reads' HO539.out).2.1);(case side3=>refine(Kd.R_reads' (e:=49) (base:=w.heap.size) (ok:=fun k_=>(True∧some k_≠(.slice Ao20 t537.length co20:Value).ownBlock)) (n:=t531.length) (c:=co15) ?_).2.2;exact(by(with_reducible repeat(first|apply Kd.R_alloc|apply Kd.R_drewN|apply Kd.R_drew));exact(Kd.R_mono (Kd.R_far (p:=⟨gb541,1,none⟩) (Kd.R_far (p:=⟨gb541,0,none⟩) (Kd.R_types HO533.out BK541.out (by decide)) (fun _ hk=>hk.2) (.int .i64 t536)) (fun _ hk=>hk.2) (.slice Ao20 t537.length co20)) (fun _ h_=>h_.1))));(case side4=>exact(Kd.R_reads' HO533.out).2.1);rintro e w32 ⟨rfl,hb⟩;replace HO529:=Aside0.mk (Kd.N_below (by(with_reducible repeat(first|apply Kd.N_alloc|apply Kd.N_drewN|apply Kd.N_drew));exact(Kd.N_mono (Kd.N_far (p:=⟨gb541,1,none⟩) (Kd.N_far (p:=⟨gb541,0,none⟩) (Kd.N_mono HO529.out (fun k_ hk=>(⟨hk,hk.2⟩:_∧k_≠gb541))) (fun _ hk=>hk.2) (.int .i64 t536)) (fun _ hk=>hk.2) (.slice Ao20 t537.length co20)) (fun _ h_=>h_.1))) hb);replace HO533:=Aside0.mk (Kd.R_below (by(with_reducible repeat(first|apply Kd.R_alloc|apply Kd.R_drewN|apply Kd.R_drew));exact(Kd.R_mono (Kd.R_far (p:=⟨gb541,1,none⟩) (Kd.R_far (p:=⟨gb541,0,none⟩) (Kd.R_types HO533.out BK541.out (by decide)) (fun _ hk=>hk.2) (.int .i64 t536)) (fun _ hk=>hk.2) (.slice Ao20 t537.length co20)) (fun _ h_=>h_.1))) hb);replace HO539:=Aside0.mk (Kd.R_below (by(with_reducible repeat(first|apply Kd.R_alloc|apply Kd.R_drewN|apply Kd.R_drew));exact(Kd.R_mono (Kd.R_far (p:=⟨gb541,1,none⟩) (Kd.R_far (p:=⟨gb541,0,none⟩) (Kd.R_types HO539.out BK541.out (by decide)) (fun _ hk=>hk.2) (.int .i64 t536)) (fun _ hk=>hk.2) (.slice Ao20 t537.length co20)) (fun _ h_=>h_.1))) hb);replace BK535:=Aside0.mk (qaa (g:=gb535) (o:=.cells #[.int .i64 t530,.slice Ao15 t531.length co15] 38 (0,0)) (za0 NB535_541 BK535) hb);replace BK541:=Aside0.mk (qaa (g:=gb541) (o:=.cells #[.int .i64 t536,.slice Ao20 t537.length co20] 38 (0,0)) (by(with_reducible repeat(first|refine blk_drewN ?_ _|refine blk_drew ?_|refine blk_alloc ?_ _));refine qad (cs:=#[.int .i64 t536,.slice none 0 0]) ?_ 1 _ rfl;(with_reducible repeat(first|refine blk_drewN ?_ _|refine blk_drew ?_|refine blk_alloc ?_ _));refine qad (cs:=#[.int .i64 0,.slice none 0 0]) ?_ 0 _ rfl;(with_reducible repeat(first|refine blk_drewN ?_ _|refine blk_drew ?_|refine blk_alloc ?_ _));exact BK541.out) hb);replace HB:=Aside0.mk (qab (za2 HB GE535 GE541) hb);(try clear hb)))
        go_meet
        case rel=>exact⟨_,(decide (t526>9)),(za43),H',⟨za60 HJ2⟩,⟨by(with_reducible repeat(first|apply Kd.N_alloc|apply Kd.N_drewN|apply Kd.N_drew));exact Kd.N_mono HO529.out (fun _ hk=>⟨hk.1.1.1.2,⟨hk.1.2,⟨hk.1.1.2,hk.2⟩⟩⟩)⟩,⟨by(with_reducible repeat(first|apply Kd.R_alloc|apply Kd.R_drewN|apply Kd.R_drew));exact Kd.R_mono HO533.out (fun _ hk=>hk.2)⟩,⟨by(with_reducible repeat(first|apply Kd.R_alloc|apply Kd.R_drewN|apply Kd.R_drew));exact Kd.R_mono HO539.out (fun _ hk=>hk.2)⟩,⟨za24 BK535⟩,⟨za24 BK541⟩,⟨za2 HB GE535 GE541⟩⟩
      ·replace c23:=Bool.eq_false_iff.mpr c23
       subst c23
       have H1:(laws_FnStockOf.j1 kj2 l1 t526 t527 t534 t540 true t530 t531 t536 t537)=some r:=by rw[if_neg (show ¬(false=true) by decide)] at H;exact H
       clear H
       have H:=H1
       clear H1
       have H':=Aside0.mk H
       clear H
       have hnb33:=NB541_535.out
       have hnc33:=NB535_541.out
       obtain⟨hcz34_0,hcz34_1,hfz34_0,hfz34_1⟩:=zC2 BK541
       obtain⟨hcz35_0,hcz35_1,hfz35_0,hfz35_1⟩:=zC2 BK535
       go_wp2_with(first|(go_at_call 23;(with_reducible refine(laws_lnStock.calls kj2 t536 _ _ t537 t530 _ _ t531 false _ ?side1 ?side2 ?side3 ?side4 A22.out).mono ?_);(case side1=>refine(Kd.R_reads' (e:=49) (base:=w.heap.size) (ok:=fun k_=>(True∧some k_≠(.slice Ao15 t531.length co15:Value).ownBlock)) (n:=t537.length) (c:=co20) ?_).2.2;exact(by(with_reducible repeat(first|apply Kd.R_alloc|apply Kd.R_drewN|apply Kd.R_drew));exact(Kd.R_mono (Kd.R_far (p:=⟨gb541,1,none⟩) (Kd.R_far (p:=⟨gb541,0,none⟩) (Kd.R_types HO539.out BK541.out (by decide)) (fun _ hk=>hk.2) (.int .i64 t536)) (fun _ hk=>hk.2) (.slice Ao20 t537.length co20)) (fun _ h_=>h_.1))));(case side2=>exact(Kd.R_reads' HO539.out).2.1);(case side3=>refine(Kd.R_reads' (e:=49) (base:=w.heap.size) (ok:=fun k_=>(True∧some k_≠(.slice Ao20 t537.length co20:Value).ownBlock)) (n:=t531.length) (c:=co15) ?_).2.2;exact(by(with_reducible repeat(first|apply Kd.R_alloc|apply Kd.R_drewN|apply Kd.R_drew));exact(Kd.R_mono (Kd.R_far (p:=⟨gb541,1,none⟩) (Kd.R_far (p:=⟨gb541,0,none⟩) (Kd.R_types HO533.out BK541.out (by decide)) (fun _ hk=>hk.2) (.int .i64 t536)) (fun _ hk=>hk.2) (.slice Ao20 t537.length co20)) (fun _ h_=>h_.1))));(case side4=>exact(Kd.R_reads' HO533.out).2.1);rintro e w36 ⟨rfl,hb⟩;replace HO529:=Aside0.mk (Kd.N_below (by(with_reducible repeat(first|apply Kd.N_alloc|apply Kd.N_drewN|apply Kd.N_drew));exact(Kd.N_mono (Kd.N_far (p:=⟨gb541,1,none⟩) (Kd.N_far (p:=⟨gb541,0,none⟩) (Kd.N_mono HO529.out (fun k_ hk=>(⟨hk,hk.2⟩:_∧k_≠gb541))) (fun _ hk=>hk.2) (.int .i64 t536)) (fun _ hk=>hk.2) (.slice Ao20 t537.length co20)) (fun _ h_=>h_.1))) hb);replace HO533:=Aside0.mk (Kd.R_below (by(with_reducible repeat(first|apply Kd.R_alloc|apply Kd.R_drewN|apply Kd.R_drew));exact(Kd.R_mono (Kd.R_far (p:=⟨gb541,1,none⟩) (Kd.R_far (p:=⟨gb541,0,none⟩) (Kd.R_types HO533.out BK541.out (by decide)) (fun _ hk=>hk.2) (.int .i64 t536)) (fun _ hk=>hk.2) (.slice Ao20 t537.length co20)) (fun _ h_=>h_.1))) hb);replace HO539:=Aside0.mk (Kd.R_below (by(with_reducible repeat(first|apply Kd.R_alloc|apply Kd.R_drewN|apply Kd.R_drew));exact(Kd.R_mono (Kd.R_far (p:=⟨gb541,1,none⟩) (Kd.R_far (p:=⟨gb541,0,none⟩) (Kd.R_types HO539.out BK541.out (by decide)) (fun _ hk=>hk.2) (.int .i64 t536)) (fun _ hk=>hk.2) (.slice Ao20 t537.length co20)) (fun _ h_=>h_.1))) hb);replace BK535:=Aside0.mk (qaa (g:=gb535) (o:=.cells #[.int .i64 t530,.slice Ao15 t531.length co15] 38 (0,0)) (za0 NB535_541 BK535) hb);replace BK541:=Aside0.mk (qaa (g:=gb541) (o:=.cells #[.int .i64 t536,.slice Ao20 t537.length co20] 38 (0,0)) (by(with_reducible repeat(first|refine blk_drewN ?_ _|refine blk_drew ?_|refine blk_alloc ?_ _));refine qad (cs:=#[.int .i64 t536,.slice none 0 0]) ?_ 1 _ rfl;(with_reducible repeat(first|refine blk_drewN ?_ _|refine blk_drew ?_|refine blk_alloc ?_ _));refine qad (cs:=#[.int .i64 0,.slice none 0 0]) ?_ 0 _ rfl;(with_reducible repeat(first|refine blk_drewN ?_ _|refine blk_drew ?_|refine blk_alloc ?_ _));exact BK541.out) hb);replace HB:=Aside0.mk (qab (za2 HB GE535 GE541) hb);(try clear hb)))
       go_meet
       case rel=>exact⟨_,(true),(za43),H',⟨za60 HJ2⟩,⟨by(with_reducible repeat(first|apply Kd.N_alloc|apply Kd.N_drewN|apply Kd.N_drew));exact Kd.N_mono HO529.out (fun _ hk=>⟨hk.1.1.1.2,⟨hk.1.2,⟨hk.1.1.2,hk.2⟩⟩⟩)⟩,⟨by(with_reducible repeat(first|apply Kd.R_alloc|apply Kd.R_drewN|apply Kd.R_drew));exact Kd.R_mono HO533.out (fun _ hk=>hk.2)⟩,⟨by(with_reducible repeat(first|apply Kd.R_alloc|apply Kd.R_drewN|apply Kd.R_drew));exact Kd.R_mono HO539.out (fun _ hk=>hk.2)⟩,⟨za24 BK535⟩,⟨za24 BK541⟩,⟨za2 HB GE535 GE541⟩⟩
    case rest=>
     clear HC9
     try clear c1
     try clear c2
     try clear p2
     try clear c3
     try clear c4
     try clear c4b0
     try clear c4b1
     try clear c5
     try clear c18
     try clear c20
     try clear c21
     try clear c21b0
     try clear c21b1
     try clear c21b2
     try clear c22
     try clear c23
     try clear c24
     try clear c24b0
     try clear c25
     try clear c29
     try clear c33
     try clear hcz14_0
     try clear hcz14_1
     try clear hcz19_0
     try clear hcz19_1
     try clear hcz26_0
     try clear hcz26_1
     try clear hcz27_0
     try clear hcz27_1
     try clear hcz30_0
     try clear hcz30_1
     try clear hcz31_0
     try clear hcz31_1
     try clear hcz34_0
     try clear hcz34_1
     try clear hcz35_0
     try clear hcz35_1
     try clear hfz14_0
     try clear hfz14_1
     try clear hfz19_0
     try clear hfz19_1
     try clear hfz26_0
     try clear hfz26_1
     try clear hfz27_0
     try clear hfz27_1
     try clear hfz30_0
     try clear hfz30_1
     try clear hfz31_0
     try clear hfz31_1
     try clear hfz34_0
     try clear hfz34_1
     try clear hfz35_0
     try clear hfz35_1
     try clear p2
     obtain⟨kq,x56_8,rfl,HA,HJ8,HO_6,HO_536001,HO_542001,BK535,BK541,HB⟩:=hcut
     cases kq with
     |zero=>exact absurd HA.out (by simp[laws_FnStockOf.j1])
     |succ kj8=>
      have H:=HA.out
      clear HA
      simp only[laws_FnStockOf.j1] at H
      by_cases c37:x56_8=true
      ·subst c37
       have H1:(if(t540 == t534)=true then((laws_lnStock.f kj8 t536 t537 t530 t531).bind fun t543=>(some t543)) else(some false))=some r:=by rw[if_pos rfl] at H;exact H
       clear H
       have H:=H1
       clear H1
       by_cases c38:(t540 == t534)=true
       ·rw[if_pos c38] at H
        have c38b0:(t540 == t534)=true:=c38
        (try(have c38b1:decide (t540=t534)=true:=by simpa using c38))
        (try(have c38b2:(t540 == t534)=true:=by simpa using c38))
        clear c38
        replace H:=Option.bind_eq_some_iff.mp H
        obtain⟨t543,A390,H⟩:=H
        replace H:(some t543)=some r:=H
        have A39:=Aside0.mk A390
        clear A390
        obtain rfl:=Option.some.inj H
        have hnb40:=NB541_535.out
        have hnc40:=NB535_541.out
        obtain⟨hcz41_0,hcz41_1,hfz41_0,hfz41_1⟩:=zC2 BK541
        obtain⟨hcz42_0,hcz42_1,hfz42_0,hfz42_1⟩:=zC2 BK535
        go_wp2_with(first|(go_at_call 23;(with_reducible refine(laws_lnStock.calls kj8 t536 _ _ t537 t530 _ _ t531 t543 _ ?side1 ?side2 ?side3 ?side4 A39.out).mono ?_);(case side1=>repeat(first|exact(Kd.R_reads' HO_542001.out).2.2|(with_reducible refine Kd.C_alloc ?_ _)|(with_reducible refine Kd.C_drewN ?_ _)|(with_reducible refine Kd.C_drew ?_)));(case side2=>exact(Kd.R_reads' HO_542001.out).2.1);(case side3=>repeat(first|exact(Kd.R_reads' HO_536001.out).2.2|(with_reducible refine Kd.C_alloc ?_ _)|(with_reducible refine Kd.C_drewN ?_ _)|(with_reducible refine Kd.C_drew ?_)));(case side4=>exact(Kd.R_reads' HO_536001.out).2.1);rintro e w43 ⟨rfl,hb⟩;replace HO_6:=Aside0.mk (Kd.N_below (za36 HO_6) hb);replace HO_536001:=Aside0.mk (Kd.R_below (za5 HO_536001) hb);replace HO_542001:=Aside0.mk (Kd.R_below (za5 HO_542001) hb);replace BK535:=Aside0.mk (qaa (zB BK535) hb);replace BK541:=Aside0.mk (qaa (zB BK541) hb);replace HB:=Aside0.mk (qab (za2 HB GE535 GE541) hb);(try clear hb)))
        go_ret
        exact⟨za16,za2 HB GE535 GE541⟩
       ·rw[if_neg c38] at H
        have c38b0:(t540 == t534)=false:=by simpa using c38
        (try(have c38b1:decide (t540=t534)=false:=by simpa using c38))
        (try(have c38b2:(t540 == t534)=false:=by simpa using c38))
        (try(have c38b3:¬(t540=t534):=by simpa using c38))
        clear c38
        obtain rfl:=Option.some.inj H
        go_wp2
        go_ret
        exact⟨za16,za2 HB GE535 GE541⟩
      ·replace c37:=Bool.eq_false_iff.mpr c37
       subst c37
       have H1:(if(wrap64 ((t527.length:Int)+1))=0 then(none) else(if 0≤((l1.length:Int)%(wrap64 ((t527.length:Int)+1))) then(if((l1.length:Int)%(wrap64 ((t527.length:Int)+1)))≤(t527.length:Int) then((impl_StockOf.f kj8 t526 (t527.take (((l1.length:Int)%(wrap64 ((t527.length:Int)+1))):Int).toNat)).bind fun bt549=>(laws_FnStockOf.l0 kj8 t527 t540 bt549.2.2 ((l1.length:Int)%(wrap64 ((t527.length:Int)+1))) t536 t537 bt549.1 bt549.2.1)) else(none)) else(none)))=some r:=by rw[if_neg (show ¬(false=true) by decide)] at H;exact H
       clear H
       have H:=H1
       clear H1
       by_cases c44:(wrap64 ((t527.length:Int)+1))=0
       ·rw[if_pos c44] at H
        exact absurd H (by simp)
       ·rw[if_neg c44] at H
        have c44b0:((wrap64 ((t527.length:Int)+1)) == 0)=false:=beq_eq_false_iff_ne.mpr c44
        have c44b1:((wrap64 ((t527.length:Int)+1)) != 0)=true:=bne_iff_ne.mpr c44
        obtain⟨ji45,hji45⟩:∃j_:Int,((l1.length:Int)%(wrap64 ((t527.length:Int)+1)))=j_:=⟨_,rfl⟩
        replace H:(if 0≤(ji45) then(if(ji45)≤(t527.length:Int) then((impl_StockOf.f kj8 t526 (t527.take ((ji45):Int).toNat)).bind fun bt549=>(laws_FnStockOf.l0 kj8 t527 t540 bt549.2.2 ji45 t536 t537 bt549.1 bt549.2.1)) else(none)) else(none))=some r:=by first|(rw[hji45] at H;exact H)|(simp only[hji45] at H ⊢;exact H)
        by_cases c46:0≤(ji45)
        ·rw[if_pos c46] at H
         have c46b0:=eq_true c46
         have c46b1:decide (0≤(ji45))=true:=decide_eq_true c46
         clear c46
         by_cases c47:(ji45)≤(t527.length:Int)
         ·rw[if_pos c47] at H
          have c47b0:=eq_true c47
          have c47b1:decide ((ji45)≤(t527.length:Int))=true:=decide_eq_true c47
          clear c47
          obtain⟨y544,hy544⟩:∃y_:List (S32),y_=(t527.take ((ji45):Int).toNat):=⟨_,rfl⟩
          replace H:((impl_StockOf.f kj8 t526 y544).bind fun bt549=>(laws_FnStockOf.l0 kj8 t527 t540 bt549.2.2 ji45 t536 t537 bt549.1 bt549.2.1))=some r:=by first|(rw[hy544];with_reducible exact H)|(have H2_:=(Option.bind_some _ _).symm.trans H;rw[hy544];with_reducible exact H2_)|(have H2_:=(Option.bind_some _ _).symm.trans H;with_reducible exact H2_)|with_reducible exact H|(rw[hy544];exact H)|exact H
          have Ny544:=Aside0.mk hy544
          clear hy544
          replace H:=Option.bind_eq_some_iff.mp H
          obtain⟨⟨t549,t550,t553⟩,A480,H⟩:=H
          replace H:(laws_FnStockOf.l0 kj8 t527 t540 t553 ji45 t536 t537 t549 t550)=some r:=H
          have A48:=Aside0.mk A480
          clear A480
          have H':=Aside0.mk H
          clear H
          have q49:((ji45):Int)≤((t527.length:Int):Int):=of_decide_eq_true (za9)
          obtain⟨i049,hi049,_,hsz49,_⟩:=info_parts info32
          have hroom49:t527.length≤co11:=(Kd.N_reads' HO_6.out).2.1
          have hC49:Kd.F k32 _ _ Ao11 t527.length t527:=(Kd.V_at (base:=w.heap.size) (Kd.N_V HO_6.out)).2.2
          have hcut49:=cut_to (P:=Try.prog) 23 32 .i64 Try.underlying23 hi049 Ao11 t527.length co11 (ji45) (of_decide_eq_true (za9)) q49 hroom49
          have hr49:=Kd.F_take (m:=((ji45):Int).toNat) hC49 (by omega)
          have hy49:y544.length=((ji45):Int).toNat:=(by rw[Ny544.out,List.length_take];omega)
          rw[←Ny544.out] at hr49
          rw[←hy49] at hcut49
          have HO548:=Aside0.mk (show Kd.V k32 32 _ w.heap.size _ (.slice Ao11 y544.length co11) y544 from Kd.V_mk (by omega) hr49)
          have HC548:=Aside0.mk (show y544.length≤co11 from by omega)
          clear hr49 hC49 hroom49 hi049 hsz49
          have KY49:=Aside0.mk hy49
          clear hy49
          replace q49:=eq_true q49
          go_wp2_with(first|((with_reducible refine qac (f:=22) rfl ?_);refine zF (some 76) Try.func22 #[.int .i64 t526,.slice Ao11 y544.length co11] ?_;(with_reducible refine(impl_StockOf.calls kj8 t526 _ _ y544 t549 t550 t553 _ ?side1 ?side2 A48.out).mono ?_);(case side1=>repeat(first|exact(Kd.V_reads' HO548.out).2.2|(with_reducible refine Kd.C_alloc ?_ _)|(with_reducible refine Kd.C_drewN ?_ _)|(with_reducible refine Kd.C_drew ?_)));(case side2=>exact(Kd.V_reads' HO548.out).2.1);rintro e w50 ⟨v551,rfl,ho0,hb⟩;refine⟨_,rfl,?_⟩;replace HO_6:=Aside0.mk (Kd.N_elder' (za36 HO_6) (Kd.R_base ho0) hb);replace HO548:=Aside0.mk (Kd.V_elder' (za42 HO548) (Kd.R_base ho0) hb);have HO552:=Aside0.mk (Kd.R_lower (Kd.R_new' (Kd.R_new' ho0 (Kd.R_lt (za5 HO_536001))) (Kd.R_lt (za5 HO_542001))) (below_size (za2 HB GE535 GE541)));replace HO_536001:=Aside0.mk (Kd.R_elder' (za5 HO_536001) (Kd.R_base ho0) hb);replace HO_542001:=Aside0.mk (Kd.R_elder' (za5 HO_542001) (Kd.R_base ho0) hb);replace BK535:=Aside0.mk (qaa (zB BK535) hb);replace BK541:=Aside0.mk (qaa (zB BK541) hb);replace HB:=Aside0.mk (qab (za2 HB GE535 GE541) hb);(try clear hb);(try clear ho0))|((with_reducible refine qae (N:=12) rfl ?_);(try(refine gate_guard (by rfl) ?_;dsimp only));refine zX (N:=12) (cs:=#[.int .i64 0,.slice none 0 0]) (t:=38) ?_;intro gb554 hg w51 hbox hb;replace HO_6:=Aside0.mk (Kd.N_below (Kd.N_elderB (za36 HO_6) gb554 (Nat.le_of_eq hg.symm)) hb);replace HO_536001:=Aside0.mk (Kd.R_below (za5 HO_536001) hb);replace HO_542001:=Aside0.mk (Kd.R_below (za5 HO_542001) hb);replace HO548:=Aside0.mk (Kd.V_below (Kd.V_elderB (za42 HO548) gb554 (Nat.le_of_eq hg.symm)) hb);replace HO552:=Aside0.mk (Kd.R_below (za5 HO552) hb);have BK554:=Aside0.mk hbox;have GW554:=zH (w:=w) hg (za2 HB GE535 GE541);have GE554:=GW554;replace HB:=Aside0.mk (qab (za2 HB GE535 GE541) hb);have NB535_554:=zL BK535 hg;have NB554_535:=zG BK535 hg;replace BK535:=Aside0.mk (qaa (zB BK535) hb);have NB541_554:=zL BK541 hg;have NB554_541:=zG BK541 hg;replace BK541:=Aside0.mk (qaa (zB BK541) hb);clear hb hbox hg;have hnb52:=NB554_535.out;have hnc52:=NB535_554.out;have hnb53:=NB554_541.out;have hnc53:=NB541_554.out;obtain⟨hcz54_0,hcz54_1,hfz54_0,hfz54_1⟩:=zC2 BK554;obtain⟨Ao55,co55,eo55⟩:=Kd.R_slice HO552.out;subst eo55))
          go_loopg [13,14] kj8 (fun kq v13 v14 w'=>∃(x13_3:Bool) (x14_3:Int) (x555000_3:Int) (x555001_3:List (S49)) (u555001:Value),v13=.bool x13_3∧v14=.int .i64 x14_3∧Aside0 (laws_FnStockOf.l0 kq t527 t540 x13_3 x14_3 t536 t537 x555000_3 x555001_3=some r)∧Aside0 (kq≤kj8)∧Aside0 (Kd.N k32 32 w' w.heap.size (fun k_=>some k_≠((.slice Ao15 t531.length co15):Value).ownBlock∧some k_≠((.slice Ao20 t537.length co20):Value).ownBlock∧some k_≠(u555001:Value).ownBlock∧k_≠gb535∧k_≠gb541∧k_≠gb554) (.slice Ao11 t527.length co11) t527)∧Aside0 (Kd.R k49 49 w' w.heap.size (fun k_=>some k_≠((.slice Ao20 t537.length co20):Value).ownBlock∧some k_≠(u555001:Value).ownBlock) (.slice Ao15 t531.length co15) t531)∧Aside0 (Kd.R k49 49 w' w.heap.size (fun k_=>some k_≠((.slice Ao15 t531.length co15):Value).ownBlock∧some k_≠(u555001:Value).ownBlock) (.slice Ao20 t537.length co20) t537)∧Aside0 (Kd.R k49 49 w' w.heap.size (fun k_=>some k_≠((.slice Ao15 t531.length co15):Value).ownBlock∧some k_≠((.slice Ao20 t537.length co20):Value).ownBlock) u555001 x555001_3)∧Aside0 (w'.heap[gb535]?=some (.cells #[.int .i64 t530,(.slice Ao15 t531.length co15)] 38 (0,0)))∧Aside0 (w'.heap[gb541]?=some (.cells #[.int .i64 t536,(.slice Ao20 t537.length co20)] 38 (0,0)))∧Aside0 (w'.heap[gb554]?=some (.cells #[.int .i64 x555000_3,u555001] 38 (0,0)))∧Aside0 (Below w.heap.size w w'))
          case atStart=>exact⟨(t553),(ji45),(t549),(t550),(.slice Ao55 t550.length co55),(za43),(by first|rfl|(simp;done)|(simp only[←hji45]<;>(first|rfl|simp))|(simp[*];done)),H',⟨Nat.le_refl _⟩,⟨by(with_reducible repeat(first|apply Kd.N_alloc|apply Kd.N_drewN|apply Kd.N_drew));exact Kd.N_mono (Kd.N_far (p:=⟨gb554,1,none⟩) (Kd.N_far (p:=⟨gb554,0,none⟩) (Kd.N_mono HO_6.out (fun k_ hk=>(⟨hk,hk.2⟩:_∧k_≠gb554))) (fun _ hk=>hk.2) (.int .i64 t549)) (fun _ hk=>hk.2) (.slice Ao55 t550.length co55)) (fun _ hk=>⟨hk.1.1.1.1,⟨hk.1.1.1.2.1,⟨hk.1.1.2,⟨hk.1.1.1.2.2.1,⟨hk.1.1.1.2.2.2,hk.1.2⟩⟩⟩⟩⟩)⟩,⟨by(with_reducible repeat(first|apply Kd.R_alloc|apply Kd.R_drewN|apply Kd.R_drew));exact Kd.R_mono (Kd.R_far (p:=⟨gb554,1,none⟩) (Kd.R_far (p:=⟨gb554,0,none⟩) (Kd.R_types HO_536001.out BK554.out (by decide)) (fun _ hk=>hk.2) (.int .i64 t549)) (fun _ hk=>hk.2) (.slice Ao55 t550.length co55)) (fun _ hk=>⟨hk.1.1,hk.1.2⟩)⟩,⟨by(with_reducible repeat(first|apply Kd.R_alloc|apply Kd.R_drewN|apply Kd.R_drew));exact Kd.R_mono (Kd.R_far (p:=⟨gb554,1,none⟩) (Kd.R_far (p:=⟨gb554,0,none⟩) (Kd.R_types HO_542001.out BK554.out (by decide)) (fun _ hk=>hk.2) (.int .i64 t549)) (fun _ hk=>hk.2) (.slice Ao55 t550.length co55)) (fun _ hk=>⟨hk.1.1,hk.1.2⟩)⟩,⟨by(with_reducible repeat(first|apply Kd.R_alloc|apply Kd.R_drewN|apply Kd.R_drew));exact Kd.R_mono (Kd.R_far (p:=⟨gb554,1,none⟩) (Kd.R_far (p:=⟨gb554,0,none⟩) (Kd.R_types HO552.out BK554.out (by decide)) (fun _ hk=>hk.2) (.int .i64 t549)) (fun _ hk=>hk.2) (.slice Ao55 t550.length co55)) (fun _ hk=>⟨hk.1.1.2,hk.1.2⟩)⟩,⟨za0 NB535_554 BK535⟩,⟨za0 NB541_554 BK541⟩,⟨by(with_reducible repeat(first|refine blk_drewN ?_ _|refine blk_drew ?_|refine blk_alloc ?_ _));refine qad (cs:=#[.int .i64 t549,.slice none 0 0]) ?_ 1 _ rfl;(with_reducible repeat(first|refine blk_drewN ?_ _|refine blk_drew ?_|refine blk_alloc ?_ _));refine qad (cs:=#[.int .i64 0,.slice none 0 0]) ?_ 0 _ rfl;(with_reducible repeat(first|refine blk_drewN ?_ _|refine blk_drew ?_|refine blk_alloc ?_ _));exact BK554.out⟩,⟨za6 HB GE535 GE541 GE554⟩⟩
          case round=>
           clear H'
           try clear c1
           try clear c2
           try clear p2
           try clear c3
           try clear c4
           try clear c4b0
           try clear c4b1
           try clear q4
           try clear c5
           try clear p6
           try clear c18
           try clear c20
           try clear c21
           try clear c21b0
           try clear c21b1
           try clear c21b2
           try clear c22
           try clear c23
           try clear c24
           try clear c24b0
           try clear c25
           try clear c29
           try clear c33
           try clear c37
           try clear c38
           try clear c38b0
           try clear c38b1
           try clear c38b2
           try clear c40
           try clear c44
           try clear c44b0
           try clear c44b1
           try clear c46
           try clear c46b0
           try clear c46b1
           try clear c47
           try clear c47b0
           try clear c47b1
           try clear q49
           try clear c52
           try clear c53
           try clear hcz14_0
           try clear hcz14_1
           try clear hcz19_0
           try clear hcz19_1
           try clear hcz26_0
           try clear hcz26_1
           try clear hcz27_0
           try clear hcz27_1
           try clear hcz30_0
           try clear hcz30_1
           try clear hcz31_0
           try clear hcz31_1
           try clear hcz34_0
           try clear hcz34_1
           try clear hcz35_0
           try clear hcz35_1
           try clear hcz41_0
           try clear hcz41_1
           try clear hcz42_0
           try clear hcz42_1
           try clear hcz54_0
           try clear hcz54_1
           try clear hfz14_0
           try clear hfz14_1
           try clear hfz19_0
           try clear hfz19_1
           try clear hfz26_0
           try clear hfz26_1
           try clear hfz27_0
           try clear hfz27_1
           try clear hfz30_0
           try clear hfz30_1
           try clear hfz31_0
           try clear hfz31_1
           try clear hfz34_0
           try clear hfz34_1
           try clear hfz35_0
           try clear hfz35_1
           try clear hfz41_0
           try clear hfz41_1
           try clear hfz42_0
           try clear hfz42_1
           try clear hfz54_0
           try clear hfz54_1
           try clear p2
           try clear q49
           obtain⟨x13_3,x14_3,x555000_3,x555001_3,u555001,rfl,rfl,HA,HK3,HO_6,HO_536001,HO_542001,HO_555001,BK535,BK541,BK554,HB⟩:=hrel
           cases gk with
           |zero=>exact absurd HA.out (by simp[laws_FnStockOf.l0])
           |succ k3=>
            have H:=HA.out
            clear HA
            simp only[laws_FnStockOf.l0] at H
            by_cases c56:x14_3<(t527.length:Int)
            ·rw[if_pos c56] at H
             have c56b0:decide (x14_3<(t527.length:Int))=true:=decide_eq_true c56
             clear c56
             by_cases c57:x13_3=true
             ·subst c57
              have H1:(if 0≤x14_3 then((impl_StockDo.f k3 x555000_3 x555001_3 ((rd_T32 t527 x14_3).f0) ((rd_T32 t527 x14_3).f1) ((rd_T32 t527 x14_3).f2)).bind fun bt556=>(laws_FnStockOf.l0 k3 t527 t540 bt556.2.2 (wrap64 (x14_3+1)) t536 t537 bt556.1 bt556.2.1)) else(none))=some r:=by rw[if_pos rfl] at H;exact H
              clear H
              have H:=H1
              clear H1
              by_cases c58:0≤x14_3
              ·rw[if_pos c58] at H
               have c58b0:decide (0≤x14_3)=true:=decide_eq_true c58
               clear c58
               replace H:=Option.bind_eq_some_iff.mp H
               obtain⟨⟨t556,t557,t560⟩,A590,H⟩:=H
               replace H:(laws_FnStockOf.l0 k3 t527 t540 t560 (wrap64 (x14_3+1)) t536 t537 t556 t557)=some r:=H
               have A59:=Aside0.mk A590
               clear A590
               have H':=Aside0.mk H
               clear H
               try go_wp2
               replace HO_6:=Aside0.mk (Kd.N_drew HO_6.out)
               replace HO_536001:=Aside0.mk (Kd.R_drew HO_536001.out)
               replace HO_542001:=Aside0.mk (Kd.R_drew HO_542001.out)
               replace HO_555001:=Aside0.mk (Kd.R_drew HO_555001.out)
               replace BK535:=Aside0.mk (blk_drew BK535.out)
               replace BK541:=Aside0.mk (blk_drew BK541.out)
               replace BK554:=Aside0.mk (blk_drew BK554.out)
               replace HB:=Aside0.mk (qao HB.out)
               have p555:0≤(x14_3:Int):=of_decide_eq_true (za9)
               have q555:x14_3<(t527.length:Int):=of_decide_eq_true (za9)
               obtain⟨ad555,A555_2,c555_2,e555,hx555_0,hx555_1,hx555_2,hl555_2,hi555_2⟩:=at_T32 (Kd.N_reads' HO_6.out).2.2 x14_3 p555 q555
               cases e555
               obtain⟨ce555,hce555,hMe555,hcc555⟩:=Kd.N_get HO_6.out z32 x14_3 p555 (by first|exact q555|exact of_decide_eq_true (za9)|(have e_:=(Kd.N_reads' HO_6.out).1;omega))
               obtain⟨ua555_2,uc555_2,rfl,ul555_2,ge555_2⟩:=k32_openF hMe555
               have hv555_2:=hcc555 2 _ rfl
               rw[add_field _ _ 2 (by omega)] at hv555_2
               replace hv555_2:=Option.some.inj (hv555_2.symm.trans hx555_2)
               injection hv555_2 with hva_ hvn_ hvc_
               rw[hva_] at ge555_2
               rw[hvc_] at ul555_2
               have HL555_2:=Aside0.mk (show Kd.V (Kd.int .i64) 3 _ w.heap.size _ _ ((rd_T32 t527 x14_3).f2) from Kd.V_mk ul555_2 ge555_2)
               clear hva_ hvn_ hvc_ ge555_2 ul555_2
               clear hcc555 hce555
               have HR555_2:=Aside0.mk hi555_2
               have HC555_2:=Aside0.mk hl555_2
               clear hi555_2 hl555_2
               replace p555:=eq_true p555
               replace q555:=eq_true q555
               obtain⟨Ao61,co61,eo61⟩:=Kd.R_slice HO_555001.out
               (first|subst eo61|(injection eo61 with f1_ f2_ f3_;have f4_:=f1_.symm;have f5_:=f3_.symm;clear f1_ f2_ f3_;subst f4_;subst f5_))
               refine start_ (n:=11) (S:=fun w'=>w'.cell? ⟨gb554,0,none⟩=some (.int .i64 x555000_3)∧w'.cell? ⟨gb554,1,none⟩=some (.slice Ao61 x555001_3.length co61)∧w'.cell? (ad555.add ((x14_3).toNat*3))=some (.int .i64 ((rd_T32 t527 x14_3).f0))∧w'.cell? ⟨(ad555.add ((x14_3).toNat*3)).block,(ad555.add ((x14_3).toNat*3)).off+1,none⟩=some (.int .i64 ((rd_T32 t527 x14_3).f1))∧w'.cell? ⟨(ad555.add ((x14_3).toNat*3)).block,(ad555.add ((x14_3).toNat*3)).off+2,none⟩=some (.slice A555_2 ((rd_T32 t527 x14_3).f2).length c555_2)) (ds:=[9]) #[false,false,false,false,false,false,false,false,false,false,false] (by kernel_rfl) rfl rfl ⟨(blk_cell BK554.out 0).trans rfl,(blk_cell BK554.out 1).trans rfl,hx555_0,hx555_1,hx555_2⟩ (fun hHeld=>?_);refine with_tabW laws_FnStockOf.tab14 laws_FnStockOf.bits14 (fun HT_ HW_=>?_)
               generalize wr.drew=w60 at HO_6 HO_536001 HO_542001 HO_555001 BK535 BK541 BK554 HB HL555_2 HR555_2 hx555_0 hx555_1 hx555_2 hHeld ⊢
               refine qaj (i:=1) (N:=some 89) (v:=?_) (a':=?_) #[false,true,false,false,false,false,false,false,false,false,false] rfl rfl (qah HT_.out (by kernel_rfl)) (fun _ _ _ h=>h) (Or.inl ⟨by rfl,?_⟩) ?_ ?_
               rotate_left
               ·intro w'
                go_simp
                with_reducible rfl
               rotate_left
               ·simp only[Act.put,List.setIfInBounds_toArray,List.set_cons_zero,List.set_cons_succ,qaf,qag]
                rfl
               refine qaj (i:=2) (N:=some 90) (v:=?_) (a':=?_) #[false,true,true,false,false,false,false,false,false,false,false] rfl rfl (qah HT_.out (by kernel_rfl)) (fun _ _ _ h=>h) (Or.inl ⟨by rfl,?_⟩) ?_ ?_
               rotate_left
               ·intro w'
                go_simp
                with_reducible rfl
               rotate_left
               ·simp only[Act.put,List.setIfInBounds_toArray,List.set_cons_zero,List.set_cons_succ,qaf,qag]
                rfl
               refine qaj (i:=3) (N:=some 91) (v:=?_) (a':=?_) #[false,true,true,true,false,false,false,false,false,false,false] rfl rfl (qah HT_.out (by kernel_rfl)) (fun _ _ _ h=>h) (Or.inl ⟨by rfl,?_⟩) ?_ ?_
               rotate_left
               ·intro w'
                go_simp
                with_reducible rfl
               rotate_left
               ·simp only[Act.put,List.setIfInBounds_toArray,List.set_cons_zero,List.set_cons_succ,qaf,qag]
                rfl
               refine take_ (i:=0) (N:=some 88) (v:=?_) (a':=?_) #[true,true,true,true,false,false,false,false,false,false,false] rfl rfl (qap HT_.out HW_.out (by kernel_rfl)) (fun _ _ _ h=>h) (Or.inl ⟨by rfl,?_⟩) hHeld ?_ ?_
               rotate_left
               ·rintro w' ⟨s0,s1,s2,s3,s4⟩
                go_simp
                with_reducible rfl
               rotate_left
               ·simp only[Act.put,List.setIfInBounds_toArray,List.set_cons_zero,List.set_cons_succ,qaf,qag]
                rfl
               refine take_ (i:=4) (N:=some 92) (v:=?_) (a':=?_) #[true,true,true,true,true,false,false,false,false,false,false] rfl rfl (qap HT_.out HW_.out (by kernel_rfl)) (fun _ _ _ h=>h) (Or.inl ⟨by rfl,?_⟩) hHeld ?_ ?_
               rotate_left
               ·rintro w' ⟨s0,s1,s2,s3,s4⟩
                go_simp
                with_reducible rfl
               rotate_left
               ·simp only[Act.put,List.setIfInBounds_toArray,List.set_cons_zero,List.set_cons_succ,qaf,qag]
                rfl
               refine one_ (i:=5) (N:=some 93) #[true,true,true,true,true,true,false,false,false,false,false] rfl rfl (one_of HT_.out (by kernel_rfl)) (by decide) (fun K hK=>?_)
               refine goes_ Try.func24 (by kernel_rfl) rfl #[.agg #[.int .i64 x555000_3,.slice Ao61 x555001_3.length co61],.agg #[.int .i64 ((rd_T32 t527 x14_3).f0),.int .i64 ((rd_T32 t527 x14_3).f1),.slice A555_2 ((rd_T32 t527 x14_3).f2).length c555_2]] (by rfl) rfl rfl (by(try simp only[List.map_toArray,List.map_cons,List.map_nil]);first|done|rfl|(simp only[List.length_drop,List.length_take];rfl)) ?_
               with_reducible refine(impl_StockDo.calls k3 x555000_3 _ _ x555001_3 ((rd_T32 t527 x14_3).f0) ((rd_T32 t527 x14_3).f1) _ _ ((rd_T32 t527 x14_3).f2) t556 t557 t560 _ ?side1 ?side2 ?side3 ?side4 A59.out).mono ?_
               (case side1=>repeat(first|exact(Kd.R_reads' HO_555001.out).2.2|(with_reducible refine Kd.C_alloc ?_ _)|(with_reducible refine Kd.C_drewN ?_ _)|(with_reducible refine Kd.C_drew ?_)))
               (case side2=>exact(Kd.R_reads' HO_555001.out).2.1)
               (case side3=>repeat(first|exact(za62 HR555_2)|(with_reducible refine Kd.C_alloc ?_ _)|(with_reducible refine Kd.C_drewN ?_ _)|(with_reducible refine Kd.C_drew ?_)))
               (case side4=>exact HC555_2.out)
               rintro e w62 ⟨v558,rfl,ho0,hb⟩
               have HS2_:=(hb.cell (World.block_lt_of_cell? _ _ (hHeld.2.2.1))).trans (hHeld.2.2.1)
               have HS3_:=(hb.cell (World.block_lt_of_cell? _ _ (hHeld.2.2.2.1))).trans (hHeld.2.2.2.1)
               have HS4_:=(hb.cell (World.block_lt_of_cell? _ _ (hHeld.2.2.2.2))).trans (hHeld.2.2.2.2)
               refine⟨_,rfl,?_⟩
               replace HO_6:=Aside0.mk (Kd.N_elder' (za36 HO_6) (Kd.R_base ho0) hb)
               replace HL555_2:=Aside0.mk (Kd.V_elder' (za42 HL555_2) (Kd.R_base ho0) hb)
               have HO559:=Aside0.mk (Kd.R_lower (Kd.R_new' (Kd.R_new' (Kd.R_new' ho0 (Kd.R_lt (za5 HO_536001))) (Kd.R_lt (za5 HO_542001))) (Kd.R_lt (za5 HO_555001))) (below_size (za6 HB GE535 GE541 GE554)))
               replace HO_536001:=Aside0.mk (Kd.R_elder' (za5 HO_536001) (Kd.R_base ho0) hb)
               replace HO_542001:=Aside0.mk (Kd.R_elder' (za5 HO_542001) (Kd.R_base ho0) hb)
               replace HO_555001:=Aside0.mk (Kd.R_elder' (za5 HO_555001) (Kd.R_base ho0) hb)
               replace BK535:=Aside0.mk (qaa (zB BK535) hb)
               replace BK541:=Aside0.mk (qaa (zB BK541) hb)
               replace BK554:=Aside0.mk (qaa (zB BK554) hb)
               replace HR555_2:=Aside0.mk (Kd.C_below (za62 HR555_2) hb)
               replace HB:=Aside0.mk (qab (za6 HB GE535 GE541 GE554) hb)
               (try clear hb)
               (try clear hb2)
               (try clear hk)
               (try clear hi)
               (try clear ho0)
               obtain⟨Ao64,co64,eo64⟩:=Kd.R_slice HO559.out
               (first|subst eo64|(injection eo64 with f1_ f2_ f3_;have f4_:=f1_.symm;have f5_:=f3_.symm;clear f1_ f2_ f3_;subst f4_;subst f5_))
               refine hK.out _ _ ⟨(blk_cell BK554.out 0).trans rfl,(blk_cell BK554.out 1).trans rfl,HS2_,HS3_,HS4_⟩ (fun hHeld=>?_)
               clear hK K
               refine norm_ (a':=?_) ?_ ?_
               rotate_left
               ·show Act.put _ (some 93) _=_
                simp only[Act.put,List.setIfInBounds_toArray,List.set_cons_zero,List.set_cons_succ,qaf,qag]
                rfl
               refine qaj (i:=6) (N:=some 87) (v:=?_) (a':=?_) #[true,true,true,true,true,true,true,false,false,false,false] rfl rfl (qah HT_.out (by kernel_rfl)) (fun _ _ _ h=>h) (Or.inl ⟨by rfl,?_⟩) ?_ ?_
               rotate_left
               ·intro w'
                go_simp
                with_reducible rfl
               rotate_left
               ·simp only[Act.put,List.setIfInBounds_toArray,List.set_cons_zero,List.set_cons_succ,qaf,qag]
                rfl
               refine qaj (i:=7) (N:=some 94) (v:=?_) (a':=?_) #[true,true,true,true,true,true,true,true,false,false,false] rfl rfl (qah HT_.out (by kernel_rfl)) (fun _ _ _ h=>h) (Or.inl ⟨by rfl,?_⟩) ?_ ?_
               rotate_left
               ·intro w'
                go_simp
                with_reducible rfl
               rotate_left
               ·simp only[Act.put,List.setIfInBounds_toArray,List.set_cons_zero,List.set_cons_succ,qaf,qag]
                rfl
               refine qaj (i:=8) (N:=some 95) (v:=?_) (a':=?_) #[true,true,true,true,true,true,true,true,true,false,false] rfl rfl (qah HT_.out (by kernel_rfl)) (fun _ _ _ h=>h) (Or.inl ⟨by rfl,?_⟩) ?_ ?_
               rotate_left
               ·intro w'
                go_simp
                with_reducible rfl
               rotate_left
               ·simp only[Act.put,List.setIfInBounds_toArray,List.set_cons_zero,List.set_cons_succ,qaf,qag]
                rfl
               refine last_ (i:=9) (N:=none) #[true,true,true,true,true,true,true,true,true,true,false] rfl rfl (one_of HT_.out (by kernel_rfl)) (by decide) (fun K hK=>?_)
               have hs63:w62.cell? ⟨gb554,0,none⟩=some (.int .i64 x555000_3):=(blk_cell BK554.out 0).trans rfl
               have hfs63:=blk_frozen BK554.out 0
               have hns63_0:=NB535_554.out
               have hns63_1:=NB541_554.out
               have hms63_0:=NB554_535.out
               have hms63_1:=NB554_541.out
               have hs65:w62.cell? ⟨gb554,1,none⟩=some (.slice Ao61 x555001_3.length co61):=(blk_cell BK554.out 1).trans rfl
               have hfs65:=blk_frozen BK554.out 1
               have hns65_0:=NB535_554.out
               have hns65_1:=NB541_554.out
               have hms65_0:=NB554_535.out
               have hms65_1:=NB554_541.out
               refine skip_ (w1:=?_) (by rfl) rfl ?_ ?_
               rotate_left
               ·go_simp
                rfl
               refine hK.out _ _ ?_
               clear hK K
               refine qaj (i:=10) (N:=some 13) (v:=?_) (a':=?_) #[true,true,true,true,true,true,true,true,true,true,true] rfl rfl (qah HT_.out (by kernel_rfl)) (fun _ _ _ h=>h) (Or.inl ⟨by rfl,?_⟩) ?_ ?_
               rotate_left
               ·intro w'
                go_simp
                with_reducible rfl
               rotate_left
               ·simp only[Act.put,List.setIfInBounds_toArray,List.set_cons_zero,List.set_cons_succ,qaf,qag]
                rfl
               refine done_ (done_of HT_.out (by kernel_rfl)) ?_
               try go_wp2
               go_roundg k3
               case measure=>have:=HJ2.out;have:=HJ8.out;have:=HK3.out;omega
               case rel=>exact⟨(t560),(wrap64 (x14_3+1)),(t556),(t557),(.slice Ao64 t557.length co64),(za43),(za43),H',⟨by have:=HJ2.out;have:=HJ8.out;have:=HK3.out;omega⟩,⟨by(with_reducible repeat(first|apply Kd.N_alloc|apply Kd.N_drewN|apply Kd.N_drew));exact Kd.N_mono (Kd.N_far (p:=⟨gb554,1,none⟩) (Kd.N_far (p:=⟨gb554,0,none⟩) (Kd.N_mono HO_6.out (fun k_ hk=>(⟨hk,hk.1.2.2.2.2.2⟩:_∧k_≠gb554))) (fun _ hk=>hk.2) (.int .i64 t556)) (fun _ hk=>hk.2) (.slice Ao64 t557.length co64)) (fun _ hk=>⟨hk.1.1.1,⟨hk.1.1.2.1,⟨hk.1.2,⟨hk.1.1.2.2.2.1,⟨hk.1.1.2.2.2.2.1,hk.1.1.2.2.2.2.2⟩⟩⟩⟩⟩)⟩,⟨by(with_reducible repeat(first|apply Kd.R_alloc|apply Kd.R_drewN|apply Kd.R_drew));exact Kd.R_mono (Kd.R_far (p:=⟨gb554,1,none⟩) (Kd.R_far (p:=⟨gb554,0,none⟩) (Kd.R_types HO_536001.out BK554.out (by decide)) (fun _ hk=>hk.2) (.int .i64 t556)) (fun _ hk=>hk.2) (.slice Ao64 t557.length co64)) (fun _ hk=>⟨hk.1.1.1,hk.1.2⟩)⟩,⟨by(with_reducible repeat(first|apply Kd.R_alloc|apply Kd.R_drewN|apply Kd.R_drew));exact Kd.R_mono (Kd.R_far (p:=⟨gb554,1,none⟩) (Kd.R_far (p:=⟨gb554,0,none⟩) (Kd.R_types HO_542001.out BK554.out (by decide)) (fun _ hk=>hk.2) (.int .i64 t556)) (fun _ hk=>hk.2) (.slice Ao64 t557.length co64)) (fun _ hk=>⟨hk.1.1.1,hk.1.2⟩)⟩,⟨by(with_reducible repeat(first|apply Kd.R_alloc|apply Kd.R_drewN|apply Kd.R_drew));exact Kd.R_mono (Kd.R_far (p:=⟨gb554,1,none⟩) (Kd.R_far (p:=⟨gb554,0,none⟩) (Kd.R_types HO559.out BK554.out (by decide)) (fun _ hk=>hk.2) (.int .i64 t556)) (fun _ hk=>hk.2) (.slice Ao64 t557.length co64)) (fun _ hk=>⟨hk.1.1.1.2,hk.1.1.2⟩)⟩,⟨za0 NB535_554 BK535⟩,⟨za0 NB541_554 BK541⟩,⟨by(with_reducible repeat(first|refine blk_drewN ?_ _|refine blk_drew ?_|refine blk_alloc ?_ _));refine qad (cs:=#[.int .i64 t556,.slice Ao61 x555001_3.length co61]) ?_ 1 _ rfl;(with_reducible repeat(first|refine blk_drewN ?_ _|refine blk_drew ?_|refine blk_alloc ?_ _));refine qad (cs:=#[.int .i64 x555000_3,.slice Ao61 x555001_3.length co61]) ?_ 0 _ rfl;(with_reducible repeat(first|refine blk_drewN ?_ _|refine blk_drew ?_|refine blk_alloc ?_ _));exact BK554.out⟩,⟨za6 HB GE535 GE541 GE554⟩⟩
              ·rw[if_neg c58] at H
               exact absurd H (by simp)
             ·replace c57:=Bool.eq_false_iff.mpr c57
              subst c57
              have H1:(laws_FnStockOf.l0 k3 t527 t540 false (wrap64 (x14_3+1)) t536 t537 x555000_3 x555001_3)=some r:=by rw[if_neg (show ¬(false=true) by decide)] at H;exact H
              clear H
              have H:=H1
              clear H1
              have H':=Aside0.mk H
              clear H
              go_wp2
              go_roundg k3
              case measure=>have:=HJ2.out;have:=HJ8.out;have:=HK3.out;omega
              case rel=>exact⟨(false),(wrap64 (x14_3+1)),(x555000_3),(x555001_3),(u555001),(za43),(za43),H',⟨by have:=HJ2.out;have:=HJ8.out;have:=HK3.out;omega⟩,⟨za36 HO_6⟩,⟨za5 HO_536001⟩,⟨za5 HO_542001⟩,⟨za5 HO_555001⟩,⟨za24 BK535⟩,⟨za24 BK541⟩,⟨za24 BK554⟩,⟨za6 HB GE535 GE541 GE554⟩⟩
            ·rw[if_neg c56] at H
             have c56b0:decide (x14_3<(t527.length:Int))=false:=decide_eq_false c56
             clear c56
             by_cases c66:(x13_3 == t540)=true
             ·rw[if_pos c66] at H
              have c66b0:(x13_3 == t540)=true:=c66
              (try(have c66b1:decide (x13_3=t540)=true:=by simpa using c66))
              (try(have c66b2:(x13_3 == t540)=true:=by simpa using c66))
              clear c66
              by_cases c67:t540=true
              ·subst c67
               have H1:((laws_lnStock.f k3 x555000_3 x555001_3 t536 t537).bind fun t561=>(some t561))=some r:=by rw[if_pos rfl] at H;exact H
               clear H
               have H:=H1
               clear H1
               replace H:=Option.bind_eq_some_iff.mp H
               obtain⟨t561,A680,H⟩:=H
               replace H:(some t561)=some r:=H
               have A68:=Aside0.mk A680
               clear A680
               obtain rfl:=Option.some.inj H
               have hnb69:=NB554_535.out
               have hnc69:=NB535_554.out
               have hnb70:=NB554_541.out
               have hnc70:=NB541_554.out
               obtain⟨hcz71_0,hcz71_1,hfz71_0,hfz71_1⟩:=zC2 BK554
               have hnb72:=NB541_535.out
               have hnc72:=NB535_541.out
               obtain⟨hcz73_0,hcz73_1,hfz73_0,hfz73_1⟩:=zC2 BK541
               obtain⟨Ao74,co74,eo74⟩:=Kd.R_slice HO_555001.out
               subst eo74
               go_wp2_with(first|(go_at_call 23;(with_reducible refine(laws_lnStock.calls k3 x555000_3 _ _ x555001_3 t536 _ _ t537 t561 _ ?side1 ?side2 ?side3 ?side4 A68.out).mono ?_);(case side1=>repeat(first|exact(Kd.R_reads' HO_555001.out).2.2|(with_reducible refine Kd.C_alloc ?_ _)|(with_reducible refine Kd.C_drewN ?_ _)|(with_reducible refine Kd.C_drew ?_)));(case side2=>exact(Kd.R_reads' HO_555001.out).2.1);(case side3=>repeat(first|exact(Kd.R_reads' HO_542001.out).2.2|(with_reducible refine Kd.C_alloc ?_ _)|(with_reducible refine Kd.C_drewN ?_ _)|(with_reducible refine Kd.C_drew ?_)));(case side4=>exact(Kd.R_reads' HO_542001.out).2.1);rintro e w75 ⟨rfl,hb⟩;replace HO_6:=Aside0.mk (Kd.N_below (za36 HO_6) hb);replace HO_536001:=Aside0.mk (Kd.R_below (za5 HO_536001) hb);replace HO_542001:=Aside0.mk (Kd.R_below (za5 HO_542001) hb);replace HO_555001:=Aside0.mk (Kd.R_below (za5 HO_555001) hb);replace BK535:=Aside0.mk (qaa (zB BK535) hb);replace BK541:=Aside0.mk (qaa (zB BK541) hb);replace BK554:=Aside0.mk (qaa (zB BK554) hb);replace HB:=Aside0.mk (qab (za6 HB GE535 GE541 GE554) hb);(try clear hb)))
               go_ret
               exact⟨by first|rfl|(simp[qal,qam]<;>rfl)|(simp only[←hji45];first|rfl|(simp[qal,qam]<;>rfl))|(simp[*,qal,qam]<;>rfl),za6 HB GE535 GE541 GE554⟩
              ·replace c67:=Bool.eq_false_iff.mpr c67
               subst c67
               have H1:(some true)=some r:=by rw[if_neg (show ¬(false=true) by decide)] at H;exact H
               clear H
               have H:=H1
               clear H1
               obtain rfl:=Option.some.inj H
               go_wp2
               go_ret
               exact⟨by first|rfl|(simp[qal,qam]<;>rfl)|(simp only[←hji45];first|rfl|(simp[qal,qam]<;>rfl))|(simp[*,qal,qam]<;>rfl),za6 HB GE535 GE541 GE554⟩
             ·rw[if_neg c66] at H
              have c66b0:(x13_3 == t540)=false:=by simpa using c66
              (try(have c66b1:decide (x13_3=t540)=false:=by simpa using c66))
              (try(have c66b2:(x13_3 == t540)=false:=by simpa using c66))
              (try(have c66b3:¬(x13_3=t540):=by simpa using c66))
              clear c66
              obtain rfl:=Option.some.inj H
              go_wp2
              go_ret
              exact⟨by first|rfl|(simp[qal,qam]<;>rfl)|(simp only[←hji45];first|rfl|(simp[qal,qam]<;>rfl))|(simp[*,qal,qam]<;>rfl),za6 HB GE535 GE541 GE554⟩
         ·rw[if_neg c47] at H
          exact absurd H (by simp)
        ·rw[if_neg c46] at H
         exact absurd H (by simp)
def laws_FnStockOf.Pure:Prop:=∀(l0:List Int) (l1:List Int),l0.length≤maxLen→l0.length*1≤140737488351232→(∀x ∈ l0,(Lit.int .u8 x).wf=true)→l1.length≤maxLen→l1.length*1≤140737488351232→(∀x ∈ l1,(Lit.int .u8 x).wf=true)→∃k,laws_FnStockOf.f k l0 l1=some true
theorem laws_FnStockOf.walk (P:laws_FnStockOf.Pure) (a0:Option Addr) (len0 cap0:Nat) (z0:List Int) (a1:Option Addr) (len1 cap1:Nat) (z1:List Int) (w:World) (w0:(a0=none∧len0=0∧cap0=0∧z0=[])∨∃x,a0=some x∧len0≤cap0∧cap0≤maxLen∧z0.length=cap0∧(∀i,i<z0.length→w.cell? (x.add i)=some (.int .u8 (z0.getD i 0)))∧∀n ∈ z0,(Lit.int .u8 n).wf=true) (y0:len0*1≤140737488351232) (w1:(a1=none∧len1=0∧cap1=0∧z1=[])∨∃x,a1=some x∧len1≤cap1∧cap1≤maxLen∧z1.length=cap1∧(∀i,i<z1.length→w.cell? (x.add i)=some (.int .u8 (z1.getD i 0)))∧∀n ∈ z1,(Lit.int .u8 n).wf=true) (y1:len1*1≤140737488351232) :
  Calls Try.prog 4 #[.slice a0 len0 cap0,.slice a1 len1 cap1] w fun e w'=>e=.returned (.bool true)∧Below w.heap.size w w':=by
 obtain⟨l0,rfl,hr0,hm0,hw0,hc0⟩:=ReadsInt.ofRowC w0
 obtain⟨l1,rfl,hr1,hm1,hw1,hc1⟩:=ReadsInt.ofRowC w1
 obtain⟨k,h⟩:=P l0 l1 hm0 y0 hw0 hm1 y1 hw1
 refine(laws_FnStockOf.calls k _ _ l0 _ _ l1 true w (Kd.C_of_reads (d:=(0:Int)) (h1:=fun _=>rfl) hr0) hc0 (Kd.C_of_reads (d:=(0:Int)) (h1:=fun _=>rfl) hr1) hc1 h).mono ?_
 rintro e w' ⟨rfl,hd⟩
 exact⟨rfl,hd⟩
end Go.Proofs.Ytmbdphefnalenaa.Print
