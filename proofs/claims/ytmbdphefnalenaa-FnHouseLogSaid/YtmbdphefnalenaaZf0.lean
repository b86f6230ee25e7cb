-- Written by squeeze.py: not trusted, Lean checks it.
import Derived.Test.YtmbdphefnalenaaZK
import Derived.Test.YtmbdphefnalenaaZc0
import Derived.Test.YtmbdphefnalenaaZc8
namespace Go.Proofs.Ytmbdphefnalenaa.Print
open Go.RowKit Go.Proofs.YtmbdphefnalenaaW.PrintWords Go.Proofs.YtmbdphefnalenaaW.PrintLast Go.Proofs.YtmbdphefnalenaaW.PrintMore
attribute [local go_sem] max2_int min2_int max_two min_two max_three min_three max_four min_four
set_option linter.unusedVariables false
set_option linter.unusedSimpArgs false
def impl_StockNew.f (a0:Int):Option (Int × (List (S49)) × Bool):=(impl_in.f a0 0 9).bind fun t505=>(if t505=true then(if 6≤17592186044416 then(some (a0,(List.replicate 6 z49),true)) else(none)) else(some (0,([]:List (S49)),false)))
set_option maxHeartbeats 8000000 in
set_option maxRecDepth 100000 in
theorem impl_StockNew.calls (a0:Int) (r1:Int) (r2:List (S49)) (r3:Bool) (w:World) (h:impl_StockNew.f a0=some (r1,r2,r3)) :
  Calls Try.prog 56 #[.int .i64 a0] w fun e w'=>∃v1_:Value,e=.returned (.tuple #[.agg #[.int .i64 r1,v1_],.bool r3])∧Kd.R k49 49 w' w.heap.size (fun _=>True) v1_ r2∧Below w.heap.size w w':=by
 have hu38:=Try.underlying38
 have HB:=Aside0.mk (Below.refl w.heap.size w)
 have H:((impl_in.f a0 0 9).bind fun t505=>(if t505=true then(if 6≤17592186044416 then(some (a0,(List.replicate 6 z49),true)) else(none)) else(some (0,([]:List (S49)),false))))=some (r1,r2,r3):=h
 clear h
 replace H:=Option.bind_eq_some_iff.mp H
 obtain⟨t505,A20,H⟩:=H
 replace H:(if t505=true then(if 6≤17592186044416 then(some (a0,(List.replicate 6 z49),true)) else(none)) else(some (0,([]:List (S49)),false)))=some (r1,r2,r3):=H
 have A2:=Aside0.mk A20
 clear A20
 by_cases c3:t505=true
 ·subst c3
  have H1:(if 6≤17592186044416 then(some (a0,(List.replicate 6 z49),true)) else(none))=some (r1,r2,r3):=by rw[if_pos rfl] at H;exact H
  clear H
  have H:=H1
  clear H1
  by_cases c4:6≤17592186044416
  ·rw[if_pos c4] at H
   have c4b0:=eq_true c4
   have c4b1:decide (6≤17592186044416)=true:=decide_eq_true c4
   clear c4
   obtain⟨y506,hy506⟩:∃y_:List (S49),y_=(List.replicate 6 z49):=⟨_,rfl⟩
   replace H:(some (a0,y506,true))=some (r1,r2,r3):=by first|(rw[hy506];with_reducible exact H)|(have H2_:=(Option.bind_some _ _).symm.trans H;rw[hy506];with_reducible exact H2_)|(have H2_:=(Option.bind_some _ _).symm.trans H;with_reducible exact H2_)|with_reducible exact H|(rw[hy506];exact H)|exact H
   have Ny506:=Aside0.mk hy506
   clear hy506
   simp only[Option.some.injEq,Prod.mk.injEq] at H
   obtain⟨rfl,rfl,rfl⟩:=H
   go_enter Try.func56,Try.ntmps56
   go_wp2_with(first|((with_reducible refine qae (N:=2) rfl ?_);refine zX (N:=2) (cs:=#[.int .i64 0,.slice none 0 0]) (t:=38) ?_;intro gb504 hg w5 hbox hb;have BK504:=Aside0.mk hbox;have GW504:=zH (w:=w) hg (za4 HB);have GE504:=GW504;replace HB:=Aside0.mk (qab (za4 HB) hb);clear hb hbox hg)|((with_reducible refine qac (f:=66) rfl ?_);refine zF (some 5) Try.func66 #[.int .i64 a0,.int .i64 0,.int .i64 9] ?_;(with_reducible refine(impl_in.calls a0 0 9 true _ A2.out).mono ?_);rintro e w' ⟨rfl,⟨nd,rfl⟩⟩;refine⟨_,rfl,?_⟩;(try(rw[drewN_self w5];generalize hq_:World.drewN w5 _=w5;replace BK504:Aside0 (w5.heap[gb504]?=some (.cells #[.int .i64 0,.slice none 0 0] 38 (0,0))):=⟨by rw[←hq_];exact(zB BK504)⟩;replace HB:Aside0 (Below w.heap.size w w5):=⟨by rw[←hq_];exact(za1 HB GE504)⟩;clear hq_;have hczugb504_0:w5.cell? ⟨gb504,0,none⟩=some _:=(blk_cell BK504.out 0).trans rfl;have hfzugb504_0:=blk_frozen BK504.out 0;have hczugb504_1:w5.cell? ⟨gb504,1,none⟩=some _:=(blk_cell BK504.out 1).trans rfl;have hfzugb504_1:=blk_frozen BK504.out 1)))|((with_reducible refine qae (N:=9) rfl ?_);refine Kd.R_make k49 _ 49 rfl (N:=9) rfl 36 _ _ rfl 6 rfl rfl Try.underlying36 (.agg #[(.int .i64 0),(.int .i64 0)]) 16 info49 rfl (by decide) (by omega) z49 (ok:=fun _=>True) (okp:=fun _=>True) (k49_mkM _ _ _ z49 ) (fun _ hk=>hk) trivial (by omega) (by omega) (Below.refl _ _) (Nat.le_refl _) ?_;intro v507 w6 ho7 hb hg_ hnew_;clear hg_ hnew_;(first|rw[←Ny506.out] at ho7|(simp only[Int.reduceToNat] at ho7;rw[←Ny506.out] at ho7));have HO508:=Aside0.mk (Kd.R_lower ho7 (below_size (za1 HB GE504)));replace BK504:=Aside0.mk (qaa (zB BK504) hb);replace HB:=Aside0.mk (qab (za1 HB GE504) hb);clear hb ho7;obtain⟨Ao8,co8,eo8⟩:=Kd.R_slice HO508.out;subst eo8;obtain⟨hcz9_0,hcz9_1,hfz9_0,hfz9_1⟩:=zC2 BK504))
   refine bodyPost_ret (results_ct rfl _ _ gb504 38 #[.int .i64 a0,.slice Ao8 y506.length co8] (0,0) _ rfl (by(with_reducible repeat(first|refine blk_drewN ?_ _|refine blk_drew ?_|refine blk_alloc ?_ _));refine qad (cs:=#[.int .i64 a0,.slice none 0 0]) ?_ 1 _ rfl;(with_reducible repeat(first|refine blk_drewN ?_ _|refine blk_drew ?_|refine blk_alloc ?_ _));refine qad (cs:=#[.int .i64 0,.slice none 0 0]) ?_ 0 _ rfl;(with_reducible repeat(first|refine blk_drewN ?_ _|refine blk_drew ?_|refine blk_alloc ?_ _));exact BK504.out) Try.underlying38 rfl (by kernel_rfl)) rfl ?_
   exact⟨_,za16,by(with_reducible repeat(first|apply Kd.R_alloc|apply Kd.R_drewN|apply Kd.R_drew));exact Kd.R_mono (Kd.R_far (p:=⟨gb504,1,none⟩) (Kd.R_far (p:=⟨gb504,0,none⟩) (Kd.R_types HO508.out BK504.out (by decide)) (fun _ hk=>hk.2) (.int .i64 a0)) (fun _ hk=>hk.2) (.slice Ao8 y506.length co8)) (fun _ hk=>trivial),za1 HB GE504⟩
  ·rw[if_neg c4] at H
   exact absurd H (by simp)
 ·replace c3:=Bool.eq_false_iff.mpr c3
  subst c3
  have H1:(some (0,([]:List (S49)),false))=some (r1,r2,r3):=by rw[if_neg (show ¬(false=true) by decide)] at H;exact H
  clear H
  have H:=H1
  clear H1
  simp only[Option.some.injEq,Prod.mk.injEq] at H
  obtain⟨rfl,rfl,rfl⟩:=H
  go_enter Try.func56,Try.ntmps56
  go_wp2_with(first|((with_reducible refine qae (N:=2) rfl ?_);refine zX (N:=2) (cs:=#[.int .i64 0,.slice none 0 0]) (t:=38) ?_;intro gb504 hg w10 hbox hb;have BK504:=Aside0.mk hbox;have GW504:=zH (w:=w) hg (za4 HB);have GE504:=GW504;replace HB:=Aside0.mk (qab (za4 HB) hb);clear hb hbox hg)|((with_reducible refine qac (f:=66) rfl ?_);refine zF (some 5) Try.func66 #[.int .i64 a0,.int .i64 0,.int .i64 9] ?_;(with_reducible refine(impl_in.calls a0 0 9 false _ A2.out).mono ?_);rintro e w' ⟨rfl,⟨nd,rfl⟩⟩;refine⟨_,rfl,?_⟩;(try(rw[drewN_self w10];generalize hq_:World.drewN w10 _=w10;replace BK504:Aside0 (w10.heap[gb504]?=some (.cells #[.int .i64 0,.slice none 0 0] 38 (0,0))):=⟨by rw[←hq_];exact(zB BK504)⟩;replace HB:Aside0 (Below w.heap.size w w10):=⟨by rw[←hq_];exact(za1 HB GE504)⟩;clear hq_;have hczugb504_0:w10.cell? ⟨gb504,0,none⟩=some _:=(blk_cell BK504.out 0).trans rfl;have hfzugb504_0:=blk_frozen BK504.out 0;have hczugb504_1:w10.cell? ⟨gb504,1,none⟩=some _:=(blk_cell BK504.out 1).trans rfl;have hfzugb504_1:=blk_frozen BK504.out 1));obtain⟨hcz11_0,hcz11_1,hfz11_0,hfz11_1⟩:=zC2 BK504))
  refine bodyPost_ret (results_ct rfl _ _ gb504 38 #[.int .i64 0,.slice none 0 0] (0,0) _ rfl (by(with_reducible repeat(first|refine blk_drewN ?_ _|refine blk_drew ?_|refine blk_alloc ?_ _));refine qad (cs:=#[.int .i64 0,.slice none 0 0]) ?_ 1 _ rfl;(with_reducible repeat(first|refine blk_drewN ?_ _|refine blk_drew ?_|refine blk_alloc ?_ _));refine qad (cs:=#[.int .i64 0,.slice none 0 0]) ?_ 0 _ rfl;(with_reducible repeat(first|refine blk_drewN ?_ _|refine blk_drew ?_|refine blk_alloc ?_ _));exact BK504.out) Try.underlying38 rfl (by kernel_rfl)) rfl ?_
  exact⟨_,za16,za59,za1 HB GE504⟩
def impl_StockOf.l0:Nat→List (S32)→Bool→Int→Int→List (S49)→Option (Int × (List (S49)) × Bool)
 |0,_,_,_,_,_=>none
 |k+1,x1,x7,x8,x516000,x516001=>if x7=true then(if x8<(x1.length:Int) then(if 0≤x8 then((impl_StockDo.f k x516000 x516001 ((rd_T32 x1 x8).f0) ((rd_T32 x1 x8).f1) ((rd_T32 x1 x8).f2)).bind fun bt517=>(impl_StockOf.l0 k x1 bt517.2.2 (wrap64 (x8+1)) bt517.1 bt517.2.1)) else(none)) else(some (x516000,x516001,x7))) else(some (x516000,x516001,x7))
def impl_StockOf.f (k:Nat) (a0:Int) (l1:List (S32)):Option (Int × (List (S49)) × Bool):=(impl_StockNew.f a0).bind fun bt510=>(impl_StockOf.l0 k l1 bt510.2.2 0 bt510.1 bt510.2.1)
theorem impl_StockOf.mono_l:∀k,(∀y0 y1 y2 y3 y4,LeO (impl_StockOf.l0 k y0 y1 y2 y3 y4) (impl_StockOf.l0 (k+1) y0 y1 y2 y3 y4))
 |0=>fun _ _ _ _ _ r h=>by simp[impl_StockOf.l0] at h
 |k+1=>by
  have ih0:=impl_StockOf.mono_l k
  ·intro y0 y1 y2 y3 y4
   unfold impl_StockOf.l0
   repeat' first
   |(with_reducible exact ih0 _ _ _ _ _)
   |(with_reducible exact impl_StockDo.mono _ _ _ _ _ _)
   |(with_reducible exact LeO.refl _)
   |(with_reducible exact LeO.none _)
   |(with_reducible refine LeO.ite ?_ ?_)
   |(with_reducible refine LeO.bind ?_ (fun _=>?_))
   |exact ih0 _ _ _ _ _
   |exact impl_StockDo.mono _ _ _ _ _ _
   |exact LeO.none _
   |refine LeO.ite ?_ ?_
   |refine LeO.bind ?_ (fun _=>?_)
theorem impl_StockOf.mono:∀a0 a1 k,LeO (impl_StockOf.f k a0 a1) (impl_StockOf.f (k+1) a0 a1):=by
 intro a0 a1 k
 have ih0:=impl_StockOf.mono_l k
 unfold impl_StockOf.f
 repeat' first
   |(with_reducible exact ih0 _ _ _ _ _)
   |(with_reducible exact impl_StockDo.mono _ _ _ _ _ _)
   |(with_reducible exact LeO.refl _)
   |(with_reducible exact LeO.none _)
   |(with_reducible refine LeO.ite ?_ ?_)
   |(with_reducible refine LeO.bind ?_ (fun _=>?_))
   |exact ih0 _ _ _ _ _
   |exact impl_StockDo.mono _ _ _ _ _ _
   |exact LeO.none _
   |refine LeO.ite ?_ ?_
   |refine LeO.bind ?_ (fun _=>?_)
def impl_StockOf.T5:Bool × List (List Nat × List Nat):=(true,[([],[]),([],[]),([],[]),([1,2],[1,2]),([3],[3]),([0,4],[0,4]),([5],[5]),([6],[6]),([6],[6]),([7,5,0,1,2,3,4,5,6,7],[7]),([8,9,0,1,2,3,4,5,6,7,8,9],[8])])
def impl_StockOf.B5:List Nat:=[0,0,0,6,14,31,63,127,127,255,1023]
theorem impl_StockOf.tab5:rtab .any (opsOf Try.f22 5)=impl_StockOf.T5:=by kernel_rfl
theorem impl_StockOf.bits5:waitsOk impl_StockOf.T5.2 impl_StockOf.B5=true:=by kernel_rfl
set_option maxHeartbeats 8000000 in
set_option maxRecDepth 100000 in
theorem impl_StockOf.calls (k:Nat) (a0:Int) (A1:Option Addr) (c1:Nat) (l1:List (S32)) (r1:Int) (r2:List (S49)) (r3:Bool) (w:World) (hr1:Kd.C k32 w A1 l1.length l1) (hc1:l1.length≤c1) (h:impl_StockOf.f k a0 l1=some (r1,r2,r3)) :
  Calls Try.prog 22 #[.int .i64 a0,.slice A1 l1.length c1] w fun e w'=>∃v1_:Value,e=.returned (.tuple #[.agg #[.int .i64 r1,v1_],.bool r3])∧Kd.R k49 49 w' w.heap.size (fun _=>True) v1_ r2∧Below w.heap.size w w':=by
 have hu38:=Try.underlying38
 have hu32:=Try.underlying32
 have HR1:=Aside0.mk hr1
 have HC1:=Aside0.mk hc1
 clear hr1 hc1
 have HB:=Aside0.mk (Below.refl w.heap.size w)
 have H:((impl_StockNew.f a0).bind fun bt510=>(impl_StockOf.l0 k l1 bt510.2.2 0 bt510.1 bt510.2.1))=some (r1,r2,r3):=h
 clear h
 replace H:=Option.bind_eq_some_iff.mp H
 obtain⟨⟨t510,t511,t514⟩,A30,H⟩:=H
 replace H:(impl_StockOf.l0 k l1 t514 0 t510 t511)=some (r1,r2,r3):=H
 have A3:=Aside0.mk A30
 clear A30
 have H':=Aside0.mk H
 clear H
 go_enter Try.func22,Try.ntmps22
 go_wp2_with(first|((with_reducible refine qae (N:=4) rfl ?_);(try(refine gate_guard (by rfl) ?_;dsimp only));refine zX (N:=4) (cs:=#[.int .i64 0,.slice none 0 0]) (t:=38) ?_;intro gb509 hg w4 hbox hb;have BK509:=Aside0.mk hbox;have GW509:=zH (w:=w) hg (za4 HB);have GE509:=GW509;replace HB:=Aside0.mk (qab (za4 HB) hb);clear hb hbox hg)|((with_reducible refine qac (f:=56) rfl ?_);refine zF (some 11) Try.func56 #[.int .i64 a0] ?_;(with_reducible refine(impl_StockNew.calls a0 t510 t511 t514 _ A3.out).mono ?_);rintro e w5 ⟨v512,rfl,ho0,hb⟩;refine⟨_,rfl,?_⟩;have HO513:=Aside0.mk (Kd.R_lower ho0 (below_size (za1 HB GE509)));replace BK509:=Aside0.mk (qaa (zB BK509) hb);replace HB:=Aside0.mk (qab (za1 HB GE509) hb);(try clear hb);(try clear ho0))|((with_reducible refine qae (N:=6) rfl ?_);(try(refine gate_guard (by rfl) ?_;dsimp only));refine zX (N:=6) (cs:=#[.int .i64 0,.slice none 0 0]) (t:=38) ?_;intro gb515 hg w6 hbox hb;replace HO513:=Aside0.mk (Kd.R_below (za5 HO513) hb);have BK515:=Aside0.mk hbox;have GW515:=zH (w:=w) hg (za1 HB GE509);have GE515:=GW515;replace HB:=Aside0.mk (qab (za1 HB GE509) hb);have NB509_515:=zL BK509 hg;have NB515_509:=zG BK509 hg;replace BK509:=Aside0.mk (qaa (zB BK509) hb);clear hb hbox hg;have hnb7:=NB515_509.out;have hnc7:=NB509_515.out;obtain⟨hcz8_0,hcz8_1,hfz8_0,hfz8_1⟩:=zC2 BK515;obtain⟨Ao9,co9,eo9⟩:=Kd.R_slice HO513.out;subst eo9))
 go_loopg [7,8] k (fun kq v7 v8 w'=>∃(x7_1:Bool) (x8_1:Int) (x516000_1:Int) (x516001_1:List (S49)) (u516001:Value),v7=.bool x7_1∧v8=.int .i64 x8_1∧Aside0 (impl_StockOf.l0 kq l1 x7_1 x8_1 x516000_1 x516001_1=some (r1,r2,r3))∧Aside0 (kq≤k)∧Aside0 (Kd.R k49 49 w' w.heap.size (fun _=>True) u516001 x516001_1)∧Aside0 (w'.heap[gb509]?=some (.cells #[.int .i64 0,(.slice none 0 0)] 38 (0,0)))∧Aside0 (w'.heap[gb515]?=some (.cells #[.int .i64 x516000_1,u516001] 38 (0,0)))∧Aside0 (Below w.heap.size w w'))
 case atStart=>exact⟨(t514),(0),(t510),(t511),(.slice Ao9 t511.length co9),(za43),(za43),H',⟨Nat.le_refl _⟩,⟨by(with_reducible repeat(first|apply Kd.R_alloc|apply Kd.R_drewN|apply Kd.R_drew));exact Kd.R_mono (Kd.R_far (p:=⟨gb515,1,none⟩) (Kd.R_far (p:=⟨gb515,0,none⟩) (Kd.R_types HO513.out BK515.out (by decide)) (fun _ hk=>hk.2) (.int .i64 t510)) (fun _ hk=>hk.2) (.slice Ao9 t511.length co9)) (fun _ hk=>trivial)⟩,⟨za0 NB509_515 BK509⟩,⟨by(with_reducible repeat(first|refine blk_drewN ?_ _|refine blk_drew ?_|refine blk_alloc ?_ _));refine qad (cs:=#[.int .i64 t510,.slice none 0 0]) ?_ 1 _ rfl;(with_reducible repeat(first|refine blk_drewN ?_ _|refine blk_drew ?_|refine blk_alloc ?_ _));refine qad (cs:=#[.int .i64 0,.slice none 0 0]) ?_ 0 _ rfl;(with_reducible repeat(first|refine blk_drewN ?_ _|refine blk_drew ?_|refine blk_alloc ?_ _));exact BK515.out⟩,⟨za2 HB GE509 GE515⟩⟩
 case round=>
  clear H'
  try clear c1
  try clear c2
  try clear p2
  try clear c5
  try clear c7
  try clear hcz8_0
  try clear hcz8_1
  try clear hfz8_0
  try clear hfz8_1
  obtain⟨x7_1,x8_1,x516000_1,x516001_1,u516001,rfl,rfl,HA,HK1,HO_516001,BK509,BK515,HB⟩:=hrel
  cases gk with
  |zero=>exact absurd HA.out (by simp[impl_StockOf.l0])
  |succ k1=>
   have H:=HA.out
   clear HA
   simp only[impl_StockOf.l0] at H
   by_cases c10:x7_1=true
   ·subst c10
    have H1:(if x8_1<(l1.length:Int) then(if 0≤x8_1 then((impl_StockDo.f k1 x516000_1 x516001_1 ((rd_T32 l1 x8_1).f0) ((rd_T32 l1 x8_1).f1) ((rd_T32 l1 x8_1).f2)).bind fun bt517=>(impl_StockOf.l0 k1 l1 bt517.2.2 (wrap64 (x8_1+1)) bt517.1 bt517.2.1)) else(none)) else(some (x516000_1,x516001_1,true)))=some (r1,r2,r3):=by rw[if_pos rfl] at H;exact H
    clear H
    have H:=H1
    clear H1
    by_cases c11:x8_1<(l1.length:Int)
    ·rw[if_pos c11] at H
     have c11b0:decide (x8_1<(l1.length:Int))=true:=decide_eq_true c11
     clear c11
     by_cases c12:0≤x8_1
     ·rw[if_pos c12] at H
      have c12b0:decide (0≤x8_1)=true:=decide_eq_true c12
      clear c12
      replace H:=Option.bind_eq_some_iff.mp H
      obtain⟨⟨t517,t518,t521⟩,A130,H⟩:=H
      replace H:(impl_StockOf.l0 k1 l1 t521 (wrap64 (x8_1+1)) t517 t518)=some (r1,r2,r3):=H
      have A13:=Aside0.mk A130
      clear A130
      have H':=Aside0.mk H
      clear H
      try go_wp2
      replace HO_516001:=Aside0.mk (Kd.R_drew HO_516001.out)
      replace BK509:=Aside0.mk (blk_drew BK509.out)
      replace BK515:=Aside0.mk (blk_drew BK515.out)
      replace HB:=Aside0.mk (qao HB.out)
      have p516:0≤(x8_1:Int):=of_decide_eq_true (za9)
      have q516:x8_1<(l1.length:Int):=of_decide_eq_true (za9)
      obtain⟨ad516,A516_2,c516_2,e516,hx516_0,hx516_1,hx516_2,hl516_2,hi516_2⟩:=at_T32 HR1.out x8_1 p516 q516
      have hw516_2:=hx516_2
      have hw516_1:=hx516_1
      have hw516_0:=hx516_0
      cases e516
      have hxo516_2:=Aside0.mk hx516_2
      replace hx516_0:=(HB.out.cell (World.block_lt_of_cell? w _ hx516_0)).trans hx516_0
      replace hx516_1:=(HB.out.cell (World.block_lt_of_cell? w _ hx516_1)).trans hx516_1
      replace hx516_2:=(HB.out.cell (World.block_lt_of_cell? w _ hx516_2)).trans hx516_2
      have HR516_2:=Aside0.mk hi516_2
      have HC516_2:=Aside0.mk hl516_2
      clear hi516_2 hl516_2
      replace p516:=eq_true p516
      replace q516:=eq_true q516
      obtain⟨Ao15,co15,eo15⟩:=Kd.R_slice HO_516001.out
      (first|subst eo15|(injection eo15 with f1_ f2_ f3_;have f4_:=f1_.symm;have f5_:=f3_.symm;clear f1_ f2_ f3_;subst f4_;subst f5_))
      refine start_ (n:=11) (S:=fun w'=>w'.cell? ⟨gb515,0,none⟩=some (.int .i64 x516000_1)∧w'.cell? ⟨gb515,1,none⟩=some (.slice Ao15 x516001_1.length co15)∧w'.cell? (ad516.add ((x8_1).toNat*3))=some (.int .i64 ((rd_T32 l1 x8_1).f0))∧w'.cell? ⟨(ad516.add ((x8_1).toNat*3)).block,(ad516.add ((x8_1).toNat*3)).off+1,none⟩=some (.int .i64 ((rd_T32 l1 x8_1).f1))∧w'.cell? ⟨(ad516.add ((x8_1).toNat*3)).block,(ad516.add ((x8_1).toNat*3)).off+2,none⟩=some (.slice A516_2 ((rd_T32 l1 x8_1).f2).length c516_2)) (ds:=[9]) #[false,false,false,false,false,false,false,false,false,false,false] (by kernel_rfl) rfl rfl ⟨(blk_cell BK515.out 0).trans rfl,(blk_cell BK515.out 1).trans rfl,((HB.out.cell (World.block_lt_of_cell? w _ hw516_0)).trans hw516_0),((HB.out.cell (World.block_lt_of_cell? w _ hw516_1)).trans hw516_1),((HB.out.cell (World.block_lt_of_cell? w _ hw516_2)).trans hw516_2)⟩ (fun hHeld=>?_);refine with_tabW impl_StockOf.tab5 impl_StockOf.bits5 (fun HT_ HW_=>?_)
      generalize wr.drew=w14 at HO_516001 BK509 BK515 HB HR516_2 hx516_0 hx516_1 hx516_2 hHeld ⊢
      refine qaj (i:=1) (N:=some 25) (v:=?_) (a':=?_) #[false,true,false,false,false,false,false,false,false,false,false] rfl rfl (qah HT_.out (by kernel_rfl)) (fun _ _ _ h=>h) (Or.inl ⟨by rfl,?_⟩) ?_ ?_
      rotate_left
      ·intro w'
       go_simp
       with_reducible rfl
      rotate_left
      ·simp only[Act.put,List.setIfInBounds_toArray,List.set_cons_zero,List.set_cons_succ,qaf,qag]
       rfl
      refine qaj (i:=2) (N:=some 26) (v:=?_) (a':=?_) #[false,true,true,false,false,false,false,false,false,false,false] rfl rfl (qah HT_.out (by kernel_rfl)) (fun _ _ _ h=>h) (Or.inl ⟨by rfl,?_⟩) ?_ ?_
      rotate_left
      ·intro w'
       go_simp
       with_reducible rfl
      rotate_left
      ·simp only[Act.put,List.setIfInBounds_toArray,List.set_cons_zero,List.set_cons_succ,qaf,qag]
       rfl
      refine qaj (i:=3) (N:=some 27) (v:=?_) (a':=?_) #[false,true,true,true,false,false,false,false,false,false,false] rfl rfl (qah HT_.out (by kernel_rfl)) (fun _ _ _ h=>h) (Or.inl ⟨by rfl,?_⟩) ?_ ?_
      rotate_left
      ·intro w'
       go_simp
       with_reducible rfl
      rotate_left
      ·simp only[Act.put,List.setIfInBounds_toArray,List.set_cons_zero,List.set_cons_succ,qaf,qag]
       rfl
      refine take_ (i:=0) (N:=some 24) (v:=?_) (a':=?_) #[true,true,true,true,false,false,false,false,false,false,false] rfl rfl (qap HT_.out HW_.out (by kernel_rfl)) (fun _ _ _ h=>h) (Or.inl ⟨by rfl,?_⟩) hHeld ?_ ?_
      rotate_left
      ·rintro w' ⟨s0,s1,s2,s3,s4⟩
       go_simp
       with_reducible rfl
      rotate_left
      ·simp only[Act.put,List.setIfInBounds_toArray,List.set_cons_zero,List.set_cons_succ,qaf,qag]
       rfl
      refine take_ (i:=4) (N:=some 28) (v:=?_) (a':=?_) #[true,true,true,true,true,false,false,false,false,false,false] rfl rfl (qap HT_.out HW_.out (by kernel_rfl)) (fun _ _ _ h=>h) (Or.inl ⟨by rfl,?_⟩) hHeld ?_ ?_
      rotate_left
      ·rintro w' ⟨s0,s1,s2,s3,s4⟩
       go_simp
       with_reducible rfl
      rotate_left
      ·simp only[Act.put,List.setIfInBounds_toArray,List.set_cons_zero,List.set_cons_succ,qaf,qag]
       rfl
      refine one_ (i:=5) (N:=some 29) #[true,true,true,true,true,true,false,false,false,false,false] rfl rfl (one_of HT_.out (by kernel_rfl)) (by decide) (fun K hK=>?_)
      refine goes_ Try.func24 (by kernel_rfl) rfl #[.agg #[.int .i64 x516000_1,.slice Ao15 x516001_1.length co15],.agg #[.int .i64 ((rd_T32 l1 x8_1).f0),.int .i64 ((rd_T32 l1 x8_1).f1),.slice A516_2 ((rd_T32 l1 x8_1).f2).length c516_2]] (by rfl) rfl rfl (by(try simp only[List.map_toArray,List.map_cons,List.map_nil]);first|done|rfl|(simp only[List.length_drop,List.length_take];rfl)) ?_
      with_reducible refine(impl_StockDo.calls k1 x516000_1 _ _ x516001_1 ((rd_T32 l1 x8_1).f0) ((rd_T32 l1 x8_1).f1) _ _ ((rd_T32 l1 x8_1).f2) t517 t518 t521 _ ?side1 ?side2 ?side3 ?side4 A13.out).mono ?_
      (case side1=>repeat(first|exact(Kd.R_reads' HO_516001.out).2.2|(with_reducible refine Kd.C_alloc ?_ _)|(with_reducible refine Kd.C_drewN ?_ _)|(with_reducible refine Kd.C_drew ?_)))
      (case side2=>exact(Kd.R_reads' HO_516001.out).2.1)
      (case side3=>exact zR HR516_2 HB)
      (case side4=>exact HC516_2.out)
      rintro e w16 ⟨v519,rfl,ho0,hb⟩
      refine⟨_,rfl,?_⟩
      have HO520:=Aside0.mk (Kd.R_lower (Kd.R_new' ho0 (Kd.R_lt (za5 HO_516001))) (below_size (za2 HB GE509 GE515)))
      replace HO_516001:=Aside0.mk (Kd.R_elder' (za5 HO_516001) (Kd.R_base ho0) hb)
      replace BK509:=Aside0.mk (qaa (zB BK509) hb)
      replace BK515:=Aside0.mk (qaa (zB BK515) hb)
      replace HB:=Aside0.mk (qab (za2 HB GE509 GE515) hb)
      (try clear hb)
      (try clear hb2)
      (try clear hk)
      (try clear hi)
      (try clear ho0)
      obtain⟨Ao18,co18,eo18⟩:=Kd.R_slice HO520.out
      (first|subst eo18|(injection eo18 with f1_ f2_ f3_;have f4_:=f1_.symm;have f5_:=f3_.symm;clear f1_ f2_ f3_;subst f4_;subst f5_))
      refine hK.out _ _ ⟨(blk_cell BK515.out 0).trans rfl,(blk_cell BK515.out 1).trans rfl,((HB.out.cell (World.block_lt_of_cell? w _ hw516_0)).trans hw516_0),((HB.out.cell (World.block_lt_of_cell? w _ hw516_1)).trans hw516_1),((HB.out.cell (World.block_lt_of_cell? w _ hw516_2)).trans hw516_2)⟩ (fun hHeld=>?_)
      clear hK K
      refine norm_ (a':=?_) ?_ ?_
      rotate_left
      ·show Act.put _ (some 29) _=_
       simp only[Act.put,List.setIfInBounds_toArray,List.set_cons_zero,List.set_cons_succ,qaf,qag]
       rfl
      refine qaj (i:=6) (N:=some 23) (v:=?_) (a':=?_) #[true,true,true,true,true,true,true,false,false,false,false] rfl rfl (qah HT_.out (by kernel_rfl)) (fun _ _ _ h=>h) (Or.inl ⟨by rfl,?_⟩) ?_ ?_
      rotate_left
      ·intro w'
       go_simp
       with_reducible rfl
      rotate_left
      ·simp only[Act.put,List.setIfInBounds_toArray,List.set_cons_zero,List.set_cons_succ,qaf,qag]
       rfl
      refine qaj (i:=7) (N:=some 30) (v:=?_) (a':=?_) #[true,true,true,true,true,true,true,true,false,false,false] rfl rfl (qah HT_.out (by kernel_rfl)) (fun _ _ _ h=>h) (Or.inl ⟨by rfl,?_⟩) ?_ ?_
      rotate_left
      ·intro w'
       go_simp
       with_reducible rfl
      rotate_left
      ·simp only[Act.put,List.setIfInBounds_toArray,List.set_cons_zero,List.set_cons_succ,qaf,qag]
       rfl
      refine qaj (i:=8) (N:=some 31) (v:=?_) (a':=?_) #[true,true,true,true,true,true,true,true,true,false,false] rfl rfl (qah HT_.out (by kernel_rfl)) (fun _ _ _ h=>h) (Or.inl ⟨by rfl,?_⟩) ?_ ?_
      rotate_left
      ·intro w'
       go_simp
       with_reducible rfl
      rotate_left
      ·simp only[Act.put,List.setIfInBounds_toArray,List.set_cons_zero,List.set_cons_succ,qaf,qag]
       rfl
      refine last_ (i:=9) (N:=none) #[true,true,true,true,true,true,true,true,true,true,false] rfl rfl (one_of HT_.out (by kernel_rfl)) (by decide) (fun K hK=>?_)
      have hs17:w16.cell? ⟨gb515,0,none⟩=some (.int .i64 x516000_1):=(blk_cell BK515.out 0).trans rfl
      have hfs17:=blk_frozen BK515.out 0
      have hns17_0:=NB509_515.out
      have hms17_0:=NB515_509.out
      have hs19:w16.cell? ⟨gb515,1,none⟩=some (.slice Ao15 x516001_1.length co15):=(blk_cell BK515.out 1).trans rfl
      have hfs19:=blk_frozen BK515.out 1
      have hns19_0:=NB509_515.out
      have hms19_0:=NB515_509.out
      refine skip_ (w1:=?_) (by rfl) rfl ?_ ?_
      rotate_left
      ·go_simp
       rfl
      refine hK.out _ _ ?_
      clear hK K
      refine qaj (i:=10) (N:=some 7) (v:=?_) (a':=?_) #[true,true,true,true,true,true,true,true,true,true,true] rfl rfl (qah HT_.out (by kernel_rfl)) (fun _ _ _ h=>h) (Or.inl ⟨by rfl,?_⟩) ?_ ?_
      rotate_left
      ·intro w'
       go_simp
       with_reducible rfl
      rotate_left
      ·simp only[Act.put,List.setIfInBounds_toArray,List.set_cons_zero,List.set_cons_succ,qaf,qag]
       rfl
      refine done_ (done_of HT_.out (by kernel_rfl)) ?_
      try go_wp2
      go_roundg k1
      case measure=>have:=HK1.out;omega
      case rel=>exact⟨(t521),(wrap64 (x8_1+1)),(t517),(t518),(.slice Ao18 t518.length co18),(za43),(za43),H',⟨by have:=HK1.out;omega⟩,⟨by(with_reducible repeat(first|apply Kd.R_alloc|apply Kd.R_drewN|apply Kd.R_drew));exact Kd.R_mono (Kd.R_far (p:=⟨gb515,1,none⟩) (Kd.R_far (p:=⟨gb515,0,none⟩) (Kd.R_types HO520.out BK515.out (by decide)) (fun _ hk=>hk.2) (.int .i64 t517)) (fun _ hk=>hk.2) (.slice Ao18 t518.length co18)) (fun _ hk=>trivial)⟩,⟨za0 NB509_515 BK509⟩,⟨by(with_reducible repeat(first|refine blk_drewN ?_ _|refine blk_drew ?_|refine blk_alloc ?_ _));refine qad (cs:=#[.int .i64 t517,.slice Ao15 x516001_1.length co15]) ?_ 1 _ rfl;(with_reducible repeat(first|refine blk_drewN ?_ _|refine blk_drew ?_|refine blk_alloc ?_ _));refine qad (cs:=#[.int .i64 x516000_1,.slice Ao15 x516001_1.length co15]) ?_ 0 _ rfl;(with_reducible repeat(first|refine blk_drewN ?_ _|refine blk_drew ?_|refine blk_alloc ?_ _));exact BK515.out⟩,⟨za2 HB GE509 GE515⟩⟩
     ·rw[if_neg c12] at H
      exact absurd H (by simp)
    ·rw[if_neg c11] at H
     have c11b0:decide (x8_1<(l1.length:Int))=false:=decide_eq_false c11
     clear c11
     simp only[Option.some.injEq,Prod.mk.injEq] at H
     obtain⟨rfl,rfl,rfl⟩:=H
     have hnb20:=NB515_509.out
     have hnc20:=NB509_515.out
     obtain⟨hcz21_0,hcz21_1,hfz21_0,hfz21_1⟩:=zC2 BK515
     obtain⟨hcz22_0,hcz22_1,hfz22_0,hfz22_1⟩:=zC2 BK509
     obtain⟨Ao23,co23,eo23⟩:=Kd.R_slice HO_516001.out
     subst eo23
     go_wp2
     refine bodyPost_ret (results_ct rfl _ _ gb509 38 #[.int .i64 x516000_1,.slice Ao23 x516001_1.length co23] (0,0) _ rfl (by(with_reducible repeat(first|refine blk_drewN ?_ _|refine blk_drew ?_|refine blk_alloc ?_ _));refine qad (cs:=#[.int .i64 x516000_1,.slice none 0 0]) ?_ 1 _ rfl;(with_reducible repeat(first|refine blk_drewN ?_ _|refine blk_drew ?_|refine blk_alloc ?_ _));refine qad (cs:=#[.int .i64 0,.slice none 0 0]) ?_ 0 _ rfl;(with_reducible repeat(first|refine blk_drewN ?_ _|refine blk_drew ?_|refine blk_alloc ?_ _));exact BK509.out) Try.underlying38 rfl (by kernel_rfl)) rfl ?_
     exact⟨_,za16,by(with_reducible repeat(first|apply Kd.R_alloc|apply Kd.R_drewN|apply Kd.R_drew));exact Kd.R_mono (Kd.R_far (p:=⟨gb509,1,none⟩) (Kd.R_far (p:=⟨gb509,0,none⟩) (Kd.R_types HO_516001.out BK509.out (by decide)) (fun _ hk=>hk.2) (.int .i64 x516000_1)) (fun _ hk=>hk.2) (.slice Ao23 x516001_1.length co23)) (fun _ hk=>trivial),za2 HB GE509 GE515⟩
   ·replace c10:=Bool.eq_false_iff.mpr c10
    subst c10
    have H1:(some (x516000_1,x516001_1,false))=some (r1,r2,r3):=by rw[if_neg (show ¬(false=true) by decide)] at H;exact H
    clear H
    have H:=H1
    clear H1
    simp only[Option.some.injEq,Prod.mk.injEq] at H
    obtain⟨rfl,rfl,rfl⟩:=H
    have hnb24:=NB515_509.out
    have hnc24:=NB509_515.out
    obtain⟨hcz25_0,hcz25_1,hfz25_0,hfz25_1⟩:=zC2 BK515
    obtain⟨hcz26_0,hcz26_1,hfz26_0,hfz26_1⟩:=zC2 BK509
    obtain⟨Ao27,co27,eo27⟩:=Kd.R_slice HO_516001.out
    subst eo27
    go_wp2
    refine bodyPost_ret (results_ct rfl _ _ gb509 38 #[.int .i64 x516000_1,.slice Ao27 x516001_1.length co27] (0,0) _ rfl (by(with_reducible repeat(first|refine blk_drewN ?_ _|refine blk_drew ?_|refine blk_alloc ?_ _));refine qad (cs:=#[.int .i64 x516000_1,.slice none 0 0]) ?_ 1 _ rfl;(with_reducible repeat(first|refine blk_drewN ?_ _|refine blk_drew ?_|refine blk_alloc ?_ _));refine qad (cs:=#[.int .i64 0,.slice none 0 0]) ?_ 0 _ rfl;(with_reducible repeat(first|refine blk_drewN ?_ _|refine blk_drew ?_|refine blk_alloc ?_ _));exact BK509.out) Try.underlying38 rfl (by kernel_rfl)) rfl ?_
    exact⟨_,za16,by(with_reducible repeat(first|apply Kd.R_alloc|apply Kd.R_drewN|apply Kd.R_drew));exact Kd.R_mono (Kd.R_far (p:=⟨gb509,1,none⟩) (Kd.R_far (p:=⟨gb509,0,none⟩) (Kd.R_types HO_516001.out BK509.out (by decide)) (fun _ hk=>hk.2) (.int .i64 x516000_1)) (fun _ hk=>hk.2) (.slice Ao27 x516001_1.length co27)) (fun _ hk=>trivial),za2 HB GE509 GE515⟩
end Go.Proofs.Ytmbdphefnalenaa.Print
