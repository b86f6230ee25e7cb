-- Written by squeeze.py: not trusted, Lean checks it.
import Derived.Test.YtmbdphefnalenaaZK
namespace Go.Proofs.Ytmbdphefnalenaa.Print
open Go.RowKit Go.Proofs.YtmbdphefnalenaaW.PrintWords Go.Proofs.YtmbdphefnalenaaW.PrintLast Go.Proofs.YtmbdphefnalenaaW.PrintMore
attribute [local go_sem] max2_int min2_int max_two min_two max_three min_three max_four min_four
set_option linter.unusedVariables false
set_option linter.unusedSimpArgs false
theorem eqA49 (d:Nat) (w:World) (x0 y0:Int) (x1 y1:Int) :
  (Op.equalIn (d+2) 49 (.agg #[.int .i64 x0,.int .i64 x1]) (.agg #[.int .i64 y0,.int .i64 y1])).run Try.prog w=.ok (x0 == y0 && (x1 == y1)) w:=by
 refine eqA_of Try.underlying49 (by kernel_rfl) ?_
 refine eqf_cons (by rfl) (by go_simp;rfl) (by go_simp;rfl) (by go_simp) ?_
 exact eqf_last (by rfl) (by go_simp;rfl) (by go_simp;rfl) (by go_simp)
attribute [local go_sem high] eqA49
mutual
def laws_lnStock.j0:Nat→Bool→Int→List (S49)→Int→List (S49)→Option (Bool)
 |0,_,_,_,_,_=>none
 |k+1,x19,x523000,x523001,x524000,x524001=>if x19=true then(some false) else(laws_lnStock.l0 k 0 x523000 x523001 x524000 x524001)
def laws_lnStock.l0:Nat→Int→Int→List (S49)→Int→List (S49)→Option (Bool)
 |0,_,_,_,_,_=>none
 |k+1,x5,x523000,x523001,x524000,x524001=>if x5<(x523001.length:Int) then(if 0≤x5 then(if x5<(x524001.length:Int) then(if(!(((rd_T49 x523001 x5).f0) == ((rd_T49 x524001 x5).f0)) || (!(((rd_T49 x523001 x5).f1) == ((rd_T49 x524001 x5).f1))))=true then(some false) else(laws_lnStock.l0 k (wrap64 (x5+1)) x523000 x523001 x524000 x524001)) else(none)) else(none)) else(some true)
end
def laws_lnStock.f (k:Nat) (a0_0:Int) (l0_1:List (S49)) (a1_0:Int) (l1_1:List (S49)):Option (Bool):=if a0_0=a1_0 then(laws_lnStock.j0 k ((l0_1.length:Int) != (l1_1.length:Int)) a0_0 l0_1 a1_0 l1_1) else(laws_lnStock.j0 k true a0_0 l0_1 a1_0 l1_1)
theorem laws_lnStock.mono_l:∀k,(∀y0 y1 y2 y3 y4,LeO (laws_lnStock.j0 k y0 y1 y2 y3 y4) (laws_lnStock.j0 (k+1) y0 y1 y2 y3 y4))∧(∀y0 y1 y2 y3 y4,LeO (laws_lnStock.l0 k y0 y1 y2 y3 y4) (laws_lnStock.l0 (k+1) y0 y1 y2 y3 y4))
 |0=>⟨fun _ _ _ _ _ r h=>by simp[laws_lnStock.j0] at h,fun _ _ _ _ _ r h=>by simp[laws_lnStock.l0] at h⟩
 |k+1=>by
  obtain⟨ih0,ih1⟩:=laws_lnStock.mono_l k
  refine⟨?_,?_⟩
  ·intro y0 y1 y2 y3 y4
   unfold laws_lnStock.j0
   repeat' first
   |(with_reducible exact ih0 _ _ _ _ _)
   |(with_reducible exact ih1 _ _ _ _ _)
   |(with_reducible exact LeO.refl _)
   |(with_reducible exact LeO.none _)
   |(with_reducible refine LeO.ite ?_ ?_)
   |(with_reducible refine LeO.bind ?_ (fun _=>?_))
   |exact ih0 _ _ _ _ _
   |exact ih1 _ _ _ _ _
   |exact LeO.none _
   |refine LeO.ite ?_ ?_
   |refine LeO.bind ?_ (fun _=>?_)
  ·intro y0 y1 y2 y3 y4
   unfold laws_lnStock.l0
   repeat' first
   |(with_reducible exact ih0 _ _ _ _ _)
   |(with_reducible exact ih1 _ _ _ _ _)
   |(with_reducible exact LeO.refl _)
   |(with_reducible exact LeO.none _)
   |(with_reducible refine LeO.ite ?_ ?_)
   |(with_reducible refine LeO.bind ?_ (fun _=>?_))
   |exact ih0 _ _ _ _ _
   |exact ih1 _ _ _ _ _
   |exact LeO.none _
   |refine LeO.ite ?_ ?_
   |refine LeO.bind ?_ (fun _=>?_)
theorem laws_lnStock.mono:∀a0 a1 a2 a3 k,LeO (laws_lnStock.f k a0 a1 a2 a3) (laws_lnStock.f (k+1) a0 a1 a2 a3):=by
 intro a0 a1 a2 a3 k
 obtain⟨ih0,ih1⟩:=laws_lnStock.mono_l k
 unfold laws_lnStock.f
 repeat' first
   |(with_reducible exact ih0 _ _ _ _ _)
   |(with_reducible exact ih1 _ _ _ _ _)
   |(with_reducible exact LeO.refl _)
   |(with_reducible exact LeO.none _)
   |(with_reducible refine LeO.ite ?_ ?_)
   |(with_reducible refine LeO.bind ?_ (fun _=>?_))
   |exact ih0 _ _ _ _ _
   |exact ih1 _ _ _ _ _
   |exact LeO.none _
   |refine LeO.ite ?_ ?_
   |refine LeO.bind ?_ (fun _=>?_)
set_option maxHeartbeats 8000000 in
set_option maxRecDepth 100000 in
theorem laws_lnStock.calls (k:Nat) (a0_0:Int) (A0_1:Option Addr) (c0_1:Nat) (l0_1:List (S49)) (a1_0:Int) (A1_1:Option Addr) (c1_1:Nat) (l1_1:List (S49)) (r:Bool) (w:World) (hr0_1:Kd.C k49 w A0_1 l0_1.length l0_1) (hc0_1:l0_1.length≤c0_1) (hr1_1:Kd.C k49 w A1_1 l1_1.length l1_1) (hc1_1:l1_1.length≤c1_1) (h:laws_lnStock.f k a0_0 l0_1 a1_0 l1_1=some r) :
  Calls Try.prog 23 #[.agg #[.int .i64 a0_0,.slice A0_1 l0_1.length c0_1],.agg #[.int .i64 a1_0,.slice A1_1 l1_1.length c1_1]] w fun e w'=>e=.returned (.bool r)∧Below w.heap.size w w':=by
 have hu38:=Try.underlying38
 have hu49:=Try.underlying49
 have HR0_1:=Aside0.mk hr0_1
 have HC0_1:=Aside0.mk hc0_1
 clear hr0_1 hc0_1
 have HR1_1:=Aside0.mk hr1_1
 have HC1_1:=Aside0.mk hc1_1
 clear hr1_1 hc1_1
 have HB:=Aside0.mk (Below.refl w.heap.size w)
 have H:(if a0_0=a1_0 then(laws_lnStock.j0 k ((l0_1.length:Int) != (l1_1.length:Int)) a0_0 l0_1 a1_0 l1_1) else(laws_lnStock.j0 k true a0_0 l0_1 a1_0 l1_1))=some r:=h
 clear h
 have HC3:=Aside0.mk H
 clear H
 go_enter Try.func23,Try.ntmps23
 go_upto_region 1 with(first|((with_reducible refine qae (N:=2) rfl ?_);(try(refine gate_guard (by rfl) ?_;dsimp only));refine zX (N:=2) (cs:=#[.int .i64 a0_0,.slice A0_1 l0_1.length c0_1]) (t:=38) ?_;intro gb522 hg w4 hbox hb;have BK522:=Aside0.mk hbox;have GW522:=zH (w:=w) hg (za4 HB);have GE522:=GW522;replace HB:=Aside0.mk (qab (za4 HB) hb);clear hb hbox hg)|((with_reducible refine qae (N:=3) rfl ?_);(try(refine gate_guard (by rfl) ?_;dsimp only));refine zX (N:=3) (cs:=#[.int .i64 a1_0,.slice A1_1 l1_1.length c1_1]) (t:=38) ?_;intro gb523 hg w5 hbox hb;have BK523:=Aside0.mk hbox;have GW523:=zH (w:=w) hg (za1 HB GE522);have GE523:=GW523;replace HB:=Aside0.mk (qab (za1 HB GE522) hb);have NB522_523:=zL BK522 hg;have NB523_522:=zG BK522 hg;replace BK522:=Aside0.mk (qaa (zB BK522) hb);clear hb hbox hg))
 repeat(go_quiet(first|((with_reducible refine qae (N:=2) rfl ?_);(try(refine gate_guard (by rfl) ?_;dsimp only));refine zX (N:=2) (cs:=#[.int .i64 a0_0,.slice A0_1 l0_1.length c0_1]) (t:=38) ?_;intro gb522 hg w4 hbox hb;have BK522:=Aside0.mk hbox;have GW522:=zH (w:=w) hg (za4 HB);have GE522:=GW522;replace HB:=Aside0.mk (qab (za4 HB) hb);clear hb hbox hg)|((with_reducible refine qae (N:=3) rfl ?_);(try(refine gate_guard (by rfl) ?_;dsimp only));refine zX (N:=3) (cs:=#[.int .i64 a1_0,.slice A1_1 l1_1.length c1_1]) (t:=38) ?_;intro gb523 hg w5 hbox hb;have BK523:=Aside0.mk hbox;have GW523:=zH (w:=w) hg (za1 HB GE522);have GE523:=GW523;replace HB:=Aside0.mk (qab (za1 HB GE522) hb);have NB522_523:=zL BK522 hg;have NB523_522:=zG BK522 hg;replace BK522:=Aside0.mk (qaa (zB BK522) hb);clear hb hbox hg));go_upto_region 1 with(first|((with_reducible refine qae (N:=2) rfl ?_);(try(refine gate_guard (by rfl) ?_;dsimp only));refine zX (N:=2) (cs:=#[.int .i64 a0_0,.slice A0_1 l0_1.length c0_1]) (t:=38) ?_;intro gb522 hg w4 hbox hb;have BK522:=Aside0.mk hbox;have GW522:=zH (w:=w) hg (za4 HB);have GE522:=GW522;replace HB:=Aside0.mk (qab (za4 HB) hb);clear hb hbox hg)|((with_reducible refine qae (N:=3) rfl ?_);(try(refine gate_guard (by rfl) ?_;dsimp only));refine zX (N:=3) (cs:=#[.int .i64 a1_0,.slice A1_1 l1_1.length c1_1]) (t:=38) ?_;intro gb523 hg w5 hbox hb;have BK523:=Aside0.mk hbox;have GW523:=zH (w:=w) hg (za1 HB GE522);have GE523:=GW523;replace HB:=Aside0.mk (qab (za1 HB GE522) hb);have NB522_523:=zL BK522 hg;have NB523_522:=zG BK522 hg;replace BK522:=Aside0.mk (qaa (zB BK522) hb);clear hb hbox hg)))
 (try simp only[Act.put,List.setIfInBounds_toArray,List.set_cons_zero,List.set_cons_succ])
 go_cut [19] (fun v19 wc=>∃(kq:Nat) (x19_2:Bool),v19=.bool x19_2∧Aside0 (laws_lnStock.j0 kq x19_2 a0_0 l0_1 a1_0 l1_1=some r)∧Aside0 (kq≤k)∧Aside0 (wc.heap[gb522]?=some (.cells #[.int .i64 a0_0,(.slice A0_1 l0_1.length c0_1)] 38 (0,0)))∧Aside0 (wc.heap[gb523]?=some (.cells #[.int .i64 a1_0,(.slice A1_1 l1_1.length c1_1)] 38 (0,0)))∧Aside0 (Below w.heap.size w wc))
 case first=>
  have H:=HC3.out
  clear HC3
  by_cases c6:a0_0=a1_0
  ·rw[if_pos c6] at H
   have c6b0:(a0_0 == a1_0)=true:=beq_iff_eq.mpr c6
   have c6b1:(a0_0 != a1_0)=false:=bne_eq_false_iff_eq.mpr c6
   clear c6
   (first|rw[c6b0]|(simp only[qaf,qag];rw[c6b0])|skip)
   have H':=Aside0.mk H
   clear H
   have hnb7:=NB522_523.out
   have hnc7:=NB523_522.out
   obtain⟨hcz8_0,hcz8_1,hfz8_0,hfz8_1⟩:=zC2 BK522
   obtain⟨hcz9_0,hcz9_1,hfz9_0,hfz9_1⟩:=zC2 BK523
   go_wp2
   repeat(go_quiet(fail);try go_wp2)
   go_meet
   case rel=>exact⟨_,(((l0_1.length:Int) != (l1_1.length:Int))),(za43),H',⟨za57⟩,⟨za24 BK522⟩,⟨za24 BK523⟩,⟨za2 HB GE522 GE523⟩⟩
  ·rw[if_neg c6] at H
   have c6b0:(a0_0 == a1_0)=false:=beq_eq_false_iff_ne.mpr c6
   have c6b1:(a0_0 != a1_0)=true:=bne_iff_ne.mpr c6
   (first|rw[c6b0]|(simp only[qaf,qag];rw[c6b0])|skip)
   have H':=Aside0.mk H
   clear H
   have hnb10:=NB522_523.out
   have hnc10:=NB523_522.out
   obtain⟨hcz11_0,hcz11_1,hfz11_0,hfz11_1⟩:=zC2 BK522
   obtain⟨hcz12_0,hcz12_1,hfz12_0,hfz12_1⟩:=zC2 BK523
   go_wp2
   repeat(go_quiet(fail);try go_wp2)
   go_meet
   case rel=>exact⟨_,(true),(za43),H',⟨za57⟩,⟨za24 BK522⟩,⟨za24 BK523⟩,⟨za2 HB GE522 GE523⟩⟩
 case rest=>
  clear HC3
  try clear c1
  try clear c2
  try clear p2
  try clear c6
  try clear c6b0
  try clear c6b1
  try clear c7
  try clear c10
  try clear hcz11_0
  try clear hcz11_1
  try clear hcz12_0
  try clear hcz12_1
  try clear hcz8_0
  try clear hcz8_1
  try clear hcz9_0
  try clear hcz9_1
  try clear hfz11_0
  try clear hfz11_1
  try clear hfz12_0
  try clear hfz12_1
  try clear hfz8_0
  try clear hfz8_1
  try clear hfz9_0
  try clear hfz9_1
  obtain⟨kq,x19_2,rfl,HA,HJ2,BK522,BK523,HB⟩:=hcut
  cases kq with
  |zero=>exact absurd HA.out (by simp[laws_lnStock.j0])
  |succ kj2=>
   have H:=HA.out
   clear HA
   simp only[laws_lnStock.j0] at H
   by_cases c13:x19_2=true
   ·subst c13
    have H1:(some false)=some r:=by rw[if_pos rfl] at H;exact H
    clear H
    have H:=H1
    clear H1
    obtain rfl:=Option.some.inj H
    go_wp2
    repeat(go_quiet(fail);try go_wp2)
    go_ret
    exact⟨za16,za2 HB GE522 GE523⟩
   ·replace c13:=Bool.eq_false_iff.mpr c13
    subst c13
    have H1:(laws_lnStock.l0 kj2 0 a0_0 l0_1 a1_0 l1_1)=some r:=by rw[if_neg (show ¬(false=true) by decide)] at H;exact H
    clear H
    have H:=H1
    clear H1
    have H':=Aside0.mk H
    clear H
    go_wp2
    repeat(go_quiet(fail);try go_wp2)
    go_loopg [5] kj2 (fun kq v5 w'=>∃(x5_2:Int),v5=.int .i64 x5_2∧Aside0 (laws_lnStock.l0 kq x5_2 a0_0 l0_1 a1_0 l1_1=some r)∧Aside0 (kq≤kj2)∧Aside0 (w'.heap[gb522]?=some (.cells #[.int .i64 a0_0,(.slice A0_1 l0_1.length c0_1)] 38 (0,0)))∧Aside0 (w'.heap[gb523]?=some (.cells #[.int .i64 a1_0,(.slice A1_1 l1_1.length c1_1)] 38 (0,0)))∧Aside0 (Below w.heap.size w w'))
    case atStart=>exact⟨(0),(za43),H',⟨Nat.le_refl _⟩,⟨za24 BK522⟩,⟨za24 BK523⟩,⟨za2 HB GE522 GE523⟩⟩
    case round=>
     clear H'
     try clear c1
     try clear c2
     try clear p2
     try clear c6
     try clear c6b0
     try clear c6b1
     try clear c7
     try clear c10
     try clear c13
     try clear hcz11_0
     try clear hcz11_1
     try clear hcz12_0
     try clear hcz12_1
     try clear hcz8_0
     try clear hcz8_1
     try clear hcz9_0
     try clear hcz9_1
     try clear hfz11_0
     try clear hfz11_1
     try clear hfz12_0
     try clear hfz12_1
     try clear hfz8_0
     try clear hfz8_1
     try clear hfz9_0
     try clear hfz9_1
     try clear p2
     obtain⟨x5_2,rfl,HA,HK2,BK522,BK523,HB⟩:=hrel
     cases gk with
     |zero=>exact absurd HA.out (by simp[laws_lnStock.l0])
     |succ k2=>
      have H:=HA.out
      clear HA
      simp only[laws_lnStock.l0] at H
      by_cases c14:x5_2<(l0_1.length:Int)
      ·rw[if_pos c14] at H
       have c14b0:decide (x5_2<(l0_1.length:Int))=true:=decide_eq_true c14
       clear c14
       by_cases c15:0≤x5_2
       ·rw[if_pos c15] at H
        have c15b0:decide (0≤x5_2)=true:=decide_eq_true c15
        clear c15
        by_cases c16:x5_2<(l1_1.length:Int)
        ·rw[if_pos c16] at H
         have c16b0:decide (x5_2<(l1_1.length:Int))=true:=decide_eq_true c16
         clear c16
         by_cases c17:(!(((rd_T49 l0_1 x5_2).f0) == ((rd_T49 l1_1 x5_2).f0)) || (!(((rd_T49 l0_1 x5_2).f1) == ((rd_T49 l1_1 x5_2).f1))))=true
         ·rw[if_pos c17] at H
          have c17b0:(!(((rd_T49 l0_1 x5_2).f0) == ((rd_T49 l1_1 x5_2).f0)) || (!(((rd_T49 l0_1 x5_2).f1) == ((rd_T49 l1_1 x5_2).f1))))=true:=c17
          clear c17
          obtain rfl:=Option.some.inj H
          have hnb18:=NB522_523.out
          have hnc18:=NB523_522.out
          obtain⟨hcz19_0,hcz19_1,hfz19_0,hfz19_1⟩:=zC2 BK522
          have p524:0≤(x5_2:Int):=of_decide_eq_true (za9)
          have q524:x5_2<(l0_1.length:Int):=of_decide_eq_true (za9)
          obtain⟨ad524,e524,hx524_0,hx524_1⟩:=at_T49 HR0_1.out x5_2 p524 q524
          cases e524
          replace hx524_0:=(HB.out.cell (World.block_lt_of_cell? w _ hx524_0)).trans hx524_0
          replace hx524_1:=(HB.out.cell (World.block_lt_of_cell? w _ hx524_1)).trans hx524_1
          replace p524:=eq_true p524
          replace q524:=eq_true q524
          obtain⟨hcz20_0,hcz20_1,hfz20_0,hfz20_1⟩:=zC2 BK523
          have p525:0≤(x5_2:Int):=of_decide_eq_true (za9)
          have q525:x5_2<(l1_1.length:Int):=of_decide_eq_true (za9)
          obtain⟨ad525,e525,hx525_0,hx525_1⟩:=at_T49 HR1_1.out x5_2 p525 q525
          cases e525
          replace hx525_0:=(HB.out.cell (World.block_lt_of_cell? w _ hx525_0)).trans hx525_0
          replace hx525_1:=(HB.out.cell (World.block_lt_of_cell? w _ hx525_1)).trans hx525_1
          replace p525:=eq_true p525
          replace q525:=eq_true q525
          go_wp2
          repeat(go_quiet(fail);try go_wp2)
          go_ret
          exact⟨za16,za2 HB GE522 GE523⟩
         ·rw[if_neg c17] at H
          have c17b0:(!(((rd_T49 l0_1 x5_2).f0) == ((rd_T49 l1_1 x5_2).f0)) || (!(((rd_T49 l0_1 x5_2).f1) == ((rd_T49 l1_1 x5_2).f1))))=false:=by simpa using c17
          clear c17
          have H':=Aside0.mk H
          clear H
          have hnb21:=NB522_523.out
          have hnc21:=NB523_522.out
          obtain⟨hcz22_0,hcz22_1,hfz22_0,hfz22_1⟩:=zC2 BK522
          have p524:0≤(x5_2:Int):=of_decide_eq_true (za9)
          have q524:x5_2<(l0_1.length:Int):=of_decide_eq_true (za9)
          obtain⟨ad524,e524,hx524_0,hx524_1⟩:=at_T49 HR0_1.out x5_2 p524 q524
          cases e524
          replace hx524_0:=(HB.out.cell (World.block_lt_of_cell? w _ hx524_0)).trans hx524_0
          replace hx524_1:=(HB.out.cell (World.block_lt_of_cell? w _ hx524_1)).trans hx524_1
          replace p524:=eq_true p524
          replace q524:=eq_true q524
          obtain⟨hcz23_0,hcz23_1,hfz23_0,hfz23_1⟩:=zC2 BK523
          have p525:0≤(x5_2:Int):=of_decide_eq_true (za9)
          have q525:x5_2<(l1_1.length:Int):=of_decide_eq_true (za9)
          obtain⟨ad525,e525,hx525_0,hx525_1⟩:=at_T49 HR1_1.out x5_2 p525 q525
          cases e525
          replace hx525_0:=(HB.out.cell (World.block_lt_of_cell? w _ hx525_0)).trans hx525_0
          replace hx525_1:=(HB.out.cell (World.block_lt_of_cell? w _ hx525_1)).trans hx525_1
          replace p525:=eq_true p525
          replace q525:=eq_true q525
          go_wp2
          repeat(go_quiet(fail);try go_wp2)
          go_roundg k2
          case measure=>have:=HJ2.out;have:=HK2.out;omega
          case rel=>exact⟨(wrap64 (x5_2+1)),(za43),H',⟨by have:=HJ2.out;have:=HK2.out;omega⟩,⟨za24 BK522⟩,⟨za24 BK523⟩,⟨za2 HB GE522 GE523⟩⟩
        ·rw[if_neg c16] at H
         exact absurd H (by simp)
       ·rw[if_neg c15] at H
        exact absurd H (by simp)
      ·rw[if_neg c14] at H
       have c14b0:decide (x5_2<(l0_1.length:Int))=false:=decide_eq_false c14
       clear c14
       obtain rfl:=Option.some.inj H
       have hnb24:=NB522_523.out
       have hnc24:=NB523_522.out
       obtain⟨hcz25_0,hcz25_1,hfz25_0,hfz25_1⟩:=zC2 BK522
       go_wp2
       repeat(go_quiet(fail);try go_wp2)
       go_ret
       exact⟨za16,za2 HB GE522 GE523⟩
end Go.Proofs.Ytmbdphefnalenaa.Print
