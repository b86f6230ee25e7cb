-- Written by squeeze.py: not trusted, Lean checks it.
import Derived.Test.YtmbdphefnalenaaZK
import Derived.Test.YtmbdphefnalenaaZa0
import Derived.Test.YtmbdphefnalenaaZa10
namespace Go.Proofs.Ytmbdphefnalenaa.Print
open Go.RowKit Go.Proofs.YtmbdphefnalenaaW.PrintWords Go.Proofs.YtmbdphefnalenaaW.PrintLast Go.Proofs.YtmbdphefnalenaaW.PrintMore
attribute [local go_sem] max2_int min2_int max_two min_two max_three min_three max_four min_four
set_option linter.unusedVariables false
set_option linter.unusedSimpArgs false
attribute [local go_sem high] eqA49
mutual
def laws_lnStock.j0:Nat→Bool→Int→List (S49)→Int→List (S49)→Option (Bool)
 |0,_,_,_,_,_=>none
 |k+1,x19,x583000,x583001,x584000,x584001=>if x19=true then(some false) else(laws_lnStock.l0 k 0 x583000 x583001 x584000 x584001)
def laws_lnStock.l0:Nat→Int→Int→List (S49)→Int→List (S49)→Option (Bool)
 |0,_,_,_,_,_=>none
 |k+1,x5,x583000,x583001,x584000,x584001=>if x5<(x583001.length:Int) then(if 0≤x5 then(if x5<(x584001.length:Int) then(if(!(((rd_T49 x583001 x5).f0) == ((rd_T49 x584001 x5).f0)) || (!(((rd_T49 x583001 x5).f1) == ((rd_T49 x584001 x5).f1))))=true then(some false) else(laws_lnStock.l0 k (wrap64 (x5+1)) x583000 x583001 x584000 x584001)) else(none)) else(none)) else(some true)
end
def laws_lnStock.f (k:Nat) (a0_0:Int) (l0_1:List (S49)) (a1_0:Int) (l1_1:List (S49)):Option (Bool):=if a0_0=a1_0 then(laws_lnStock.j0 k ((l0_1.length:Int) != (l1_1.length:Int)) a0_0 l0_1 a1_0 l1_1) else(laws_lnStock.j0 k true a0_0 l0_1 a1_0 l1_1)
theorem laws_lnStock.mono_l:∀k,(∀y0 y1 y2 y3 y4,LeO (laws_lnStock.j0 k y0 y1 y2 y3 y4) (laws_lnStock.j0 (k+1) y0 y1 y2 y3 y4))∧(∀y0 y1 y2 y3 y4,LeO (laws_lnStock.l0 k y0 y1 y2 y3 y4) (laws_lnStock.l0 (k+1) y0 y1 y2 y3 y4))
 |0=>⟨fun _ _ _ _ _ r h=>by simp[laws_lnStock.j0] at h,fun _ _ _ _ _ r h=>by simp[laws_lnStock.l0] at h⟩
 |k+1=>by
  obtain⟨ih0,ih1⟩:=laws_lnStock.mono_l k;refine⟨?_,?_⟩
  ·intro y0 y1 y2 y3 y4;unfold laws_lnStock.j0
   repeat' first|(with_reducible exact ih0 _ _ _ _ _)|(with_reducible exact ih1 _ _ _ _ _)|(with_reducible exact LeO.refl _)|(with_reducible exact LeO.none _)|(with_reducible refine LeO.ite ?_ ?_)|(with_reducible refine LeO.bind ?_ (fun _=>?_))|exact ih0 _ _ _ _ _|exact ih1 _ _ _ _ _|exact LeO.none _|refine LeO.ite ?_ ?_|refine LeO.bind ?_ (fun _=>?_)
  ·intro y0 y1 y2 y3 y4;unfold laws_lnStock.l0
   repeat' first|(with_reducible exact ih0 _ _ _ _ _)|(with_reducible exact ih1 _ _ _ _ _)|(with_reducible exact LeO.refl _)|(with_reducible exact LeO.none _)|(with_reducible refine LeO.ite ?_ ?_)|(with_reducible refine LeO.bind ?_ (fun _=>?_))|exact ih0 _ _ _ _ _|exact ih1 _ _ _ _ _|exact LeO.none _|refine LeO.ite ?_ ?_|refine LeO.bind ?_ (fun _=>?_)
theorem laws_lnStock.mono:∀a0 a1 a2 a3 k,LeO (laws_lnStock.f k a0 a1 a2 a3) (laws_lnStock.f (k+1) a0 a1 a2 a3):=by
 intro a0 a1 a2 a3 k;obtain⟨ih0,ih1⟩:=laws_lnStock.mono_l k;unfold laws_lnStock.f
 repeat' first|(with_reducible exact ih0 _ _ _ _ _)|(with_reducible exact ih1 _ _ _ _ _)|(with_reducible exact LeO.refl _)|(with_reducible exact LeO.none _)|(with_reducible refine LeO.ite ?_ ?_)|(with_reducible refine LeO.bind ?_ (fun _=>?_))|exact ih0 _ _ _ _ _|exact ih1 _ _ _ _ _|exact LeO.none _|refine LeO.ite ?_ ?_|refine LeO.bind ?_ (fun _=>?_)
set_option maxHeartbeats 8000000 in
set_option maxRecDepth 100000 in
theorem laws_lnStock.calls (k:Nat) (a0_0:Int) (A0_1:Option Addr) (c0_1:Nat) (l0_1:List (S49)) (a1_0:Int) (A1_1:Option Addr) (c1_1:Nat) (l1_1:List (S49)) (r:Bool) (w:World) (hr0_1:Kd.C k49 w A0_1 l0_1.length l0_1) (hc0_1:l0_1.length≤c0_1) (hr1_1:Kd.C k49 w A1_1 l1_1.length l1_1) (hc1_1:l1_1.length≤c1_1) (h:laws_lnStock.f k a0_0 l0_1 a1_0 l1_1=some r) :
  Calls Try.prog 23 #[.agg #[.int .i64 a0_0,.slice A0_1 l0_1.length c0_1],.agg #[.int .i64 a1_0,.slice A1_1 l1_1.length c1_1]] w fun e w'=>e=.returned (.bool r)∧Below w.heap.size w w':=by
 have hu38:=Try.underlying38;have hu49:=Try.underlying49;have HR0_1:=qae.mk hr0_1;have HC0_1:=qae.mk hc0_1;clear hr0_1 hc0_1;have HR1_1:=qae.mk hr1_1;have HC1_1:=qae.mk hc1_1;clear hr1_1 hc1_1;have HB:=qae.mk (Below.refl w.heap.size w);have H:(if a0_0=a1_0 then(laws_lnStock.j0 k ((l0_1.length:Int) != (l1_1.length:Int)) a0_0 l0_1 a1_0 l1_1) else(laws_lnStock.j0 k true a0_0 l0_1 a1_0 l1_1))=some r:=h;clear h;have HC3:=qae.mk H;clear H;go_enter Try.func23,Try.ntmps23
 go_upto_region 1 with(first|((with_reducible refine qai (N:=2) rfl ?_);(try(refine gate_guard (by rfl) ?_;dsimp only));refine zX (N:=2) (cs:=#[.int .i64 a0_0,.slice A0_1 l0_1.length c0_1]) (t:=38) ?_;intro gb582 hg w4 hbox hb;have BK582:=qae.mk hbox;have GW582:=zH (w:=w) hg (za3 HB);have GE582:=GW582;replace HB:=qae.mk (qad (za3 HB) hb);clear hb hbox hg)|((with_reducible refine qai (N:=3) rfl ?_);(try(refine gate_guard (by rfl) ?_;dsimp only));refine zX (N:=3) (cs:=#[.int .i64 a1_0,.slice A1_1 l1_1.length c1_1]) (t:=38) ?_;intro gb583 hg w5 hbox hb;have BK583:=qae.mk hbox;have GW583:=zH (w:=w) hg (za1 HB GE582);have GE583:=GW583;replace HB:=qae.mk (qad (za1 HB GE582) hb);have NB582_583:=zL BK582 hg;have NB583_582:=zG BK582 hg;replace BK582:=zY BK582 hb;clear hb hbox hg))
 repeat(go_quiet(first|((with_reducible refine qai (N:=2) rfl ?_);(try(refine gate_guard (by rfl) ?_;dsimp only));refine zX (N:=2) (cs:=#[.int .i64 a0_0,.slice A0_1 l0_1.length c0_1]) (t:=38) ?_;intro gb582 hg w4 hbox hb;have BK582:=qae.mk hbox;have GW582:=zH (w:=w) hg (za3 HB);have GE582:=GW582;replace HB:=qae.mk (qad (za3 HB) hb);clear hb hbox hg)|((with_reducible refine qai (N:=3) rfl ?_);(try(refine gate_guard (by rfl) ?_;dsimp only));refine zX (N:=3) (cs:=#[.int .i64 a1_0,.slice A1_1 l1_1.length c1_1]) (t:=38) ?_;intro gb583 hg w5 hbox hb;have BK583:=qae.mk hbox;have GW583:=zH (w:=w) hg (za1 HB GE582);have GE583:=GW583;replace HB:=qae.mk (qad (za1 HB GE582) hb);have NB582_583:=zL BK582 hg;have NB583_582:=zG BK582 hg;replace BK582:=zY BK582 hb;clear hb hbox hg));go_upto_region 1 with(first|((with_reducible refine qai (N:=2) rfl ?_);(try(refine gate_guard (by rfl) ?_;dsimp only));refine zX (N:=2) (cs:=#[.int .i64 a0_0,.slice A0_1 l0_1.length c0_1]) (t:=38) ?_;intro gb582 hg w4 hbox hb;have BK582:=qae.mk hbox;have GW582:=zH (w:=w) hg (za3 HB);have GE582:=GW582;replace HB:=qae.mk (qad (za3 HB) hb);clear hb hbox hg)|((with_reducible refine qai (N:=3) rfl ?_);(try(refine gate_guard (by rfl) ?_;dsimp only));refine zX (N:=3) (cs:=#[.int .i64 a1_0,.slice A1_1 l1_1.length c1_1]) (t:=38) ?_;intro gb583 hg w5 hbox hb;have BK583:=qae.mk hbox;have GW583:=zH (w:=w) hg (za1 HB GE582);have GE583:=GW583;replace HB:=qae.mk (qad (za1 HB GE582) hb);have NB582_583:=zL BK582 hg;have NB583_582:=zG BK582 hg;replace BK582:=zY BK582 hb;clear hb hbox hg)))
 (try simp only[Act.put,List.setIfInBounds_toArray,List.set_cons_zero,List.set_cons_succ])
 go_cut [19] (fun v19 wc=>∃(kq:Nat) (x19_2:Bool),v19=.bool x19_2∧qae (laws_lnStock.j0 kq x19_2 a0_0 l0_1 a1_0 l1_1=some r)∧qae (kq≤k)∧qae (wc.heap[gb582]?=some (.cells #[.int .i64 a0_0,(.slice A0_1 l0_1.length c0_1)] 38 (0,0)))∧qae (wc.heap[gb583]?=some (.cells #[.int .i64 a1_0,(.slice A1_1 l1_1.length c1_1)] 38 (0,0)))∧qae (Below w.heap.size w wc))
 case first=>
  have H:=HC3.out;clear HC3;by_cases c6:a0_0=a1_0
  ·rw[if_pos c6] at H;have c6b0:(a0_0 == a1_0)=true:=beq_iff_eq.mpr c6;have c6b1:(a0_0 != a1_0)=false:=bne_eq_false_iff_eq.mpr c6;clear c6;(first|rw[c6b0]|(simp only[qaj,qak];rw[c6b0])|skip);have H':=qae.mk H;clear H;have hnb7:=NB582_583.out;have hnc7:=NB583_582.out;obtain⟨hcz8_0,hcz8_1,hfz8_0,hfz8_1⟩:=zC2 BK582;obtain⟨hcz9_0,hcz9_1,hfz9_0,hfz9_1⟩:=zC2 BK583;go_wp2
   repeat(go_quiet(fail);try go_wp2)
   go_meet
   case rel=>exact⟨_,(((l0_1.length:Int) != (l1_1.length:Int))),(za46),H',⟨za48⟩,⟨za21 BK582⟩,⟨za21 BK583⟩,⟨za4 HB GE582 GE583⟩⟩
  ·rw[if_neg c6] at H;have c6b0:(a0_0 == a1_0)=false:=beq_eq_false_iff_ne.mpr c6;have c6b1:(a0_0 != a1_0)=true:=bne_iff_ne.mpr c6;(first|rw[c6b0]|(simp only[qaj,qak];rw[c6b0])|skip);have H':=qae.mk H;clear H;have hnb10:=NB582_583.out;have hnc10:=NB583_582.out;obtain⟨hcz11_0,hcz11_1,hfz11_0,hfz11_1⟩:=zC2 BK582;obtain⟨hcz12_0,hcz12_1,hfz12_0,hfz12_1⟩:=zC2 BK583;go_wp2
   repeat(go_quiet(fail);try go_wp2)
   go_meet
   case rel=>exact⟨_,(true),(za46),H',⟨za48⟩,⟨za21 BK582⟩,⟨za21 BK583⟩,⟨za4 HB GE582 GE583⟩⟩
 case rest=>
  clear HC3
  try clear c1
  try clear c2
  try clear p2
  try clear c6
  try clear c6b0
  try clear c6b1
  try clear c7
  try clear c10
  try clear hcz11_0
  try clear hcz11_1
  try clear hcz12_0
  try clear hcz12_1
  try clear hcz8_0
  try clear hcz8_1
  try clear hcz9_0
  try clear hcz9_1
  try clear hfz11_0
  try clear hfz11_1
  try clear hfz12_0
  try clear hfz12_1
  try clear hfz8_0
  try clear hfz8_1
  try clear hfz9_0
  try clear hfz9_1
  obtain⟨kq,x19_2,rfl,HA,HJ2,BK582,BK583,HB⟩:=hcut
  cases kq with
  |zero=>exact absurd HA.out (by simp[laws_lnStock.j0])
  |succ kj2=>
   have H:=HA.out;clear HA;simp only[laws_lnStock.j0] at H;by_cases c13:x19_2=true
   ·subst c13
    have H1:(some false)=some r:=by rw[if_pos rfl] at H;exact H
    clear H;have H:=H1;clear H1;obtain rfl:=Option.some.inj H;go_wp2
    repeat(go_quiet(fail);try go_wp2)
    go_ret;exact⟨za27,za4 HB GE582 GE583⟩
   ·replace c13:=Bool.eq_false_iff.mpr c13;subst c13
    have H1:(laws_lnStock.l0 kj2 0 a0_0 l0_1 a1_0 l1_1)=some r:=by rw[if_neg (show ¬(false=true) by decide)] at H;exact H
    clear H;have H:=H1;clear H1;have H':=qae.mk H;clear H;go_wp2
    repeat(go_quiet(fail);try go_wp2)
    go_loopg [5] kj2 (fun kq v5 w'=>∃(x5_2:Int),v5=.int .i64 x5_2∧qae (laws_lnStock.l0 kq x5_2 a0_0 l0_1 a1_0 l1_1=some r)∧qae (kq≤kj2)∧qae (w'.heap[gb582]?=some (.cells #[.int .i64 a0_0,(.slice A0_1 l0_1.length c0_1)] 38 (0,0)))∧qae (w'.heap[gb583]?=some (.cells #[.int .i64 a1_0,(.slice A1_1 l1_1.length c1_1)] 38 (0,0)))∧qae (Below w.heap.size w w'))
    case atStart=>exact⟨(0),(za46),H',⟨Nat.le_refl _⟩,⟨za21 BK582⟩,⟨za21 BK583⟩,⟨za4 HB GE582 GE583⟩⟩
    case round=>
     clear H'
     try clear c1
     try clear c2
     try clear p2
     try clear c6
     try clear c6b0
     try clear c6b1
     try clear c7
     try clear c10
     try clear c13
     try clear hcz11_0
     try clear hcz11_1
     try clear hcz12_0
     try clear hcz12_1
     try clear hcz8_0
     try clear hcz8_1
     try clear hcz9_0
     try clear hcz9_1
     try clear hfz11_0
     try clear hfz11_1
     try clear hfz12_0
     try clear hfz12_1
     try clear hfz8_0
     try clear hfz8_1
     try clear hfz9_0
     try clear hfz9_1
     try clear p2
     obtain⟨x5_2,rfl,HA,HK2,BK582,BK583,HB⟩:=hrel
     cases gk with
     |zero=>exact absurd HA.out (by simp[laws_lnStock.l0])
     |succ k2=>
      have H:=HA.out;clear HA;simp only[laws_lnStock.l0] at H;by_cases c14:x5_2<(l0_1.length:Int)
      ·rw[if_pos c14] at H;have c14b0:decide (x5_2<(l0_1.length:Int))=true:=decide_eq_true c14;clear c14;by_cases c15:0≤x5_2
       ·rw[if_pos c15] at H;have c15b0:decide (0≤x5_2)=true:=decide_eq_true c15;clear c15;by_cases c16:x5_2<(l1_1.length:Int)
        ·rw[if_pos c16] at H;have c16b0:decide (x5_2<(l1_1.length:Int))=true:=decide_eq_true c16;clear c16;by_cases c17:(!(((rd_T49 l0_1 x5_2).f0) == ((rd_T49 l1_1 x5_2).f0)) || (!(((rd_T49 l0_1 x5_2).f1) == ((rd_T49 l1_1 x5_2).f1))))=true
         ·rw[if_pos c17] at H;have c17b0:(!(((rd_T49 l0_1 x5_2).f0) == ((rd_T49 l1_1 x5_2).f0)) || (!(((rd_T49 l0_1 x5_2).f1) == ((rd_T49 l1_1 x5_2).f1))))=true:=c17;clear c17;obtain rfl:=Option.some.inj H;have hnb18:=NB582_583.out;have hnc18:=NB583_582.out;obtain⟨hcz19_0,hcz19_1,hfz19_0,hfz19_1⟩:=zC2 BK582;have p584:0≤(x5_2:Int):=of_decide_eq_true (za6);have q584:x5_2<(l0_1.length:Int):=of_decide_eq_true (za6);obtain⟨ad584,e584,hx584_0,hx584_1⟩:=at_T49 HR0_1.out x5_2 p584 q584
          cases e584
          replace hx584_0:=(HB.out.cell (World.block_lt_of_cell? w _ hx584_0)).trans hx584_0;replace hx584_1:=(HB.out.cell (World.block_lt_of_cell? w _ hx584_1)).trans hx584_1;replace p584:=eq_true p584;replace q584:=eq_true q584;obtain⟨hcz20_0,hcz20_1,hfz20_0,hfz20_1⟩:=zC2 BK583;have p585:0≤(x5_2:Int):=of_decide_eq_true (za6);have q585:x5_2<(l1_1.length:Int):=of_decide_eq_true (za6);obtain⟨ad585,e585,hx585_0,hx585_1⟩:=at_T49 HR1_1.out x5_2 p585 q585
          cases e585
          replace hx585_0:=(HB.out.cell (World.block_lt_of_cell? w _ hx585_0)).trans hx585_0;replace hx585_1:=(HB.out.cell (World.block_lt_of_cell? w _ hx585_1)).trans hx585_1;replace p585:=eq_true p585;replace q585:=eq_true q585;go_wp2
          repeat(go_quiet(fail);try go_wp2)
          go_ret;exact⟨za27,za4 HB GE582 GE583⟩
         ·rw[if_neg c17] at H
          have c17b0:(!(((rd_T49 l0_1 x5_2).f0) == ((rd_T49 l1_1 x5_2).f0)) || (!(((rd_T49 l0_1 x5_2).f1) == ((rd_T49 l1_1 x5_2).f1))))=false:=by simpa using c17
          clear c17;have H':=qae.mk H;clear H;have hnb21:=NB582_583.out;have hnc21:=NB583_582.out;obtain⟨hcz22_0,hcz22_1,hfz22_0,hfz22_1⟩:=zC2 BK582;have p584:0≤(x5_2:Int):=of_decide_eq_true (za6);have q584:x5_2<(l0_1.length:Int):=of_decide_eq_true (za6);obtain⟨ad584,e584,hx584_0,hx584_1⟩:=at_T49 HR0_1.out x5_2 p584 q584
          cases e584
          replace hx584_0:=(HB.out.cell (World.block_lt_of_cell? w _ hx584_0)).trans hx584_0;replace hx584_1:=(HB.out.cell (World.block_lt_of_cell? w _ hx584_1)).trans hx584_1;replace p584:=eq_true p584;replace q584:=eq_true q584;obtain⟨hcz23_0,hcz23_1,hfz23_0,hfz23_1⟩:=zC2 BK583;have p585:0≤(x5_2:Int):=of_decide_eq_true (za6);have q585:x5_2<(l1_1.length:Int):=of_decide_eq_true (za6);obtain⟨ad585,e585,hx585_0,hx585_1⟩:=at_T49 HR1_1.out x5_2 p585 q585
          cases e585
          replace hx585_0:=(HB.out.cell (World.block_lt_of_cell? w _ hx585_0)).trans hx585_0;replace hx585_1:=(HB.out.cell (World.block_lt_of_cell? w _ hx585_1)).trans hx585_1;replace p585:=eq_true p585;replace q585:=eq_true q585;go_wp2
          repeat(go_quiet(fail);try go_wp2)
          go_roundg k2
          case measure=>have:=HJ2.out;have:=HK2.out;omega
          case rel=>exact⟨(wrap64 (x5_2+1)),(za46),H',⟨by have:=HJ2.out;have:=HK2.out;omega⟩,⟨za21 BK582⟩,⟨za21 BK583⟩,⟨za4 HB GE582 GE583⟩⟩
        ·rw[if_neg c16] at H;exact absurd H (by simp)
       ·rw[if_neg c15] at H;exact absurd H (by simp)
      ·rw[if_neg c14] at H;have c14b0:decide (x5_2<(l0_1.length:Int))=false:=decide_eq_false c14;clear c14;obtain rfl:=Option.some.inj H;have hnb24:=NB582_583.out;have hnc24:=NB583_582.out;obtain⟨hcz25_0,hcz25_1,hfz25_0,hfz25_1⟩:=zC2 BK582;go_wp2
       repeat(go_quiet(fail);try go_wp2)
       go_ret;exact⟨za27,za4 HB GE582 GE583⟩
def impl_StockFree.f (k:Nat) (a0_0:Int) (l0_1:List (S49)):Option (Int):=(impl_StockOk.f k a0_0 l0_1).bind fun t623=>(if t623=true then((impl_Stock_free.f k a0_0 l0_1).bind fun t624=>(some t624)) else(some (-1)))
theorem impl_StockFree.mono:∀a0 a1 k,LeO (impl_StockFree.f k a0 a1) (impl_StockFree.f (k+1) a0 a1):=by
 intro a0 a1 k;unfold impl_StockFree.f
 repeat' first|(with_reducible exact impl_StockOk.mono _ _ _)|(with_reducible exact impl_Stock_free.mono _ _ _)|(with_reducible exact LeO.refl _)|(with_reducible exact LeO.none _)|(with_reducible refine LeO.ite ?_ ?_)|(with_reducible refine LeO.bind ?_ (fun _=>?_))|exact impl_StockOk.mono _ _ _|exact impl_Stock_free.mono _ _ _|exact LeO.none _|refine LeO.ite ?_ ?_|refine LeO.bind ?_ (fun _=>?_)
set_option maxHeartbeats 8000000 in
set_option maxRecDepth 100000 in
theorem impl_StockFree.calls (k:Nat) (a0_0:Int) (A0_1:Option Addr) (c0_1:Nat) (l0_1:List (S49)) (r:Int) (w:World) (hr0_1:Kd.C k49 w A0_1 l0_1.length l0_1) (hc0_1:l0_1.length≤c0_1) (h:impl_StockFree.f k a0_0 l0_1=some r) :
  Calls Try.prog 25 #[.agg #[.int .i64 a0_0,.slice A0_1 l0_1.length c0_1]] w fun e w'=>e=.returned (.int .i64 r)∧Below w.heap.size w w':=by
 have hu38:=Try.underlying38;have HR0_1:=qae.mk hr0_1;have HC0_1:=qae.mk hc0_1;clear hr0_1 hc0_1;have HB:=qae.mk (Below.refl w.heap.size w);have H:((impl_StockOk.f k a0_0 l0_1).bind fun t623=>(if t623=true then((impl_Stock_free.f k a0_0 l0_1).bind fun t624=>(some t624)) else(some (-1))))=some r:=h;clear h;replace H:=Option.bind_eq_some_iff.mp H;obtain⟨t623,A20,H⟩:=H;replace H:(if t623=true then((impl_Stock_free.f k a0_0 l0_1).bind fun t624=>(some t624)) else(some (-1)))=some r:=H;have A2:=qae.mk A20;clear A20;by_cases c3:t623=true
 ·subst c3
  have H1:((impl_Stock_free.f k a0_0 l0_1).bind fun t624=>(some t624))=some r:=by rw[if_pos rfl] at H;exact H
  clear H;have H:=H1;clear H1;replace H:=Option.bind_eq_some_iff.mp H;obtain⟨t624,A40,H⟩:=H;replace H:(some t624)=some r:=H;have A4:=qae.mk A40;clear A40;obtain rfl:=Option.some.inj H;go_enter Try.func25,Try.ntmps25
  go_wp2_with(first|((with_reducible refine qai (N:=1) rfl ?_);refine zX (N:=1) (cs:=#[.int .i64 a0_0,.slice A0_1 l0_1.length c0_1]) (t:=38) ?_;intro gb622 hg w5 hbox hb;have BK622:=qae.mk hbox;have GW622:=zH (w:=w) hg (za3 HB);have GE622:=GW622;replace HB:=qae.mk (qad (za3 HB) hb);clear hb hbox hg;obtain⟨hcz6_0,hcz6_1,hfz6_0,hfz6_1⟩:=zC2 BK622)|((with_reducible refine qag (f:=29) rfl ?_);refine zF (some 4) Try.func29 #[.agg #[.int .i64 a0_0,.slice A0_1 l0_1.length c0_1]] ?_;(with_reducible refine(impl_StockOk.calls k a0_0 _ _ l0_1 true _ ?side1 ?side2 A2.out).mono ?_);(case side1=>exact zR HR0_1 HB);(case side2=>exact HC0_1.out);rintro e w7 ⟨rfl,hb⟩;refine⟨_,rfl,?_⟩;replace BK622:=zY BK622 hb;replace HB:=qae.mk (qad (za1 HB GE622) hb);(try clear hb);obtain⟨hcz8_0,hcz8_1,hfz8_0,hfz8_1⟩:=zC2 BK622)|((with_reducible refine qag (f:=58) rfl ?_);refine zF (some 7) Try.func58 #[.agg #[.int .i64 a0_0,.slice A0_1 l0_1.length c0_1]] ?_;(with_reducible refine(impl_Stock_free.calls k a0_0 _ _ l0_1 t624 _ ?side1 ?side2 A4.out).mono ?_);(case side1=>exact zR HR0_1 HB);(case side2=>exact HC0_1.out);rintro e w9 ⟨rfl,hb⟩;refine⟨_,rfl,?_⟩;replace BK622:=zY BK622 hb;replace HB:=qae.mk (qad (za1 HB GE622) hb);(try clear hb)))
  go_ret;exact⟨za27,za1 HB GE622⟩
 ·replace c3:=Bool.eq_false_iff.mpr c3;subst c3
  have H1:(some (-1))=some r:=by rw[if_neg (show ¬(false=true) by decide)] at H;exact H
  clear H;have H:=H1;clear H1;obtain rfl:=Option.some.inj H;go_enter Try.func25,Try.ntmps25
  go_wp2_with(first|((with_reducible refine qai (N:=1) rfl ?_);refine zX (N:=1) (cs:=#[.int .i64 a0_0,.slice A0_1 l0_1.length c0_1]) (t:=38) ?_;intro gb622 hg w10 hbox hb;have BK622:=qae.mk hbox;have GW622:=zH (w:=w) hg (za3 HB);have GE622:=GW622;replace HB:=qae.mk (qad (za3 HB) hb);clear hb hbox hg;obtain⟨hcz11_0,hcz11_1,hfz11_0,hfz11_1⟩:=zC2 BK622)|((with_reducible refine qag (f:=29) rfl ?_);refine zF (some 4) Try.func29 #[.agg #[.int .i64 a0_0,.slice A0_1 l0_1.length c0_1]] ?_;(with_reducible refine(impl_StockOk.calls k a0_0 _ _ l0_1 false _ ?side1 ?side2 A2.out).mono ?_);(case side1=>exact zR HR0_1 HB);(case side2=>exact HC0_1.out);rintro e w12 ⟨rfl,hb⟩;refine⟨_,rfl,?_⟩;replace BK622:=zY BK622 hb;replace HB:=qae.mk (qad (za1 HB GE622) hb);(try clear hb)))
  go_ret;exact⟨za27,za1 HB GE622⟩
end Go.Proofs.Ytmbdphefnalenaa.Print
