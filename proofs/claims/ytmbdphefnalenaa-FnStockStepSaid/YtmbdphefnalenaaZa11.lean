-- Written by squeeze.py: not trusted, Lean checks it.
import Derived.Test.YtmbdphefnalenaaZK
import Derived.Test.YtmbdphefnalenaaZa10
import Derived.Test.YtmbdphefnalenaaZa3
namespace Go.Proofs.Ytmbdphefnalenaa.Print
open Go.RowKit Go.Proofs.YtmbdphefnalenaaW.PrintWords Go.Proofs.YtmbdphefnalenaaW.PrintLast Go.Proofs.YtmbdphefnalenaaW.PrintMore
attribute [local go_sem] max2_int min2_int max_two min_two max_three min_three max_four min_four
set_option linter.unusedVariables false
set_option linter.unusedSimpArgs false
def impl_StockMay.j0:Nat→Bool→Int→List (S49)→Int→Int→List Int→Option (Bool)
 |0,_,_,_,_,_,_=>none
 |k+1,x13,x546000,x546001,x547000,x547001,x547002=>if x13=true then(some false) else(if 0≤(wrap64 (x547001 - 1)) then(if(wrap64 (x547001 - 1))<(x546001.length:Int) then(if x547000=1 then(if((rd_T49 x546001 (wrap64 (x547001 - 1))).f1)=0 then(if 0<(x547002.length:Int) then((impl_Stock_free.f k x546000 x546001).bind fun t551=>(some (decide ((rd x547002 0)≤t551)))) else(none)) else(some false)) else(if x547000=2 then(some (((rd_T49 x546001 (wrap64 (x547001 - 1))).f1) == 1)) else(if x547000=3 then(if((rd_T49 x546001 (wrap64 (x547001 - 1))).f1)=1 then(some true) else(some (((rd_T49 x546001 (wrap64 (x547001 - 1))).f1) == 0))) else(some false)))) else(none)) else(none))
def impl_StockMay.f (k:Nat) (a0_0:Int) (l0_1:List (S49)) (a1_0:Int) (a1_1:Int) (l1_2:List Int):Option (Bool):=(impl_StockOk.f k a0_0 l0_1).bind fun t547=>(if t547=true then((impl_RecOk.f a1_0 a1_1 l1_2).bind fun t548=>(impl_StockMay.j0 k (!t548) a0_0 l0_1 a1_0 a1_1 l1_2)) else(impl_StockMay.j0 k true a0_0 l0_1 a1_0 a1_1 l1_2))
theorem impl_StockMay.mono_l:∀k,(∀y0 y1 y2 y3 y4 y5,LeO (impl_StockMay.j0 k y0 y1 y2 y3 y4 y5) (impl_StockMay.j0 (k+1) y0 y1 y2 y3 y4 y5))
 |0=>fun _ _ _ _ _ _ r h=>by simp[impl_StockMay.j0] at h
 |k+1=>by
  have ih0:=impl_StockMay.mono_l k
  ·intro y0 y1 y2 y3 y4 y5;unfold impl_StockMay.j0
   repeat' first|(with_reducible exact ih0 _ _ _ _ _ _)|(with_reducible exact impl_StockOk.mono _ _ _)|(with_reducible exact impl_Stock_free.mono _ _ _)|(with_reducible exact LeO.refl _)|(with_reducible exact LeO.none _)|(with_reducible refine LeO.ite ?_ ?_)|(with_reducible refine LeO.bind ?_ (fun _=>?_))|exact ih0 _ _ _ _ _ _|exact impl_StockOk.mono _ _ _|exact impl_Stock_free.mono _ _ _|exact LeO.none _|refine LeO.ite ?_ ?_|refine LeO.bind ?_ (fun _=>?_)
theorem impl_StockMay.mono:∀a0 a1 a2 a3 a4 k,LeO (impl_StockMay.f k a0 a1 a2 a3 a4) (impl_StockMay.f (k+1) a0 a1 a2 a3 a4):=by
 intro a0 a1 a2 a3 a4 k;have ih0:=impl_StockMay.mono_l k;unfold impl_StockMay.f
 repeat' first|(with_reducible exact ih0 _ _ _ _ _ _)|(with_reducible exact impl_StockOk.mono _ _ _)|(with_reducible exact impl_Stock_free.mono _ _ _)|(with_reducible exact LeO.refl _)|(with_reducible exact LeO.none _)|(with_reducible refine LeO.ite ?_ ?_)|(with_reducible refine LeO.bind ?_ (fun _=>?_))|exact ih0 _ _ _ _ _ _|exact impl_StockOk.mono _ _ _|exact impl_Stock_free.mono _ _ _|exact LeO.none _|refine LeO.ite ?_ ?_|refine LeO.bind ?_ (fun _=>?_)
def impl_StockMay.T6:Bool × List (List Nat × List Nat):=(true,[([],[]),([0],[0]),([1],[1]),([2],[2]),([3,2],[2,3]),([4,2],[2,4]),([5,2],[2,5]),([2],[2]),([7,2,2],[2,7]),([6,8,2],[2,6,8]),([2,9],[2,9]),([10,8,0,1,2,3,4,5,6,7,8,9,10],[10])])
def impl_StockMay.B6:List Nat:=[0,1,3,7,15,31,63,7,135,511,1023,2047]
theorem impl_StockMay.tab6:rtab .any (opsOf Try.f28 6)=impl_StockMay.T6:=by kernel_rfl
theorem impl_StockMay.bits6:waitsOk impl_StockMay.T6.2 impl_StockMay.B6=true:=by kernel_rfl
set_option maxHeartbeats 8000000 in
set_option maxRecDepth 100000 in
theorem impl_StockMay.calls (k:Nat) (a0_0:Int) (A0_1:Option Addr) (c0_1:Nat) (l0_1:List (S49)) (a1_0:Int) (a1_1:Int) (A1_2:Option Addr) (c1_2:Nat) (l1_2:List Int) (r:Bool) (w:World) (hr0_1:Kd.C k49 w A0_1 l0_1.length l0_1) (hc0_1:l0_1.length≤c0_1) (hr1_2:Kd.C (Kd.int .i64) w A1_2 l1_2.length l1_2) (hc1_2:l1_2.length≤c1_2) (h:impl_StockMay.f k a0_0 l0_1 a1_0 a1_1 l1_2=some r) :
  Calls Try.prog 28 #[.agg #[.int .i64 a0_0,.slice A0_1 l0_1.length c0_1],.agg #[.int .i64 a1_0,.int .i64 a1_1,.slice A1_2 l1_2.length c1_2]] w fun e w'=>e=.returned (.bool r)∧Below w.heap.size w w':=by
 have hu38:=Try.underlying38;have hu32:=Try.underlying32;have HR0_1:=qae.mk hr0_1;have HC0_1:=qae.mk hc0_1;clear hr0_1 hc0_1;have HR1_2:=qae.mk hr1_2;have HC1_2:=qae.mk hc1_2;clear hr1_2 hc1_2;have HB:=qae.mk (Below.refl w.heap.size w);have H:((impl_StockOk.f k a0_0 l0_1).bind fun t547=>(if t547=true then((impl_RecOk.f a1_0 a1_1 l1_2).bind fun t548=>(impl_StockMay.j0 k (!t548) a0_0 l0_1 a1_0 a1_1 l1_2)) else(impl_StockMay.j0 k true a0_0 l0_1 a1_0 a1_1 l1_2)))=some r:=h;clear h;have HC3:=qae.mk H;clear H;go_enter Try.func28,Try.ntmps28
 go_upto_region 1 with(first|((with_reducible refine qai (N:=2) rfl ?_);refine zX (N:=2) (cs:=#[.int .i64 a0_0,.slice A0_1 l0_1.length c0_1]) (t:=38) ?_;intro gb545 hg w4 hbox hb;have BK545:=qae.mk hbox;have GW545:=zH (w:=w) hg (za3 HB);have GE545:=GW545;replace HB:=qae.mk (qad (za3 HB) hb);clear hb hbox hg)|((with_reducible refine qai (N:=3) rfl ?_);refine zX (N:=3) (cs:=#[.int .i64 a1_0,.int .i64 a1_1,.slice A1_2 l1_2.length c1_2]) (t:=32) ?_;intro gb546 hg w5 hbox hb;have BK546:=qae.mk hbox;have GW546:=zH (w:=w) hg (za1 HB GE545);have GE546:=GW546;replace HB:=qae.mk (qad (za1 HB GE545) hb);have NB545_546:=zL BK545 hg;have NB546_545:=zG BK545 hg;replace BK545:=zY BK545 hb;clear hb hbox hg))
 (try simp only[Act.put,List.setIfInBounds_toArray,List.set_cons_zero,List.set_cons_succ])
 go_cut [13] (fun v13 wc=>∃(kq:Nat) (x13_2:Bool),v13=.bool x13_2∧qae (impl_StockMay.j0 kq x13_2 a0_0 l0_1 a1_0 a1_1 l1_2=some r)∧qae (kq≤k)∧qae (wc.heap[gb545]?=some (.cells #[.int .i64 a0_0,(.slice A0_1 l0_1.length c0_1)] 38 (0,0)))∧qae (wc.heap[gb546]?=some (.cells #[.int .i64 a1_0,.int .i64 a1_1,(.slice A1_2 l1_2.length c1_2)] 32 (0,0)))∧qae (Below w.heap.size w wc))
 case first=>
  have H:=HC3.out;clear HC3;replace H:=Option.bind_eq_some_iff.mp H;obtain⟨t547,A60,H⟩:=H;replace H:(if t547=true then((impl_RecOk.f a1_0 a1_1 l1_2).bind fun t548=>(impl_StockMay.j0 k (!t548) a0_0 l0_1 a1_0 a1_1 l1_2)) else(impl_StockMay.j0 k true a0_0 l0_1 a1_0 a1_1 l1_2))=some r:=H;have A6:=qae.mk A60;clear A60;by_cases c7:t547=true
  ·subst c7
   have H1:((impl_RecOk.f a1_0 a1_1 l1_2).bind fun t548=>(impl_StockMay.j0 k (!t548) a0_0 l0_1 a1_0 a1_1 l1_2))=some r:=by rw[if_pos rfl] at H;exact H
   clear H;have H:=H1;clear H1;replace H:=Option.bind_eq_some_iff.mp H;obtain⟨t548,A80,H⟩:=H;replace H:(impl_StockMay.j0 k (!t548) a0_0 l0_1 a1_0 a1_1 l1_2)=some r:=H;have A8:=qae.mk A80;clear A80;have H':=qae.mk H;clear H;have hnb9:=NB545_546.out;have hnc9:=NB546_545.out;obtain⟨hcz10_0,hcz10_1,hfz10_0,hfz10_1⟩:=zC2 BK545
   go_wp2_with(first|((with_reducible refine qag (f:=29) rfl ?_);refine zF (some 7) Try.func29 #[.agg #[.int .i64 a0_0,.slice A0_1 l0_1.length c0_1]] ?_;(with_reducible refine(impl_StockOk.calls k a0_0 _ _ l0_1 true _ ?side1 ?side2 A6.out).mono ?_);(case side1=>exact zR HR0_1 HB);(case side2=>exact HC0_1.out);rintro e w11 ⟨rfl,hb⟩;refine⟨_,rfl,?_⟩;replace BK545:=zY BK545 hb;replace BK546:=zY BK546 hb;replace HB:=qae.mk (qad (za4 HB GE545 GE546) hb);(try clear hb);obtain⟨hcz12_0,hcz12_1,hcz12_2,hfz12_0,hfz12_1,hfz12_2⟩:=zC3 BK546)|(go_at_call 63;(with_reducible refine(impl_RecOk.calls a1_0 a1_1 _ _ l1_2 t548 _ ?side1 ?side2 A8.out).mono ?_);(case side1=>exact zR HR1_2 HB);(case side2=>exact HC1_2.out);rintro e w13 ⟨rfl,hb⟩;replace BK545:=zY BK545 hb;replace BK546:=zY BK546 hb;replace HB:=qae.mk (qad (za4 HB GE545 GE546) hb);(try clear hb)))
   go_meet
   case rel=>exact⟨_,(!t548),(za46),H',⟨za48⟩,⟨za21 BK545⟩,⟨za21 BK546⟩,⟨za4 HB GE545 GE546⟩⟩
  ·replace c7:=Bool.eq_false_iff.mpr c7;subst c7
   have H1:(impl_StockMay.j0 k true a0_0 l0_1 a1_0 a1_1 l1_2)=some r:=by rw[if_neg (show ¬(false=true) by decide)] at H;exact H
   clear H;have H:=H1;clear H1;have H':=qae.mk H;clear H;have hnb14:=NB545_546.out;have hnc14:=NB546_545.out;obtain⟨hcz15_0,hcz15_1,hfz15_0,hfz15_1⟩:=zC2 BK545
   go_wp2_with(first|((with_reducible refine qag (f:=29) rfl ?_);refine zF (some 7) Try.func29 #[.agg #[.int .i64 a0_0,.slice A0_1 l0_1.length c0_1]] ?_;(with_reducible refine(impl_StockOk.calls k a0_0 _ _ l0_1 false _ ?side1 ?side2 A6.out).mono ?_);(case side1=>exact zR HR0_1 HB);(case side2=>exact HC0_1.out);rintro e w16 ⟨rfl,hb⟩;refine⟨_,rfl,?_⟩;replace BK545:=zY BK545 hb;replace BK546:=zY BK546 hb;replace HB:=qae.mk (qad (za4 HB GE545 GE546) hb);(try clear hb)))
   go_meet
   case rel=>exact⟨_,(true),(za46),H',⟨za48⟩,⟨za21 BK545⟩,⟨za21 BK546⟩,⟨za4 HB GE545 GE546⟩⟩
 case rest=>
  clear HC3
  try clear c1
  try clear c2
  try clear p2
  try clear c7
  try clear c9
  try clear c14
  try clear hcz10_0
  try clear hcz10_1
  try clear hcz12_0
  try clear hcz12_1
  try clear hcz12_2
  try clear hcz15_0
  try clear hcz15_1
  try clear hfz10_0
  try clear hfz10_1
  try clear hfz12_0
  try clear hfz12_1
  try clear hfz12_2
  try clear hfz15_0
  try clear hfz15_1
  obtain⟨kq,x13_2,rfl,HA,HJ2,BK545,BK546,HB⟩:=hcut
  cases kq with
  |zero=>exact absurd HA.out (by simp[impl_StockMay.j0])
  |succ kj2=>
   have H:=HA.out;clear HA;simp only[impl_StockMay.j0] at H;by_cases c17:x13_2=true
   ·subst c17
    have H1:(some false)=some r:=by rw[if_pos rfl] at H;exact H
    clear H;have H:=H1;clear H1;obtain rfl:=Option.some.inj H;go_wp2;go_ret;exact⟨za27,za4 HB GE545 GE546⟩
   ·replace c17:=Bool.eq_false_iff.mpr c17;subst c17
    have H1:(if 0≤(wrap64 (a1_1 - 1)) then(if(wrap64 (a1_1 - 1))<(l0_1.length:Int) then(if a1_0=1 then(if((rd_T49 l0_1 (wrap64 (a1_1 - 1))).f1)=0 then(if 0<(l1_2.length:Int) then((impl_Stock_free.f kj2 a0_0 l0_1).bind fun t551=>(some (decide ((rd l1_2 0)≤t551)))) else(none)) else(some false)) else(if a1_0=2 then(some (((rd_T49 l0_1 (wrap64 (a1_1 - 1))).f1) == 1)) else(if a1_0=3 then(if((rd_T49 l0_1 (wrap64 (a1_1 - 1))).f1)=1 then(some true) else(some (((rd_T49 l0_1 (wrap64 (a1_1 - 1))).f1) == 0))) else(some false)))) else(none)) else(none))=some r:=by rw[if_neg (show ¬(false=true) by decide)] at H;exact H
    clear H;have H:=H1;clear H1;obtain⟨ji18,hji18⟩:∃j_:Int,(wrap64 (a1_1 - 1))=j_:=⟨_,rfl⟩
    replace H:(if 0≤(ji18) then(if(ji18)<(l0_1.length:Int) then(if a1_0=1 then(if((rd_T49 l0_1 (ji18)).f1)=0 then(if 0<(l1_2.length:Int) then((impl_Stock_free.f kj2 a0_0 l0_1).bind fun t551=>(some (decide ((rd l1_2 0)≤t551)))) else(none)) else(some false)) else(if a1_0=2 then(some (((rd_T49 l0_1 (ji18)).f1) == 1)) else(if a1_0=3 then(if((rd_T49 l0_1 (ji18)).f1)=1 then(some true) else(some (((rd_T49 l0_1 (ji18)).f1) == 0))) else(some false)))) else(none)) else(none))=some r:=by first|(rw[hji18] at H;exact H)|(simp only[hji18] at H ⊢;exact H)
    have hji18w:(IntKind.i64.wrap (a1_1 - 1))=ji18:=(qaj _).trans hji18;by_cases c19:0≤(ji18)
    ·rw[if_pos c19] at H;have c19b0:decide (0≤(ji18))=true:=decide_eq_true c19;clear c19;by_cases c20:(ji18)<(l0_1.length:Int)
     ·rw[if_pos c20] at H;have c20b0:decide ((ji18)<(l0_1.length:Int))=true:=decide_eq_true c20;clear c20;by_cases c21:a1_0=1
      ·rw[if_pos c21] at H;have c21b0:(a1_0 == 1)=true:=beq_iff_eq.mpr c21;have c21b1:(a1_0 != 1)=false:=bne_eq_false_iff_eq.mpr c21;clear c21;by_cases c22:((rd_T49 l0_1 (ji18)).f1)=0
       ·rw[if_pos c22] at H;have c22b0:(((rd_T49 l0_1 (ji18)).f1) == 0)=true:=beq_iff_eq.mpr c22;have c22b1:(((rd_T49 l0_1 (ji18)).f1) != 0)=false:=bne_eq_false_iff_eq.mpr c22;clear c22;by_cases c23:0<(l1_2.length:Int)
        ·rw[if_pos c23] at H;have c23b0:decide (0<(l1_2.length:Int))=true:=decide_eq_true c23;have c23b1:decide (0<l1_2.length)=true:=decide_eq_true (by omega);clear c23;replace H:=Option.bind_eq_some_iff.mp H;obtain⟨t551,A240,H⟩:=H;replace H:(some (decide ((rd l1_2 0)≤t551)))=some r:=H;have A24:=qae.mk A240;clear A240;obtain rfl:=Option.some.inj H;have hnb25:=NB545_546.out;have hnc25:=NB546_545.out;obtain⟨hcz26_0,hcz26_1,hfz26_0,hfz26_1⟩:=zC2 BK545;obtain⟨hcz27_0,hcz27_1,hcz27_2,hfz27_0,hfz27_1,hfz27_2⟩:=zC3 BK546;have p549:0≤((ji18):Int):=of_decide_eq_true (za6);have q549:(ji18)<(l0_1.length:Int):=of_decide_eq_true (za6);obtain⟨ad549,e549,hx549_0,hx549_1⟩:=at_T49 HR0_1.out (ji18) p549 q549
         cases e549
         replace hx549_0:=(HB.out.cell (World.block_lt_of_cell? w _ hx549_0)).trans hx549_0;replace hx549_1:=(HB.out.cell (World.block_lt_of_cell? w _ hx549_1)).trans hx549_1;replace p549:=eq_true p549;replace q549:=eq_true q549
         try go_wp2
         replace BK545:=qae.mk (qaa BK545.out);replace BK546:=qae.mk (qaa BK546.out);replace HB:=qae.mk (qar HB.out);have p550:0≤(0:Int):=(by omega);have q550:0<(l1_2.length:Int):=of_decide_eq_true (za6);obtain⟨ad550,e550,hx550_0⟩:=Kd.at_int HR1_2.out 0 p550 q550;have hw550_0:=hx550_0;(try rw[show((0:Int)).toNat=0 from rfl] at hw550_0);(try rw[show 0*1=0 from rfl] at hw550_0);(try rw[Addr.add_zero'] at hw550_0)
         cases e550
         have qi550:(0<l1_2.length)=True:=eq_true (by omega);(try rw[show((0:Int)).toNat=0 from rfl] at hx550_0);(try rw[Addr.add_zero'] at hx550_0);replace hx550_0:=(HB.out.cell (World.block_lt_of_cell? w _ hx550_0)).trans hx550_0;replace p550:=eq_true p550;replace q550:=eq_true q550
         refine start_ (n:=12) (S:=fun w'=>w'.cell? ⟨gb546,0,none⟩=some (.int .i64 a1_0)∧w'.cell? ⟨gb546,1,none⟩=some (.int .i64 a1_1)∧w'.cell? ⟨gb546,2,none⟩=some (.slice (some ad550) l1_2.length c1_2)∧w'.cell? ⟨gb545,0,none⟩=some (.int .i64 a0_0)∧w'.cell? ⟨gb545,1,none⟩=some (.slice (some ad549) l0_1.length c0_1)∧w'.cell? ad550=some (.int .i64 (rd l1_2 0))) (ds:=[]) #[false,false,false,false,false,false,false,false,false,false,false,false] (by kernel_rfl) rfl rfl ⟨(qaf BK546.out 0).trans rfl,(qaf BK546.out 1).trans rfl,(qaf BK546.out 2).trans rfl,(qaf BK545.out 0).trans rfl,(qaf BK545.out 1).trans rfl,((HB.out.cell (World.block_lt_of_cell? w _ hw550_0)).trans hw550_0)⟩ (fun hHeld=>?_);refine with_tabW impl_StockMay.tab6 impl_StockMay.bits6 (fun HT_ HW_=>?_)
         generalize wc.drew=w28 at BK545 BK546 HB hx550_0 hHeld ⊢;refine qaq (i:=0) (N:=some 26) (v:=?_) (a':=?_) #[true,false,false,false,false,false,false,false,false,false,false,false] rfl rfl (qam HT_.out (by kernel_rfl)) (fun _ _ _ h=>h) (Or.inl ⟨by rfl,?_⟩) ?_ ?_;rotate_left
         ·intro w';go_simp
          with_reducible rfl
         rotate_left
         ·simp only[Act.put,List.setIfInBounds_toArray,List.set_cons_zero,List.set_cons_succ,qaj,qak];rfl
         refine qaq (i:=1) (N:=some 27) (v:=?_) (a':=?_) #[true,true,false,false,false,false,false,false,false,false,false,false] rfl rfl (qam HT_.out (by kernel_rfl)) (fun _ _ _ h=>h) (Or.inl ⟨by rfl,?_⟩) ?_ ?_;rotate_left
         ·intro w';go_simp
          with_reducible rfl
         rotate_left
         ·simp only[Act.put,List.setIfInBounds_toArray,List.set_cons_zero,List.set_cons_succ,qaj,qak];rfl
         refine qaq (i:=2) (N:=some 28) (v:=?_) (a':=?_) #[true,true,true,false,false,false,false,false,false,false,false,false] rfl rfl (qam HT_.out (by kernel_rfl)) (fun _ _ _ h=>h) (Or.inl ⟨by rfl,?_⟩) ?_ ?_;rotate_left
         ·intro w';go_simp
          with_reducible rfl
         rotate_left
         ·simp only[Act.put,List.setIfInBounds_toArray,List.set_cons_zero,List.set_cons_succ,qaj,qak];rfl
         refine qaq (i:=3) (N:=some 29) (v:=?_) (a':=?_) #[true,true,true,true,false,false,false,false,false,false,false,false] rfl rfl (qam HT_.out (by kernel_rfl)) (fun _ _ _ h=>h) (Or.inl ⟨by rfl,?_⟩) ?_ ?_;rotate_left
         ·intro w';go_simp
          with_reducible rfl
         rotate_left
         ·simp only[Act.put,List.setIfInBounds_toArray,List.set_cons_zero,List.set_cons_succ,qaj,qak];rfl
         refine take_ (i:=4) (N:=some 30) (v:=?_) (a':=?_) #[true,true,true,true,true,false,false,false,false,false,false,false] rfl rfl (take_ofW HT_.out HW_.out (by kernel_rfl)) (fun _ _ _ h=>h) (Or.inl ⟨by rfl,?_⟩) hHeld ?_ ?_;rotate_left
         ·rintro w' ⟨s0,s1,s2,s3,s4,s5⟩;go_simp
          with_reducible rfl
         rotate_left
         ·simp only[Act.put,List.setIfInBounds_toArray,List.set_cons_zero,List.set_cons_succ,qaj,qak];rfl
         refine qaq (i:=5) (N:=some 31) (v:=?_) (a':=?_) #[true,true,true,true,true,true,false,false,false,false,false,false] rfl rfl (qam HT_.out (by kernel_rfl)) (fun _ _ _ h=>h) (Or.inl ⟨by rfl,?_⟩) ?_ ?_;rotate_left
         ·intro w';go_simp
          with_reducible rfl
         rotate_left
         ·simp only[Act.put,List.setIfInBounds_toArray,List.set_cons_zero,List.set_cons_succ,qaj,qak];rfl
         refine take_ (i:=6) (N:=some 32) (v:=?_) (a':=?_) #[true,true,true,true,true,true,true,false,false,false,false,false] rfl rfl (take_ofW HT_.out HW_.out (by kernel_rfl)) (fun _ _ _ h=>h) (Or.inl ⟨by rfl,?_⟩) hHeld ?_ ?_;rotate_left
         ·rintro w' ⟨s0,s1,s2,s3,s4,s5⟩;go_simp
          with_reducible rfl
         rotate_left
         ·simp only[Act.put,List.setIfInBounds_toArray,List.set_cons_zero,List.set_cons_succ,qaj,qak];rfl
         refine take_ (i:=7) (N:=some 33) (v:=?_) (a':=?_) #[true,true,true,true,true,true,true,true,false,false,false,false] rfl rfl (take_ofW HT_.out HW_.out (by kernel_rfl)) (fun _ _ _ h=>h) (Or.inl ⟨by rfl,?_⟩) hHeld ?_ ?_;rotate_left
         ·rintro w' ⟨s0,s1,s2,s3,s4,s5⟩;go_simp
          with_reducible rfl
         rotate_left
         ·simp only[Act.put,List.setIfInBounds_toArray,List.set_cons_zero,List.set_cons_succ,qaj,qak];rfl
         refine one_ (i:=8) (N:=some 34) #[true,true,true,true,true,true,true,true,true,false,false,false] rfl rfl (one_of HT_.out (by kernel_rfl)) (by decide) (fun K hK=>?_);refine goes_ Try.func58 (by kernel_rfl) rfl #[.agg #[.int .i64 a0_0,.slice (some ad549) l0_1.length c0_1]] (by rfl) rfl rfl (by(try simp only[List.map_toArray,List.map_cons,List.map_nil]);first|done|rfl|(simp only[List.length_drop,List.length_take];rfl)) ?_
         with_reducible refine(impl_Stock_free.calls kj2 a0_0 _ _ l0_1 t551 _ ?side1 ?side2 A24.out).mono ?_
         (case side1=>exact zR HR0_1 HB);(case side2=>exact HC0_1.out);rintro e w29 ⟨rfl,hb⟩;refine⟨_,rfl,?_⟩;replace BK545:=zY BK545 hb;replace BK546:=zY BK546 hb;replace HB:=qae.mk (qad (za4 HB GE545 GE546) hb);(try clear hb);(try clear hb2);(try clear hk);(try clear hi);refine hK.out _ _ ⟨(qaf BK546.out 0).trans rfl,(qaf BK546.out 1).trans rfl,(qaf BK546.out 2).trans rfl,(qaf BK545.out 0).trans rfl,(qaf BK545.out 1).trans rfl,((HB.out.cell (World.block_lt_of_cell? w _ hw550_0)).trans hw550_0)⟩ (fun hHeld=>?_);clear hK K;refine norm_ (a':=?_) ?_ ?_;rotate_left
         ·show Act.put _ (some 34) _=_;simp only[Act.put,List.setIfInBounds_toArray,List.set_cons_zero,List.set_cons_succ,qaj,qak];rfl
         refine qaq (i:=9) (N:=some 35) (v:=?_) (a':=?_) #[true,true,true,true,true,true,true,true,true,true,false,false] rfl rfl (qam HT_.out (by kernel_rfl)) (fun _ _ _ h=>h) (Or.inl ⟨by rfl,?_⟩) ?_ ?_;rotate_left
         ·intro w';go_simp
          with_reducible rfl
         rotate_left
         ·simp only[Act.put,List.setIfInBounds_toArray,List.set_cons_zero,List.set_cons_succ,qaj,qak];rfl
         refine qaq (i:=10) (N:=some 36) (v:=?_) (a':=?_) #[true,true,true,true,true,true,true,true,true,true,true,false] rfl rfl (qam HT_.out (by kernel_rfl)) (fun _ _ _ h=>h) (Or.inl ⟨by rfl,?_⟩) ?_ ?_;rotate_left
         ·intro w';go_simp
          with_reducible rfl
         rotate_left
         ·simp only[Act.put,List.setIfInBounds_toArray,List.set_cons_zero,List.set_cons_succ,qaj,qak];rfl
         refine qaq (i:=11) (N:=some 4) (v:=?_) (a':=?_) #[true,true,true,true,true,true,true,true,true,true,true,true] rfl rfl (qam HT_.out (by kernel_rfl)) (fun _ _ _ h=>h) (Or.inl ⟨by rfl,?_⟩) ?_ ?_;rotate_left
         ·intro w';go_simp
          with_reducible rfl
         rotate_left
         ·simp only[Act.put,List.setIfInBounds_toArray,List.set_cons_zero,List.set_cons_succ,qaj,qak];rfl
         refine done_ (done_of HT_.out (by kernel_rfl)) ?_
         try go_wp2
         go_ret;exact⟨by first|rfl|(simp[qan,qao]<;>rfl)|(simp only[←hji18];first|rfl|(simp[qan,qao]<;>rfl))|(simp[*,qan,qao]<;>rfl),za4 HB GE545 GE546⟩
        ·rw[if_neg c23] at H;exact absurd H (by simp)
       ·rw[if_neg c22] at H;have c22b0:(((rd_T49 l0_1 (ji18)).f1) == 0)=false:=beq_eq_false_iff_ne.mpr c22;have c22b1:(((rd_T49 l0_1 (ji18)).f1) != 0)=true:=bne_iff_ne.mpr c22;obtain rfl:=Option.some.inj H;have hnb30:=NB545_546.out;have hnc30:=NB546_545.out;obtain⟨hcz31_0,hcz31_1,hfz31_0,hfz31_1⟩:=zC2 BK545;obtain⟨hcz32_0,hcz32_1,hcz32_2,hfz32_0,hfz32_1,hfz32_2⟩:=zC3 BK546;have p549:0≤((ji18):Int):=of_decide_eq_true (za6);have q549:(ji18)<(l0_1.length:Int):=of_decide_eq_true (za6);obtain⟨ad549,e549,hx549_0,hx549_1⟩:=at_T49 HR0_1.out (ji18) p549 q549
        cases e549
        replace hx549_0:=(HB.out.cell (World.block_lt_of_cell? w _ hx549_0)).trans hx549_0;replace hx549_1:=(HB.out.cell (World.block_lt_of_cell? w _ hx549_1)).trans hx549_1;replace p549:=eq_true p549;replace q549:=eq_true q549
        try go_wp2
        replace BK545:=qae.mk (qaa BK545.out);replace BK546:=qae.mk (qaa BK546.out);replace HB:=qae.mk (qar HB.out);refine start_ (n:=12) (S:=fun w'=>True) (ds:=[]) #[false,false,false,false,false,false,false,false,false,false,false,false] (by kernel_rfl) rfl rfl trivial (fun hHeld=>?_);refine with_tabW impl_StockMay.tab6 impl_StockMay.bits6 (fun HT_ HW_=>?_);generalize wc.drew=w33 at BK545 BK546 HB hHeld ⊢;refine qaq (i:=0) (N:=some 26) (v:=?_) (a':=?_) #[true,false,false,false,false,false,false,false,false,false,false,false] rfl rfl (qam HT_.out (by kernel_rfl)) (fun _ _ _ h=>h) (Or.inl ⟨by rfl,?_⟩) ?_ ?_;rotate_left
        ·intro w';go_simp
         with_reducible rfl
        rotate_left
        ·simp only[Act.put,List.setIfInBounds_toArray,List.set_cons_zero,List.set_cons_succ,qaj,qak];rfl
        refine qaq (i:=1) (N:=some 27) (v:=?_) (a':=?_) #[true,true,false,false,false,false,false,false,false,false,false,false] rfl rfl (qam HT_.out (by kernel_rfl)) (fun _ _ _ h=>h) (Or.inl ⟨by rfl,?_⟩) ?_ ?_;rotate_left
        ·intro w';go_simp
         with_reducible rfl
        rotate_left
        ·simp only[Act.put,List.setIfInBounds_toArray,List.set_cons_zero,List.set_cons_succ,qaj,qak];rfl
        refine qaq (i:=2) (N:=some 28) (v:=?_) (a':=?_) #[true,true,true,false,false,false,false,false,false,false,false,false] rfl rfl (qam HT_.out (by kernel_rfl)) (fun _ _ _ h=>h) (Or.inl ⟨by rfl,?_⟩) ?_ ?_;rotate_left
        ·intro w';go_simp
         with_reducible rfl
        rotate_left
        ·simp only[Act.put,List.setIfInBounds_toArray,List.set_cons_zero,List.set_cons_succ,qaj,qak];rfl
        refine qaq (i:=3) (N:=some 29) (v:=undef) (a':=?_) #[true,true,true,true,false,false,false,false,false,false,false,false] rfl rfl (qam HT_.out (by kernel_rfl)) (fun _ _ _ h=>h) (Or.inr ⟨by rfl,rfl⟩) ?_ ?_;rotate_left
        ·simp only[Act.put,List.setIfInBounds_toArray,List.set_cons_zero,List.set_cons_succ,qaj,qak];rfl
        refine qaq (i:=4) (N:=some 30) (v:=undef) (a':=?_) #[true,true,true,true,true,false,false,false,false,false,false,false] rfl rfl (qam HT_.out (by kernel_rfl)) (fun _ _ _ h=>h) (Or.inr ⟨by rfl,rfl⟩) ?_ ?_;rotate_left
        ·simp only[Act.put,List.setIfInBounds_toArray,List.set_cons_zero,List.set_cons_succ,qaj,qak];rfl
        refine qaq (i:=5) (N:=some 31) (v:=undef) (a':=?_) #[true,true,true,true,true,true,false,false,false,false,false,false] rfl rfl (qam HT_.out (by kernel_rfl)) (fun _ _ _ h=>h) (Or.inr ⟨by rfl,rfl⟩) ?_ ?_;rotate_left
        ·simp only[Act.put,List.setIfInBounds_toArray,List.set_cons_zero,List.set_cons_succ,qaj,qak];rfl
        refine qaq (i:=6) (N:=some 32) (v:=undef) (a':=?_) #[true,true,true,true,true,true,true,false,false,false,false,false] rfl rfl (qam HT_.out (by kernel_rfl)) (fun _ _ _ h=>h) (Or.inr ⟨by rfl,rfl⟩) ?_ ?_;rotate_left
        ·simp only[Act.put,List.setIfInBounds_toArray,List.set_cons_zero,List.set_cons_succ,qaj,qak];rfl
        refine qaq (i:=7) (N:=some 33) (v:=undef) (a':=?_) #[true,true,true,true,true,true,true,true,false,false,false,false] rfl rfl (qam HT_.out (by kernel_rfl)) (fun _ _ _ h=>h) (Or.inr ⟨by rfl,rfl⟩) ?_ ?_;rotate_left
        ·simp only[Act.put,List.setIfInBounds_toArray,List.set_cons_zero,List.set_cons_succ,qaj,qak];rfl
        refine qaq (i:=8) (N:=some 34) (v:=undef) (a':=?_) #[true,true,true,true,true,true,true,true,true,false,false,false] rfl rfl (qam HT_.out (by kernel_rfl)) (fun _ _ _ h=>h) (Or.inr ⟨by rfl,rfl⟩) ?_ ?_;rotate_left
        ·simp only[Act.put,List.setIfInBounds_toArray,List.set_cons_zero,List.set_cons_succ,qaj,qak];rfl
        refine qaq (i:=9) (N:=some 35) (v:=undef) (a':=?_) #[true,true,true,true,true,true,true,true,true,true,false,false] rfl rfl (qam HT_.out (by kernel_rfl)) (fun _ _ _ h=>h) (Or.inr ⟨by rfl,rfl⟩) ?_ ?_;rotate_left
        ·simp only[Act.put,List.setIfInBounds_toArray,List.set_cons_zero,List.set_cons_succ,qaj,qak];rfl
        refine qaq (i:=10) (N:=some 36) (v:=?_) (a':=?_) #[true,true,true,true,true,true,true,true,true,true,true,false] rfl rfl (qam HT_.out (by kernel_rfl)) (fun _ _ _ h=>h) (Or.inl ⟨by rfl,?_⟩) ?_ ?_;rotate_left
        ·intro w';go_simp
         with_reducible rfl
        rotate_left
        ·simp only[Act.put,List.setIfInBounds_toArray,List.set_cons_zero,List.set_cons_succ,qaj,qak];rfl
        refine qaq (i:=11) (N:=some 4) (v:=?_) (a':=?_) #[true,true,true,true,true,true,true,true,true,true,true,true] rfl rfl (qam HT_.out (by kernel_rfl)) (fun _ _ _ h=>h) (Or.inl ⟨by rfl,?_⟩) ?_ ?_;rotate_left
        ·intro w';go_simp
         with_reducible rfl
        rotate_left
        ·simp only[Act.put,List.setIfInBounds_toArray,List.set_cons_zero,List.set_cons_succ,qaj,qak];rfl
        refine done_ (done_of HT_.out (by kernel_rfl)) ?_
        try go_wp2
        go_ret;exact⟨by first|rfl|(simp[qan,qao]<;>rfl)|(simp only[←hji18];first|rfl|(simp[qan,qao]<;>rfl))|(simp[*,qan,qao]<;>rfl),za4 HB GE545 GE546⟩
      ·rw[if_neg c21] at H;have c21b0:(a1_0 == 1)=false:=beq_eq_false_iff_ne.mpr c21;have c21b1:(a1_0 != 1)=true:=bne_iff_ne.mpr c21;by_cases c34:a1_0=2
       ·rw[if_pos c34] at H;have c34b0:(a1_0 == 2)=true:=beq_iff_eq.mpr c34;have c34b1:(a1_0 != 2)=false:=bne_eq_false_iff_eq.mpr c34;clear c34;obtain rfl:=Option.some.inj H;have hnb35:=NB545_546.out;have hnc35:=NB546_545.out;obtain⟨hcz36_0,hcz36_1,hfz36_0,hfz36_1⟩:=zC2 BK545;obtain⟨hcz37_0,hcz37_1,hcz37_2,hfz37_0,hfz37_1,hfz37_2⟩:=zC3 BK546;have p549:0≤((ji18):Int):=of_decide_eq_true (za6);have q549:(ji18)<(l0_1.length:Int):=of_decide_eq_true (za6);obtain⟨ad549,e549,hx549_0,hx549_1⟩:=at_T49 HR0_1.out (ji18) p549 q549
        cases e549
        replace hx549_0:=(HB.out.cell (World.block_lt_of_cell? w _ hx549_0)).trans hx549_0;replace hx549_1:=(HB.out.cell (World.block_lt_of_cell? w _ hx549_1)).trans hx549_1;replace p549:=eq_true p549;replace q549:=eq_true q549;go_wp2;go_ret;exact⟨by first|rfl|(simp[qan,qao]<;>rfl)|(simp only[←hji18];first|rfl|(simp[qan,qao]<;>rfl))|(simp[*,qan,qao]<;>rfl),za4 HB GE545 GE546⟩
       ·rw[if_neg c34] at H;have c34b0:(a1_0 == 2)=false:=beq_eq_false_iff_ne.mpr c34;have c34b1:(a1_0 != 2)=true:=bne_iff_ne.mpr c34;by_cases c38:a1_0=3
        ·rw[if_pos c38] at H;have c38b0:(a1_0 == 3)=true:=beq_iff_eq.mpr c38;have c38b1:(a1_0 != 3)=false:=bne_eq_false_iff_eq.mpr c38;clear c38;by_cases c39:((rd_T49 l0_1 (ji18)).f1)=1
         ·rw[if_pos c39] at H;have c39b0:(((rd_T49 l0_1 (ji18)).f1) == 1)=true:=beq_iff_eq.mpr c39;have c39b1:(((rd_T49 l0_1 (ji18)).f1) != 1)=false:=bne_eq_false_iff_eq.mpr c39;clear c39;obtain rfl:=Option.some.inj H;have hnb40:=NB545_546.out;have hnc40:=NB546_545.out;obtain⟨hcz41_0,hcz41_1,hfz41_0,hfz41_1⟩:=zC2 BK545;obtain⟨hcz42_0,hcz42_1,hcz42_2,hfz42_0,hfz42_1,hfz42_2⟩:=zC3 BK546;have p549:0≤((ji18):Int):=of_decide_eq_true (za6);have q549:(ji18)<(l0_1.length:Int):=of_decide_eq_true (za6);obtain⟨ad549,e549,hx549_0,hx549_1⟩:=at_T49 HR0_1.out (ji18) p549 q549
          cases e549
          replace hx549_0:=(HB.out.cell (World.block_lt_of_cell? w _ hx549_0)).trans hx549_0;replace hx549_1:=(HB.out.cell (World.block_lt_of_cell? w _ hx549_1)).trans hx549_1;replace p549:=eq_true p549;replace q549:=eq_true q549;go_wp2;go_ret;exact⟨by first|rfl|(simp[qan,qao]<;>rfl)|(simp only[←hji18];first|rfl|(simp[qan,qao]<;>rfl))|(simp[*,qan,qao]<;>rfl),za4 HB GE545 GE546⟩
         ·rw[if_neg c39] at H;have c39b0:(((rd_T49 l0_1 (ji18)).f1) == 1)=false:=beq_eq_false_iff_ne.mpr c39;have c39b1:(((rd_T49 l0_1 (ji18)).f1) != 1)=true:=bne_iff_ne.mpr c39;obtain rfl:=Option.some.inj H;have hnb43:=NB545_546.out;have hnc43:=NB546_545.out;obtain⟨hcz44_0,hcz44_1,hfz44_0,hfz44_1⟩:=zC2 BK545;obtain⟨hcz45_0,hcz45_1,hcz45_2,hfz45_0,hfz45_1,hfz45_2⟩:=zC3 BK546;have p549:0≤((ji18):Int):=of_decide_eq_true (za6);have q549:(ji18)<(l0_1.length:Int):=of_decide_eq_true (za6);obtain⟨ad549,e549,hx549_0,hx549_1⟩:=at_T49 HR0_1.out (ji18) p549 q549
          cases e549
          replace hx549_0:=(HB.out.cell (World.block_lt_of_cell? w _ hx549_0)).trans hx549_0;replace hx549_1:=(HB.out.cell (World.block_lt_of_cell? w _ hx549_1)).trans hx549_1;replace p549:=eq_true p549;replace q549:=eq_true q549;go_wp2;go_ret;exact⟨by first|rfl|(simp[qan,qao]<;>rfl)|(simp only[←hji18];first|rfl|(simp[qan,qao]<;>rfl))|(simp[*,qan,qao]<;>rfl),za4 HB GE545 GE546⟩
        ·rw[if_neg c38] at H;have c38b0:(a1_0 == 3)=false:=beq_eq_false_iff_ne.mpr c38;have c38b1:(a1_0 != 3)=true:=bne_iff_ne.mpr c38;obtain rfl:=Option.some.inj H;have hnb46:=NB545_546.out;have hnc46:=NB546_545.out;obtain⟨hcz47_0,hcz47_1,hfz47_0,hfz47_1⟩:=zC2 BK545;obtain⟨hcz48_0,hcz48_1,hcz48_2,hfz48_0,hfz48_1,hfz48_2⟩:=zC3 BK546;have p549:0≤((ji18):Int):=of_decide_eq_true (za6);have q549:(ji18)<(l0_1.length:Int):=of_decide_eq_true (za6);obtain⟨ad549,e549,hx549_0,hx549_1⟩:=at_T49 HR0_1.out (ji18) p549 q549
         cases e549
         replace hx549_0:=(HB.out.cell (World.block_lt_of_cell? w _ hx549_0)).trans hx549_0;replace hx549_1:=(HB.out.cell (World.block_lt_of_cell? w _ hx549_1)).trans hx549_1;replace p549:=eq_true p549;replace q549:=eq_true q549;go_wp2;go_ret;exact⟨by first|rfl|(simp[qan,qao]<;>rfl)|(simp only[←hji18];first|rfl|(simp[qan,qao]<;>rfl))|(simp[*,qan,qao]<;>rfl),za4 HB GE545 GE546⟩
     ·rw[if_neg c20] at H;exact absurd H (by simp)
    ·rw[if_neg c19] at H;exact absurd H (by simp)
def impl_Hold_57.f (l0:List (S49)):Option ((List (S49))):=if l0.length<8796093022208 then some l0 else none
set_option maxHeartbeats 8000000 in
set_option maxRecDepth 100000 in
theorem impl_Hold_57.calls (A0:Option Addr) (c0:Nat) (l0:List (S49)) (r:List (S49)) (w:World) (hr0:Kd.C k49 w A0 l0.length l0) (hc0:l0.length≤c0) (h:impl_Hold_57.f l0=some r) :
  Calls Try.prog 57 #[.slice A0 l0.length c0] w fun e w'=>∃v0_:Value,e=.returned (v0_)∧Kd.R k49 49 w' w.heap.size (fun _=>True) v0_ r∧Below w.heap.size w w':=by
 unfold impl_Hold_57.f at h;by_cases hl:l0.length<8796093022208
 ·rw[if_pos hl] at h
  injection h with h
  subst h;have HL:=qae.mk hl;have HR:=qae.mk hr0;clear hl hr0
  cases A0 with
  |none=>
   have hl0:l0.length=0:=by
    rcases Nat.eq_zero_or_pos l0.length with h0|h0
    ·exact h0
    ·obtain⟨ad,h,_⟩:=HR.out.2.2 h0
     cases h
   obtain rfl:l0=[]:=List.eq_nil_of_length_eq_zero hl0;clear hl0 HL HR
   have heq:=fun(W:World) (n_:Nat)=>Lib.run_eql_slice_nil (P:=Try.prog) W 36 49 none n_ c0 0 0 Try.underlying36
   go_enter Try.func57,Try.ntmps57;go_wp2;go_ret;exact⟨_,rfl,Kd.R_nil _ _ _ _ _,Below.refl _ _⟩
  |some ad=>
   have heq:=fun W:World=>Lib.run_eql_slice_nil (P:=Try.prog) W 36 49 (some ad) l0.length c0 0 0 Try.underlying36
   go_enter Try.func57,Try.ntmps57
   go_wp2_with(first|((with_reducible refine qai (N:=5) rfl ?_);refine Kd.R_lit k49 _ 49 (by rfl) (N:=5) (by rfl) (xs:=([]:List S49)) (inner:=[]) (ok:=fun _=>True) (okp:=fun _=>True) (by first|(go_simp;done)|(go_simp;rfl)) (Reps.none _ _) (fun _ hk=>hk) trivial (Below.refl _ _) (Nat.le_refl _) (by simp) ?_;intro v1 w1 ho1 hb hg_ hnew_;have HO1:=qae.mk ho1;have HB:=qae.mk hb;clear ho1 hb hg_ hnew_)|((with_reducible refine gate_builtin (b:=.append) (xs:=#[.tmp 5,.tmp 6]) rfl ?_);(try(refine gate_guard (by rfl) ?_;dsimp only));at_builtin;refine Kd.R_append_rows k49 (w0:=w) w.heap.size rfl (.tmp 5) (.tmp 6) 36 49 (.agg #[(.int .i64 0),(.int .i64 0)]) 16 rfl Try.underlying36 info49 rfl (by decide) (by omega) v1 [] l0 _ _ _ (fun _=>True) (fun _=>False) rfl rfl ?aO ?aR (fun _ _ h=>h) (fun _ h=>h.elim) ?aF ?aB ?aS ?aL ?_;(case aR=>exact Kd.C_below HR.out HB.out);(case aB=>exact HB.out);(case aF=>exact(fun _ _=>trivial));(case aO=>exact HO1.out);(case aS=>exact(below_size HB.out));(case aL=>have:=HL.out;simp only[List.length_nil];omega);intro v2 w2 ho2 hb2 hg2 hat2;have HO2:=qae.mk ho2;have HB2:=qae.mk hb2;clear ho2 hb2 hg2 hat2))
   go_ret;exact⟨_,rfl,HO2.out,HB2.out⟩
 ·rw[if_neg hl] at h;exact absurd h (by simp)
end Go.Proofs.Ytmbdphefnalenaa.Print
