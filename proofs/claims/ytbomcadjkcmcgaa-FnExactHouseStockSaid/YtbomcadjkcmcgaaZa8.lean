-- Written by squeeze.py: not trusted, Lean checks it.
import Derived.Test.YtbomcadjkcmcgaaZK
import Derived.Test.YtbomcadjkcmcgaaZa6
import Derived.Test.YtbomcadjkcmcgaaZa7
namespace Go.Proofs.Ytbomcadjkcmcgaa.Print
open Go.RowKit Go.Proofs.YtbomcadjkcmcgaaW.PrintWords Go.Proofs.YtbomcadjkcmcgaaW.PrintLast Go.Proofs.YtbomcadjkcmcgaaW.PrintMore
attribute [local go_sem] max2_int min2_int max_two min_two max_three min_three max_four min_four
set_option linter.unusedVariables false
set_option linter.unusedSimpArgs false
def impl_StockMay.j0:Nat→Bool→Int→List (S72)→Int→Int→List Int→Option (Bool)
 |0,_,_,_,_,_,_=>none
 |k+1,x13,x237000,x237001,x238000,x238001,x238002=>if x13=true then(some false) else(if 0≤(wrap64 (x238001 - 1)) then(if(wrap64 (x238001 - 1))<(x237001.length:Int) then(if x238000=1 then(if((rd_T72 x237001 (wrap64 (x238001 - 1))).f1)=0 then(if 0<(x238002.length:Int) then((impl_Stock_free.f k x237000 x237001).bind fun t242=>(some (decide ((rd x238002 0)≤t242)))) else(none)) else(some false)) else(if x238000=2 then(some (((rd_T72 x237001 (wrap64 (x238001 - 1))).f1) == 1)) else(if x238000=3 then(if((rd_T72 x237001 (wrap64 (x238001 - 1))).f1)=1 then(some true) else(some (((rd_T72 x237001 (wrap64 (x238001 - 1))).f1) == 0))) else(some false)))) else(none)) else(none))
def impl_StockMay.f (k:Nat) (a0_0:Int) (l0_1:List (S72)) (a1_0:Int) (a1_1:Int) (l1_2:List Int):Option (Bool):=(impl_StockOk.f k a0_0 l0_1).bind fun t238=>(if t238=true then((impl_RecOk.f a1_0 a1_1 l1_2).bind fun t239=>(impl_StockMay.j0 k (!t239) a0_0 l0_1 a1_0 a1_1 l1_2)) else(impl_StockMay.j0 k true a0_0 l0_1 a1_0 a1_1 l1_2))
theorem impl_StockMay.mono_l:∀k,(∀y0 y1 y2 y3 y4 y5,LeO (impl_StockMay.j0 k y0 y1 y2 y3 y4 y5) (impl_StockMay.j0 (k+1) y0 y1 y2 y3 y4 y5))
 |0=>fun _ _ _ _ _ _ r h=>by simp[impl_StockMay.j0] at h
 |k+1=>by
  have ih0:=impl_StockMay.mono_l k
  ·intro y0 y1 y2 y3 y4 y5;unfold impl_StockMay.j0
   repeat' first|(with_reducible exact ih0 _ _ _ _ _ _)|(with_reducible exact impl_StockOk.mono _ _ _)|(with_reducible exact impl_Stock_free.mono _ _ _)|(with_reducible exact LeO.refl _)|(with_reducible exact LeO.none _)|(with_reducible refine LeO.ite ?_ ?_)|(with_reducible refine LeO.bind ?_ (fun _=>?_))|exact ih0 _ _ _ _ _ _|exact impl_StockOk.mono _ _ _|exact impl_Stock_free.mono _ _ _|exact LeO.none _|refine LeO.ite ?_ ?_|refine LeO.bind ?_ (fun _=>?_)
theorem impl_StockMay.mono:∀a0 a1 a2 a3 a4 k,LeO (impl_StockMay.f k a0 a1 a2 a3 a4) (impl_StockMay.f (k+1) a0 a1 a2 a3 a4):=by
 intro a0 a1 a2 a3 a4 k;have ih0:=impl_StockMay.mono_l k;unfold impl_StockMay.f
 repeat' first|(with_reducible exact ih0 _ _ _ _ _ _)|(with_reducible exact impl_StockOk.mono _ _ _)|(with_reducible exact impl_Stock_free.mono _ _ _)|(with_reducible exact LeO.refl _)|(with_reducible exact LeO.none _)|(with_reducible refine LeO.ite ?_ ?_)|(with_reducible refine LeO.bind ?_ (fun _=>?_))|exact ih0 _ _ _ _ _ _|exact impl_StockOk.mono _ _ _|exact impl_Stock_free.mono _ _ _|exact LeO.none _|refine LeO.ite ?_ ?_|refine LeO.bind ?_ (fun _=>?_)
def impl_StockMay.T6:Bool × List (List Nat × List Nat):=(true,[([],[]),([0],[0]),([1],[1]),([2],[2]),([3,2],[2,3]),([4,2],[2,4]),([5,2],[2,5]),([2],[2]),([7,2,2],[2,7]),([6,8,2],[2,6,8]),([2,9],[2,9]),([10,8,0,1,2,3,4,5,6,7,8,9,10],[10])])
def impl_StockMay.B6:List Nat:=[0,1,3,7,15,31,63,7,135,511,1023,2047]
theorem impl_StockMay.tab6:rtab .any (opsOf Try.f54 6)=impl_StockMay.T6:=by kernel_rfl
theorem impl_StockMay.bits6:waitsOk impl_StockMay.T6.2 impl_StockMay.B6=true:=by kernel_rfl
set_option maxHeartbeats 8000000 in
set_option maxRecDepth 100000 in
theorem impl_StockMay.calls (k:Nat) (a0_0:Int) (A0_1:Option Addr) (c0_1:Nat) (l0_1:List (S72)) (a1_0:Int) (a1_1:Int) (A1_2:Option Addr) (c1_2:Nat) (l1_2:List Int) (r:Bool) (w:World) (hr0_1:Kd.C k72 w A0_1 l0_1.length l0_1) (hc0_1:l0_1.length≤c0_1) (hr1_2:Kd.C (Kd.int .i64) w A1_2 l1_2.length l1_2) (hc1_2:l1_2.length≤c1_2) (h:impl_StockMay.f k a0_0 l0_1 a1_0 a1_1 l1_2=some r) :
  Calls Try.prog 54 #[.agg #[.int .i64 a0_0,.slice A0_1 l0_1.length c0_1],.agg #[.int .i64 a1_0,.int .i64 a1_1,.slice A1_2 l1_2.length c1_2]] w fun e w'=>e=.returned (.bool r)∧Below w.heap.size w w':=by
 have hu39:=Try.underlying39;have hu62:=Try.underlying62;have HR0_1:=qah.mk hr0_1;have HC0_1:=qah.mk hc0_1;clear hr0_1 hc0_1;have HR1_2:=qah.mk hr1_2;have HC1_2:=qah.mk hc1_2;clear hr1_2 hc1_2;have HB:=qah.mk (Below.refl w.heap.size w);have H:((impl_StockOk.f k a0_0 l0_1).bind fun t238=>(if t238=true then((impl_RecOk.f a1_0 a1_1 l1_2).bind fun t239=>(impl_StockMay.j0 k (!t239) a0_0 l0_1 a1_0 a1_1 l1_2)) else(impl_StockMay.j0 k true a0_0 l0_1 a1_0 a1_1 l1_2)))=some r:=h;clear h;have HC3:=qah.mk H;clear H;go_enter Try.func54,Try.ntmps54
 go_upto_region 1 with(first|((with_reducible refine qag (N:=2) rfl ?_);refine zX (N:=2) (cs:=#[.int .i64 a0_0,.slice A0_1 l0_1.length c0_1]) (t:=39) ?_;intro gb236 hg w4 hbox hb;have BK236:=qah.mk hbox;have GW236:=zH (w:=w) hg (za1 HB);have GE236:=GW236;replace HB:=qah.mk (qaa (za1 HB) hb);clear hb hbox hg)|((with_reducible refine qag (N:=3) rfl ?_);refine zX (N:=3) (cs:=#[.int .i64 a1_0,.int .i64 a1_1,.slice A1_2 l1_2.length c1_2]) (t:=62) ?_;intro gb237 hg w5 hbox hb;have BK237:=qah.mk hbox;have GW237:=zH (w:=w) hg (za0 HB GE236);have GE237:=GW237;replace HB:=qah.mk (qaa (za0 HB GE236) hb);have NB236_237:=zL BK236 hg;have NB237_236:=zG BK236 hg;replace BK236:=zY BK236 hb;clear hb hbox hg))
 (try simp only[Act.put,List.setIfInBounds_toArray,List.set_cons_zero,List.set_cons_succ])
 go_cut [13] (fun v13 wc=>∃(kq:Nat) (x13_2:Bool),v13=.bool x13_2∧qah (impl_StockMay.j0 kq x13_2 a0_0 l0_1 a1_0 a1_1 l1_2=some r)∧qah (kq≤k)∧qah (wc.heap[gb236]?=some (.cells #[.int .i64 a0_0,(.slice A0_1 l0_1.length c0_1)] 39 (0,0)))∧qah (wc.heap[gb237]?=some (.cells #[.int .i64 a1_0,.int .i64 a1_1,(.slice A1_2 l1_2.length c1_2)] 62 (0,0)))∧qah (Below w.heap.size w wc))
 case first=>
  have H:=HC3.out;clear HC3;replace H:=Option.bind_eq_some_iff.mp H;obtain⟨t238,A60,H⟩:=H;replace H:(if t238=true then((impl_RecOk.f a1_0 a1_1 l1_2).bind fun t239=>(impl_StockMay.j0 k (!t239) a0_0 l0_1 a1_0 a1_1 l1_2)) else(impl_StockMay.j0 k true a0_0 l0_1 a1_0 a1_1 l1_2))=some r:=H;have A6:=qah.mk A60;clear A60;by_cases c7:t238=true
  ·subst c7
   have H1:((impl_RecOk.f a1_0 a1_1 l1_2).bind fun t239=>(impl_StockMay.j0 k (!t239) a0_0 l0_1 a1_0 a1_1 l1_2))=some r:=by rw[if_pos rfl] at H;exact H
   clear H;have H:=H1;clear H1;replace H:=Option.bind_eq_some_iff.mp H;obtain⟨t239,A80,H⟩:=H;replace H:(impl_StockMay.j0 k (!t239) a0_0 l0_1 a1_0 a1_1 l1_2)=some r:=H;have A8:=qah.mk A80;clear A80;have H':=qah.mk H;clear H;have hnb9:=NB236_237.out;have hnc9:=NB237_236.out;obtain⟨hcz10_0,hcz10_1,hfz10_0,hfz10_1⟩:=zC2 BK236
   go_wp2_with(first|((with_reducible refine qaf (f:=63) rfl ?_);refine zF (some 7) Try.func63 #[.agg #[.int .i64 a0_0,.slice A0_1 l0_1.length c0_1]] ?_;(with_reducible refine(impl_StockOk.calls k a0_0 _ _ l0_1 true _ ?side1 ?side2 A6.out).mono ?_);(case side1=>exact zR HR0_1 HB);(case side2=>exact HC0_1.out);rintro e w11 ⟨rfl,hb⟩;refine⟨_,rfl,?_⟩;replace BK236:=zY BK236 hb;replace BK237:=zY BK237 hb;replace HB:=qah.mk (qaa (za2 HB GE236 GE237) hb);(try clear hb);obtain⟨hcz12_0,hcz12_1,hcz12_2,hfz12_0,hfz12_1,hfz12_2⟩:=zC3 BK237)|(go_at_call 39;(with_reducible refine(impl_RecOk.calls a1_0 a1_1 _ _ l1_2 t239 _ ?side1 ?side2 A8.out).mono ?_);(case side1=>exact zR HR1_2 HB);(case side2=>exact HC1_2.out);rintro e w13 ⟨rfl,hb⟩;replace BK236:=zY BK236 hb;replace BK237:=zY BK237 hb;replace HB:=qah.mk (qaa (za2 HB GE236 GE237) hb);(try clear hb)))
   go_meet
   case rel=>exact⟨_,(!t239),(za11),H',⟨za19⟩,⟨za12 BK236⟩,⟨za12 BK237⟩,⟨za2 HB GE236 GE237⟩⟩
  ·replace c7:=Bool.eq_false_iff.mpr c7;subst c7
   have H1:(impl_StockMay.j0 k true a0_0 l0_1 a1_0 a1_1 l1_2)=some r:=by rw[if_neg (show ¬(false=true) by decide)] at H;exact H
   clear H;have H:=H1;clear H1;have H':=qah.mk H;clear H;have hnb14:=NB236_237.out;have hnc14:=NB237_236.out;obtain⟨hcz15_0,hcz15_1,hfz15_0,hfz15_1⟩:=zC2 BK236
   go_wp2_with(first|((with_reducible refine qaf (f:=63) rfl ?_);refine zF (some 7) Try.func63 #[.agg #[.int .i64 a0_0,.slice A0_1 l0_1.length c0_1]] ?_;(with_reducible refine(impl_StockOk.calls k a0_0 _ _ l0_1 false _ ?side1 ?side2 A6.out).mono ?_);(case side1=>exact zR HR0_1 HB);(case side2=>exact HC0_1.out);rintro e w16 ⟨rfl,hb⟩;refine⟨_,rfl,?_⟩;replace BK236:=zY BK236 hb;replace BK237:=zY BK237 hb;replace HB:=qah.mk (qaa (za2 HB GE236 GE237) hb);(try clear hb)))
   go_meet
   case rel=>exact⟨_,(true),(za11),H',⟨za19⟩,⟨za12 BK236⟩,⟨za12 BK237⟩,⟨za2 HB GE236 GE237⟩⟩
 case rest=>
  clear HC3
  try clear c1
  try clear p2
  try clear c5
  try clear c6
  try clear c7
  try clear c9
  try clear c14
  try clear hcz10_0
  try clear hcz10_1
  try clear hcz12_0
  try clear hcz12_1
  try clear hcz12_2
  try clear hcz15_0
  try clear hcz15_1
  try clear hfz10_0
  try clear hfz10_1
  try clear hfz12_0
  try clear hfz12_1
  try clear hfz12_2
  try clear hfz15_0
  try clear hfz15_1
  obtain⟨kq,x13_2,rfl,HA,HJ2,BK236,BK237,HB⟩:=hcut
  cases kq with
  |zero=>exact absurd HA.out (by simp[impl_StockMay.j0])
  |succ kj2=>
   have H:=HA.out;clear HA;simp only[impl_StockMay.j0] at H;by_cases c17:x13_2=true
   ·subst c17
    have H1:(some false)=some r:=by rw[if_pos rfl] at H;exact H
    clear H;have H:=H1;clear H1;obtain rfl:=Option.some.inj H;go_wp2;go_ret;exact⟨za8,za2 HB GE236 GE237⟩
   ·replace c17:=Bool.eq_false_iff.mpr c17;subst c17
    have H1:(if 0≤(wrap64 (a1_1 - 1)) then(if(wrap64 (a1_1 - 1))<(l0_1.length:Int) then(if a1_0=1 then(if((rd_T72 l0_1 (wrap64 (a1_1 - 1))).f1)=0 then(if 0<(l1_2.length:Int) then((impl_Stock_free.f kj2 a0_0 l0_1).bind fun t242=>(some (decide ((rd l1_2 0)≤t242)))) else(none)) else(some false)) else(if a1_0=2 then(some (((rd_T72 l0_1 (wrap64 (a1_1 - 1))).f1) == 1)) else(if a1_0=3 then(if((rd_T72 l0_1 (wrap64 (a1_1 - 1))).f1)=1 then(some true) else(some (((rd_T72 l0_1 (wrap64 (a1_1 - 1))).f1) == 0))) else(some false)))) else(none)) else(none))=some r:=by rw[if_neg (show ¬(false=true) by decide)] at H;exact H
    clear H;have H:=H1;clear H1;obtain⟨ji18,hji18⟩:∃j_:Int,(wrap64 (a1_1 - 1))=j_:=⟨_,rfl⟩
    replace H:(if 0≤(ji18) then(if(ji18)<(l0_1.length:Int) then(if a1_0=1 then(if((rd_T72 l0_1 (ji18)).f1)=0 then(if 0<(l1_2.length:Int) then((impl_Stock_free.f kj2 a0_0 l0_1).bind fun t242=>(some (decide ((rd l1_2 0)≤t242)))) else(none)) else(some false)) else(if a1_0=2 then(some (((rd_T72 l0_1 (ji18)).f1) == 1)) else(if a1_0=3 then(if((rd_T72 l0_1 (ji18)).f1)=1 then(some true) else(some (((rd_T72 l0_1 (ji18)).f1) == 0))) else(some false)))) else(none)) else(none))=some r:=by first|(rw[hji18] at H;exact H)|(simp only[hji18] at H ⊢;exact H)
    have hji18w:(IntKind.i64.wrap (a1_1 - 1))=ji18:=(qaj _).trans hji18;by_cases c19:0≤(ji18)
    ·rw[if_pos c19] at H;have c19b0:decide (0≤(ji18))=true:=decide_eq_true c19;clear c19;by_cases c20:(ji18)<(l0_1.length:Int)
     ·rw[if_pos c20] at H;have c20b0:decide ((ji18)<(l0_1.length:Int))=true:=decide_eq_true c20;clear c20;by_cases c21:a1_0=1
      ·rw[if_pos c21] at H;have c21b0:(a1_0 == 1)=true:=beq_iff_eq.mpr c21;have c21b1:(a1_0 != 1)=false:=bne_eq_false_iff_eq.mpr c21;clear c21;by_cases c22:((rd_T72 l0_1 (ji18)).f1)=0
       ·rw[if_pos c22] at H;have c22b0:(((rd_T72 l0_1 (ji18)).f1) == 0)=true:=beq_iff_eq.mpr c22;have c22b1:(((rd_T72 l0_1 (ji18)).f1) != 0)=false:=bne_eq_false_iff_eq.mpr c22;clear c22;by_cases c23:0<(l1_2.length:Int)
        ·rw[if_pos c23] at H;have c23b0:decide (0<(l1_2.length:Int))=true:=decide_eq_true c23;have c23b1:decide (0<l1_2.length)=true:=decide_eq_true (by omega);clear c23;replace H:=Option.bind_eq_some_iff.mp H;obtain⟨t242,A240,H⟩:=H;replace H:(some (decide ((rd l1_2 0)≤t242)))=some r:=H;have A24:=qah.mk A240;clear A240;obtain rfl:=Option.some.inj H;have hnb25:=NB236_237.out;have hnc25:=NB237_236.out;obtain⟨hcz26_0,hcz26_1,hfz26_0,hfz26_1⟩:=zC2 BK236;obtain⟨hcz27_0,hcz27_1,hcz27_2,hfz27_0,hfz27_1,hfz27_2⟩:=zC3 BK237;have p240:0≤((ji18):Int):=of_decide_eq_true (za7);have q240:(ji18)<(l0_1.length:Int):=of_decide_eq_true (za7);obtain⟨ad240,e240,hx240_0,hx240_1⟩:=at_T72 HR0_1.out (ji18) p240 q240
         cases e240
         replace hx240_0:=(HB.out.cell (World.block_lt_of_cell? w _ hx240_0)).trans hx240_0;replace hx240_1:=(HB.out.cell (World.block_lt_of_cell? w _ hx240_1)).trans hx240_1;replace p240:=eq_true p240;replace q240:=eq_true q240
         try go_wp2
         replace BK236:=qah.mk (qac BK236.out);replace BK237:=qah.mk (qac BK237.out);replace HB:=qah.mk (below_drew1 HB.out);have p241:0≤(0:Int):=(by omega);have q241:0<(l1_2.length:Int):=of_decide_eq_true (za7);obtain⟨ad241,e241,hx241_0⟩:=Kd.at_int HR1_2.out 0 p241 q241;have hw241_0:=hx241_0;(try rw[show((0:Int)).toNat=0 from rfl] at hw241_0);(try rw[show 0*1=0 from rfl] at hw241_0);(try rw[Addr.add_zero'] at hw241_0)
         cases e241
         have qi241:(0<l1_2.length)=True:=eq_true (by omega);(try rw[show((0:Int)).toNat=0 from rfl] at hx241_0);(try rw[Addr.add_zero'] at hx241_0);replace hx241_0:=(HB.out.cell (World.block_lt_of_cell? w _ hx241_0)).trans hx241_0;replace p241:=eq_true p241;replace q241:=eq_true q241
         refine start_ (n:=12) (S:=fun w'=>w'.cell? ⟨gb237,0,none⟩=some (.int .i64 a1_0)∧w'.cell? ⟨gb237,1,none⟩=some (.int .i64 a1_1)∧w'.cell? ⟨gb237,2,none⟩=some (.slice (some ad241) l1_2.length c1_2)∧w'.cell? ⟨gb236,0,none⟩=some (.int .i64 a0_0)∧w'.cell? ⟨gb236,1,none⟩=some (.slice (some ad240) l0_1.length c0_1)∧w'.cell? ad241=some (.int .i64 (rd l1_2 0))) (ds:=[]) #[false,false,false,false,false,false,false,false,false,false,false,false] (by kernel_rfl) rfl rfl ⟨(qab BK237.out 0).trans rfl,(qab BK237.out 1).trans rfl,(qab BK237.out 2).trans rfl,(qab BK236.out 0).trans rfl,(qab BK236.out 1).trans rfl,((HB.out.cell (World.block_lt_of_cell? w _ hw241_0)).trans hw241_0)⟩ (fun hHeld=>?_);refine with_tabW impl_StockMay.tab6 impl_StockMay.bits6 (fun HT_ HW_=>?_)
         generalize wc.drew=w28 at BK236 BK237 HB hx241_0 hHeld ⊢;refine qaq (i:=0) (N:=some 26) (v:=?_) (a':=?_) #[true,false,false,false,false,false,false,false,false,false,false,false] rfl rfl (qal HT_.out (by kernel_rfl)) (fun _ _ _ h=>h) (Or.inl ⟨by rfl,?_⟩) ?_ ?_;rotate_left
         ·intro w';go_simp
          with_reducible rfl
         rotate_left
         ·simp only[Act.put,List.setIfInBounds_toArray,List.set_cons_zero,List.set_cons_succ,qaj,qak];rfl
         refine qaq (i:=1) (N:=some 27) (v:=?_) (a':=?_) #[true,true,false,false,false,false,false,false,false,false,false,false] rfl rfl (qal HT_.out (by kernel_rfl)) (fun _ _ _ h=>h) (Or.inl ⟨by rfl,?_⟩) ?_ ?_;rotate_left
         ·intro w';go_simp
          with_reducible rfl
         rotate_left
         ·simp only[Act.put,List.setIfInBounds_toArray,List.set_cons_zero,List.set_cons_succ,qaj,qak];rfl
         refine qaq (i:=2) (N:=some 28) (v:=?_) (a':=?_) #[true,true,true,false,false,false,false,false,false,false,false,false] rfl rfl (qal HT_.out (by kernel_rfl)) (fun _ _ _ h=>h) (Or.inl ⟨by rfl,?_⟩) ?_ ?_;rotate_left
         ·intro w';go_simp
          with_reducible rfl
         rotate_left
         ·simp only[Act.put,List.setIfInBounds_toArray,List.set_cons_zero,List.set_cons_succ,qaj,qak];rfl
         refine qaq (i:=3) (N:=some 29) (v:=?_) (a':=?_) #[true,true,true,true,false,false,false,false,false,false,false,false] rfl rfl (qal HT_.out (by kernel_rfl)) (fun _ _ _ h=>h) (Or.inl ⟨by rfl,?_⟩) ?_ ?_;rotate_left
         ·intro w';go_simp
          with_reducible rfl
         rotate_left
         ·simp only[Act.put,List.setIfInBounds_toArray,List.set_cons_zero,List.set_cons_succ,qaj,qak];rfl
         refine take_ (i:=4) (N:=some 30) (v:=?_) (a':=?_) #[true,true,true,true,true,false,false,false,false,false,false,false] rfl rfl (take_ofW HT_.out HW_.out (by kernel_rfl)) (fun _ _ _ h=>h) (Or.inl ⟨by rfl,?_⟩) hHeld ?_ ?_;rotate_left
         ·rintro w' ⟨s0,s1,s2,s3,s4,s5⟩;go_simp
          with_reducible rfl
         rotate_left
         ·simp only[Act.put,List.setIfInBounds_toArray,List.set_cons_zero,List.set_cons_succ,qaj,qak];rfl
         refine qaq (i:=5) (N:=some 31) (v:=?_) (a':=?_) #[true,true,true,true,true,true,false,false,false,false,false,false] rfl rfl (qal HT_.out (by kernel_rfl)) (fun _ _ _ h=>h) (Or.inl ⟨by rfl,?_⟩) ?_ ?_;rotate_left
         ·intro w';go_simp
          with_reducible rfl
         rotate_left
         ·simp only[Act.put,List.setIfInBounds_toArray,List.set_cons_zero,List.set_cons_succ,qaj,qak];rfl
         refine take_ (i:=6) (N:=some 32) (v:=?_) (a':=?_) #[true,true,true,true,true,true,true,false,false,false,false,false] rfl rfl (take_ofW HT_.out HW_.out (by kernel_rfl)) (fun _ _ _ h=>h) (Or.inl ⟨by rfl,?_⟩) hHeld ?_ ?_;rotate_left
         ·rintro w' ⟨s0,s1,s2,s3,s4,s5⟩;go_simp
          with_reducible rfl
         rotate_left
         ·simp only[Act.put,List.setIfInBounds_toArray,List.set_cons_zero,List.set_cons_succ,qaj,qak];rfl
         refine take_ (i:=7) (N:=some 33) (v:=?_) (a':=?_) #[true,true,true,true,true,true,true,true,false,false,false,false] rfl rfl (take_ofW HT_.out HW_.out (by kernel_rfl)) (fun _ _ _ h=>h) (Or.inl ⟨by rfl,?_⟩) hHeld ?_ ?_;rotate_left
         ·rintro w' ⟨s0,s1,s2,s3,s4,s5⟩;go_simp
          with_reducible rfl
         rotate_left
         ·simp only[Act.put,List.setIfInBounds_toArray,List.set_cons_zero,List.set_cons_succ,qaj,qak];rfl
         refine one_ (i:=8) (N:=some 34) #[true,true,true,true,true,true,true,true,true,false,false,false] rfl rfl (one_of HT_.out (by kernel_rfl)) (by decide) (fun K hK=>?_);refine goes_ Try.func64 (by kernel_rfl) rfl #[.agg #[.int .i64 a0_0,.slice (some ad240) l0_1.length c0_1]] (by rfl) rfl rfl (by(try simp only[List.map_toArray,List.map_cons,List.map_nil]);first|done|rfl|(simp only[List.length_drop,List.length_take];rfl)) ?_
         with_reducible refine(impl_Stock_free.calls kj2 a0_0 _ _ l0_1 t242 _ ?side1 ?side2 A24.out).mono ?_
         (case side1=>exact zR HR0_1 HB);(case side2=>exact HC0_1.out);rintro e w29 ⟨rfl,hb⟩;refine⟨_,rfl,?_⟩;replace BK236:=zY BK236 hb;replace BK237:=zY BK237 hb;replace HB:=qah.mk (qaa (za2 HB GE236 GE237) hb);(try clear hb);(try clear hb2);(try clear hk);(try clear hi);refine hK.out _ _ ⟨(qab BK237.out 0).trans rfl,(qab BK237.out 1).trans rfl,(qab BK237.out 2).trans rfl,(qab BK236.out 0).trans rfl,(qab BK236.out 1).trans rfl,((HB.out.cell (World.block_lt_of_cell? w _ hw241_0)).trans hw241_0)⟩ (fun hHeld=>?_);clear hK K;refine norm_ (a':=?_) ?_ ?_;rotate_left
         ·show Act.put _ (some 34) _=_;simp only[Act.put,List.setIfInBounds_toArray,List.set_cons_zero,List.set_cons_succ,qaj,qak];rfl
         refine qaq (i:=9) (N:=some 35) (v:=?_) (a':=?_) #[true,true,true,true,true,true,true,true,true,true,false,false] rfl rfl (qal HT_.out (by kernel_rfl)) (fun _ _ _ h=>h) (Or.inl ⟨by rfl,?_⟩) ?_ ?_;rotate_left
         ·intro w';go_simp
          with_reducible rfl
         rotate_left
         ·simp only[Act.put,List.setIfInBounds_toArray,List.set_cons_zero,List.set_cons_succ,qaj,qak];rfl
         refine qaq (i:=10) (N:=some 36) (v:=?_) (a':=?_) #[true,true,true,true,true,true,true,true,true,true,true,false] rfl rfl (qal HT_.out (by kernel_rfl)) (fun _ _ _ h=>h) (Or.inl ⟨by rfl,?_⟩) ?_ ?_;rotate_left
         ·intro w';go_simp
          with_reducible rfl
         rotate_left
         ·simp only[Act.put,List.setIfInBounds_toArray,List.set_cons_zero,List.set_cons_succ,qaj,qak];rfl
         refine qaq (i:=11) (N:=some 4) (v:=?_) (a':=?_) #[true,true,true,true,true,true,true,true,true,true,true,true] rfl rfl (qal HT_.out (by kernel_rfl)) (fun _ _ _ h=>h) (Or.inl ⟨by rfl,?_⟩) ?_ ?_;rotate_left
         ·intro w';go_simp
          with_reducible rfl
         rotate_left
         ·simp only[Act.put,List.setIfInBounds_toArray,List.set_cons_zero,List.set_cons_succ,qaj,qak];rfl
         refine done_ (done_of HT_.out (by kernel_rfl)) ?_
         try go_wp2
         go_ret;exact⟨by first|rfl|(simp[qao,qan]<;>rfl)|(simp only[←hji18];first|rfl|(simp[qao,qan]<;>rfl))|(simp[*,qao,qan]<;>rfl),za2 HB GE236 GE237⟩
        ·rw[if_neg c23] at H;exact absurd H (by simp)
       ·rw[if_neg c22] at H;have c22b0:(((rd_T72 l0_1 (ji18)).f1) == 0)=false:=beq_eq_false_iff_ne.mpr c22;have c22b1:(((rd_T72 l0_1 (ji18)).f1) != 0)=true:=bne_iff_ne.mpr c22;obtain rfl:=Option.some.inj H;have hnb30:=NB236_237.out;have hnc30:=NB237_236.out;obtain⟨hcz31_0,hcz31_1,hfz31_0,hfz31_1⟩:=zC2 BK236;obtain⟨hcz32_0,hcz32_1,hcz32_2,hfz32_0,hfz32_1,hfz32_2⟩:=zC3 BK237;have p240:0≤((ji18):Int):=of_decide_eq_true (za7);have q240:(ji18)<(l0_1.length:Int):=of_decide_eq_true (za7);obtain⟨ad240,e240,hx240_0,hx240_1⟩:=at_T72 HR0_1.out (ji18) p240 q240
        cases e240
        replace hx240_0:=(HB.out.cell (World.block_lt_of_cell? w _ hx240_0)).trans hx240_0;replace hx240_1:=(HB.out.cell (World.block_lt_of_cell? w _ hx240_1)).trans hx240_1;replace p240:=eq_true p240;replace q240:=eq_true q240
        try go_wp2
        replace BK236:=qah.mk (qac BK236.out);replace BK237:=qah.mk (qac BK237.out);replace HB:=qah.mk (below_drew1 HB.out);refine start_ (n:=12) (S:=fun w'=>True) (ds:=[]) #[false,false,false,false,false,false,false,false,false,false,false,false] (by kernel_rfl) rfl rfl trivial (fun hHeld=>?_);refine with_tabW impl_StockMay.tab6 impl_StockMay.bits6 (fun HT_ HW_=>?_);generalize wc.drew=w33 at BK236 BK237 HB hHeld ⊢;refine qaq (i:=0) (N:=some 26) (v:=?_) (a':=?_) #[true,false,false,false,false,false,false,false,false,false,false,false] rfl rfl (qal HT_.out (by kernel_rfl)) (fun _ _ _ h=>h) (Or.inl ⟨by rfl,?_⟩) ?_ ?_;rotate_left
        ·intro w';go_simp
         with_reducible rfl
        rotate_left
        ·simp only[Act.put,List.setIfInBounds_toArray,List.set_cons_zero,List.set_cons_succ,qaj,qak];rfl
        refine qaq (i:=1) (N:=some 27) (v:=?_) (a':=?_) #[true,true,false,false,false,false,false,false,false,false,false,false] rfl rfl (qal HT_.out (by kernel_rfl)) (fun _ _ _ h=>h) (Or.inl ⟨by rfl,?_⟩) ?_ ?_;rotate_left
        ·intro w';go_simp
         with_reducible rfl
        rotate_left
        ·simp only[Act.put,List.setIfInBounds_toArray,List.set_cons_zero,List.set_cons_succ,qaj,qak];rfl
        refine qaq (i:=2) (N:=some 28) (v:=?_) (a':=?_) #[true,true,true,false,false,false,false,false,false,false,false,false] rfl rfl (qal HT_.out (by kernel_rfl)) (fun _ _ _ h=>h) (Or.inl ⟨by rfl,?_⟩) ?_ ?_;rotate_left
        ·intro w';go_simp
         with_reducible rfl
        rotate_left
        ·simp only[Act.put,List.setIfInBounds_toArray,List.set_cons_zero,List.set_cons_succ,qaj,qak];rfl
        refine qaq (i:=3) (N:=some 29) (v:=undef) (a':=?_) #[true,true,true,true,false,false,false,false,false,false,false,false] rfl rfl (qal HT_.out (by kernel_rfl)) (fun _ _ _ h=>h) (Or.inr ⟨by rfl,rfl⟩) ?_ ?_;rotate_left
        ·simp only[Act.put,List.setIfInBounds_toArray,List.set_cons_zero,List.set_cons_succ,qaj,qak];rfl
        refine qaq (i:=4) (N:=some 30) (v:=undef) (a':=?_) #[true,true,true,true,true,false,false,false,false,false,false,false] rfl rfl (qal HT_.out (by kernel_rfl)) (fun _ _ _ h=>h) (Or.inr ⟨by rfl,rfl⟩) ?_ ?_;rotate_left
        ·simp only[Act.put,List.setIfInBounds_toArray,List.set_cons_zero,List.set_cons_succ,qaj,qak];rfl
        refine qaq (i:=5) (N:=some 31) (v:=undef) (a':=?_) #[true,true,true,true,true,true,false,false,false,false,false,false] rfl rfl (qal HT_.out (by kernel_rfl)) (fun _ _ _ h=>h) (Or.inr ⟨by rfl,rfl⟩) ?_ ?_;rotate_left
        ·simp only[Act.put,List.setIfInBounds_toArray,List.set_cons_zero,List.set_cons_succ,qaj,qak];rfl
        refine qaq (i:=6) (N:=some 32) (v:=undef) (a':=?_) #[true,true,true,true,true,true,true,false,false,false,false,false] rfl rfl (qal HT_.out (by kernel_rfl)) (fun _ _ _ h=>h) (Or.inr ⟨by rfl,rfl⟩) ?_ ?_;rotate_left
        ·simp only[Act.put,List.setIfInBounds_toArray,List.set_cons_zero,List.set_cons_succ,qaj,qak];rfl
        refine qaq (i:=7) (N:=some 33) (v:=undef) (a':=?_) #[true,true,true,true,true,true,true,true,false,false,false,false] rfl rfl (qal HT_.out (by kernel_rfl)) (fun _ _ _ h=>h) (Or.inr ⟨by rfl,rfl⟩) ?_ ?_;rotate_left
        ·simp only[Act.put,List.setIfInBounds_toArray,List.set_cons_zero,List.set_cons_succ,qaj,qak];rfl
        refine qaq (i:=8) (N:=some 34) (v:=undef) (a':=?_) #[true,true,true,true,true,true,true,true,true,false,false,false] rfl rfl (qal HT_.out (by kernel_rfl)) (fun _ _ _ h=>h) (Or.inr ⟨by rfl,rfl⟩) ?_ ?_;rotate_left
        ·simp only[Act.put,List.setIfInBounds_toArray,List.set_cons_zero,List.set_cons_succ,qaj,qak];rfl
        refine qaq (i:=9) (N:=some 35) (v:=undef) (a':=?_) #[true,true,true,true,true,true,true,true,true,true,false,false] rfl rfl (qal HT_.out (by kernel_rfl)) (fun _ _ _ h=>h) (Or.inr ⟨by rfl,rfl⟩) ?_ ?_;rotate_left
        ·simp only[Act.put,List.setIfInBounds_toArray,List.set_cons_zero,List.set_cons_succ,qaj,qak];rfl
        refine qaq (i:=10) (N:=some 36) (v:=?_) (a':=?_) #[true,true,true,true,true,true,true,true,true,true,true,false] rfl rfl (qal HT_.out (by kernel_rfl)) (fun _ _ _ h=>h) (Or.inl ⟨by rfl,?_⟩) ?_ ?_;rotate_left
        ·intro w';go_simp
         with_reducible rfl
        rotate_left
        ·simp only[Act.put,List.setIfInBounds_toArray,List.set_cons_zero,List.set_cons_succ,qaj,qak];rfl
        refine qaq (i:=11) (N:=some 4) (v:=?_) (a':=?_) #[true,true,true,true,true,true,true,true,true,true,true,true] rfl rfl (qal HT_.out (by kernel_rfl)) (fun _ _ _ h=>h) (Or.inl ⟨by rfl,?_⟩) ?_ ?_;rotate_left
        ·intro w';go_simp
         with_reducible rfl
        rotate_left
        ·simp only[Act.put,List.setIfInBounds_toArray,List.set_cons_zero,List.set_cons_succ,qaj,qak];rfl
        refine done_ (done_of HT_.out (by kernel_rfl)) ?_
        try go_wp2
        go_ret;exact⟨by first|rfl|(simp[qao,qan]<;>rfl)|(simp only[←hji18];first|rfl|(simp[qao,qan]<;>rfl))|(simp[*,qao,qan]<;>rfl),za2 HB GE236 GE237⟩
      ·rw[if_neg c21] at H;have c21b0:(a1_0 == 1)=false:=beq_eq_false_iff_ne.mpr c21;have c21b1:(a1_0 != 1)=true:=bne_iff_ne.mpr c21;by_cases c34:a1_0=2
       ·rw[if_pos c34] at H;have c34b0:(a1_0 == 2)=true:=beq_iff_eq.mpr c34;have c34b1:(a1_0 != 2)=false:=bne_eq_false_iff_eq.mpr c34;clear c34;obtain rfl:=Option.some.inj H;have hnb35:=NB236_237.out;have hnc35:=NB237_236.out;obtain⟨hcz36_0,hcz36_1,hfz36_0,hfz36_1⟩:=zC2 BK236;obtain⟨hcz37_0,hcz37_1,hcz37_2,hfz37_0,hfz37_1,hfz37_2⟩:=zC3 BK237;have p240:0≤((ji18):Int):=of_decide_eq_true (za7);have q240:(ji18)<(l0_1.length:Int):=of_decide_eq_true (za7);obtain⟨ad240,e240,hx240_0,hx240_1⟩:=at_T72 HR0_1.out (ji18) p240 q240
        cases e240
        replace hx240_0:=(HB.out.cell (World.block_lt_of_cell? w _ hx240_0)).trans hx240_0;replace hx240_1:=(HB.out.cell (World.block_lt_of_cell? w _ hx240_1)).trans hx240_1;replace p240:=eq_true p240;replace q240:=eq_true q240;go_wp2;go_ret;exact⟨by first|rfl|(simp[qao,qan]<;>rfl)|(simp only[←hji18];first|rfl|(simp[qao,qan]<;>rfl))|(simp[*,qao,qan]<;>rfl),za2 HB GE236 GE237⟩
       ·rw[if_neg c34] at H;have c34b0:(a1_0 == 2)=false:=beq_eq_false_iff_ne.mpr c34;have c34b1:(a1_0 != 2)=true:=bne_iff_ne.mpr c34;by_cases c38:a1_0=3
        ·rw[if_pos c38] at H;have c38b0:(a1_0 == 3)=true:=beq_iff_eq.mpr c38;have c38b1:(a1_0 != 3)=false:=bne_eq_false_iff_eq.mpr c38;clear c38;by_cases c39:((rd_T72 l0_1 (ji18)).f1)=1
         ·rw[if_pos c39] at H;have c39b0:(((rd_T72 l0_1 (ji18)).f1) == 1)=true:=beq_iff_eq.mpr c39;have c39b1:(((rd_T72 l0_1 (ji18)).f1) != 1)=false:=bne_eq_false_iff_eq.mpr c39;clear c39;obtain rfl:=Option.some.inj H;have hnb40:=NB236_237.out;have hnc40:=NB237_236.out;obtain⟨hcz41_0,hcz41_1,hfz41_0,hfz41_1⟩:=zC2 BK236;obtain⟨hcz42_0,hcz42_1,hcz42_2,hfz42_0,hfz42_1,hfz42_2⟩:=zC3 BK237;have p240:0≤((ji18):Int):=of_decide_eq_true (za7);have q240:(ji18)<(l0_1.length:Int):=of_decide_eq_true (za7);obtain⟨ad240,e240,hx240_0,hx240_1⟩:=at_T72 HR0_1.out (ji18) p240 q240
          cases e240
          replace hx240_0:=(HB.out.cell (World.block_lt_of_cell? w _ hx240_0)).trans hx240_0;replace hx240_1:=(HB.out.cell (World.block_lt_of_cell? w _ hx240_1)).trans hx240_1;replace p240:=eq_true p240;replace q240:=eq_true q240;go_wp2;go_ret;exact⟨by first|rfl|(simp[qao,qan]<;>rfl)|(simp only[←hji18];first|rfl|(simp[qao,qan]<;>rfl))|(simp[*,qao,qan]<;>rfl),za2 HB GE236 GE237⟩
         ·rw[if_neg c39] at H;have c39b0:(((rd_T72 l0_1 (ji18)).f1) == 1)=false:=beq_eq_false_iff_ne.mpr c39;have c39b1:(((rd_T72 l0_1 (ji18)).f1) != 1)=true:=bne_iff_ne.mpr c39;obtain rfl:=Option.some.inj H;have hnb43:=NB236_237.out;have hnc43:=NB237_236.out;obtain⟨hcz44_0,hcz44_1,hfz44_0,hfz44_1⟩:=zC2 BK236;obtain⟨hcz45_0,hcz45_1,hcz45_2,hfz45_0,hfz45_1,hfz45_2⟩:=zC3 BK237;have p240:0≤((ji18):Int):=of_decide_eq_true (za7);have q240:(ji18)<(l0_1.length:Int):=of_decide_eq_true (za7);obtain⟨ad240,e240,hx240_0,hx240_1⟩:=at_T72 HR0_1.out (ji18) p240 q240
          cases e240
          replace hx240_0:=(HB.out.cell (World.block_lt_of_cell? w _ hx240_0)).trans hx240_0;replace hx240_1:=(HB.out.cell (World.block_lt_of_cell? w _ hx240_1)).trans hx240_1;replace p240:=eq_true p240;replace q240:=eq_true q240;go_wp2;go_ret;exact⟨by first|rfl|(simp[qao,qan]<;>rfl)|(simp only[←hji18];first|rfl|(simp[qao,qan]<;>rfl))|(simp[*,qao,qan]<;>rfl),za2 HB GE236 GE237⟩
        ·rw[if_neg c38] at H;have c38b0:(a1_0 == 3)=false:=beq_eq_false_iff_ne.mpr c38;have c38b1:(a1_0 != 3)=true:=bne_iff_ne.mpr c38;obtain rfl:=Option.some.inj H;have hnb46:=NB236_237.out;have hnc46:=NB237_236.out;obtain⟨hcz47_0,hcz47_1,hfz47_0,hfz47_1⟩:=zC2 BK236;obtain⟨hcz48_0,hcz48_1,hcz48_2,hfz48_0,hfz48_1,hfz48_2⟩:=zC3 BK237;have p240:0≤((ji18):Int):=of_decide_eq_true (za7);have q240:(ji18)<(l0_1.length:Int):=of_decide_eq_true (za7);obtain⟨ad240,e240,hx240_0,hx240_1⟩:=at_T72 HR0_1.out (ji18) p240 q240
         cases e240
         replace hx240_0:=(HB.out.cell (World.block_lt_of_cell? w _ hx240_0)).trans hx240_0;replace hx240_1:=(HB.out.cell (World.block_lt_of_cell? w _ hx240_1)).trans hx240_1;replace p240:=eq_true p240;replace q240:=eq_true q240;go_wp2;go_ret;exact⟨by first|rfl|(simp[qao,qan]<;>rfl)|(simp only[←hji18];first|rfl|(simp[qao,qan]<;>rfl))|(simp[*,qao,qan]<;>rfl),za2 HB GE236 GE237⟩
     ·rw[if_neg c20] at H;exact absurd H (by simp)
    ·rw[if_neg c19] at H;exact absurd H (by simp)
def impl_Hold_55.f (l0:List (S72)):Option ((List (S72))):=if l0.length<8796093022208 then some l0 else none
set_option maxHeartbeats 8000000 in
set_option maxRecDepth 100000 in
theorem impl_Hold_55.calls (A0:Option Addr) (c0:Nat) (l0:List (S72)) (r:List (S72)) (w:World) (hr0:Kd.C k72 w A0 l0.length l0) (hc0:l0.length≤c0) (h:impl_Hold_55.f l0=some r) :
  Calls Try.prog 55 #[.slice A0 l0.length c0] w fun e w'=>∃v0_:Value,e=.returned (v0_)∧Kd.R k72 72 w' w.heap.size (fun _=>True) v0_ r∧Below w.heap.size w w':=by
 unfold impl_Hold_55.f at h;by_cases hl:l0.length<8796093022208
 ·rw[if_pos hl] at h
  injection h with h
  subst h;have HL:=qah.mk hl;have HR:=qah.mk hr0;clear hl hr0
  cases A0 with
  |none=>
   have hl0:l0.length=0:=by
    rcases Nat.eq_zero_or_pos l0.length with h0|h0
    ·exact h0
    ·obtain⟨ad,h,_⟩:=HR.out.2.2 h0
     cases h
   obtain rfl:l0=[]:=List.eq_nil_of_length_eq_zero hl0;clear hl0 HL HR
   have heq:=fun(W:World) (n_:Nat)=>Lib.run_eql_slice_nil (P:=Try.prog) W 37 72 none n_ c0 0 0 Try.underlying37
   go_enter Try.func55,Try.ntmps55;go_wp2;go_ret;exact⟨_,rfl,Kd.R_nil _ _ _ _ _,Below.refl _ _⟩
  |some ad=>
   have heq:=fun W:World=>Lib.run_eql_slice_nil (P:=Try.prog) W 37 72 (some ad) l0.length c0 0 0 Try.underlying37
   go_enter Try.func55,Try.ntmps55
   go_wp2_with(first|((with_reducible refine qag (N:=5) rfl ?_);refine Kd.R_lit k72 _ 72 (by rfl) (N:=5) (by rfl) (xs:=([]:List S72)) (inner:=[]) (ok:=fun _=>True) (okp:=fun _=>True) (by first|(go_simp;done)|(go_simp;rfl)) (Reps.none _ _) (fun _ hk=>hk) trivial (Below.refl _ _) (Nat.le_refl _) (by simp) ?_;intro v1 w1 ho1 hb hg_ hnew_;have HO1:=qah.mk ho1;have HB:=qah.mk hb;clear ho1 hb hg_ hnew_)|((with_reducible refine gate_builtin (b:=.append) (xs:=#[.tmp 5,.tmp 6]) rfl ?_);(try(refine gate_guard (by rfl) ?_;dsimp only));at_builtin;refine Kd.R_append_rows k72 (w0:=w) w.heap.size rfl (.tmp 5) (.tmp 6) 37 72 (.agg #[(.int .i64 0),(.int .i64 0)]) 16 rfl Try.underlying37 info72 rfl (by decide) (by omega) v1 [] l0 _ _ _ (fun _=>True) (fun _=>False) rfl rfl ?aO ?aR (fun _ _ h=>h) (fun _ h=>h.elim) ?aF ?aB ?aS ?aL ?_;(case aR=>exact Kd.C_below HR.out HB.out);(case aB=>exact HB.out);(case aF=>exact(fun _ _=>trivial));(case aO=>exact HO1.out);(case aS=>exact(qam HB.out));(case aL=>have:=HL.out;simp only[List.length_nil];omega);intro v2 w2 ho2 hb2 hg2 hat2;have HO2:=qah.mk ho2;have HB2:=qah.mk hb2;clear ho2 hb2 hg2 hat2))
   go_ret;exact⟨_,rfl,HO2.out,HB2.out⟩
 ·rw[if_neg hl] at h;exact absurd h (by simp)
end Go.Proofs.Ytbomcadjkcmcgaa.Print
