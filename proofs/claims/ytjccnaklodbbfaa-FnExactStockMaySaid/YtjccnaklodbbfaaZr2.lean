-- Written by squeeze.py, a program of this session, out of what print.sh and myprint.py had printed: cut to what is used, narrowed. Not trusted, Lean checks it.
import Derived.Test.YtjccnaklodbbfaaZK
import Derived.Test.YtjccnaklodbbfaaZe0
import Derived.Test.YtjccnaklodbbfaaZk0
import Derived.Test.YtjccnaklodbbfaaZl2
import Derived.Test.YtjccnaklodbbfaaZr0
import Derived.Test.YtjccnaklodbbfaaZr1
import Derived.Test.YtjccnaklodbbfaaZs0
namespace Go.Proofs.Ytjccnaklodbbfaa.Print
open Go.RowKit Go.Proofs.YtjccnaklodbbfaaW.PrintWords Go.Proofs.YtjccnaklodbbfaaW.PrintLast Go.Proofs.YtjccnaklodbbfaaW.PrintMore
attribute [local go_sem] max2_int min2_int max_two min_two max_three min_three max_four min_four
set_option linter.unusedVariables false
set_option linter.unusedSimpArgs false
def laws_FnExactStockMay.f (k:Nat) (a0_0:Int) (l0_1:List (S131)) (a1_0:Int) (a1_1:Int) (l1_2:List Int):Option (Bool):=(laws_szStock.f a0_0 l0_1 1048576).bind fun t622=>(if t622<0 then(some true) else((laws_szRec.f a1_0 a1_1 l1_2 t622).bind fun t623=>(if t623<0 then(some true) else((laws_toStock.f k a0_0 l0_1).bind fun bt624=>((laws_toRec.f k a1_0 a1_1 l1_2).bind fun bt628=>((spec_StockMay.f k bt624.1 bt624.2 bt628.1 bt628.2.1 bt628.2.2).bind fun t633=>((laws_toStock.f k a0_0 l0_1).bind fun bt634=>((laws_toRec.f k a1_0 a1_1 l1_2).bind fun bt639=>((impl_StockMay.f k bt634.1 bt634.2 bt639.1 bt639.2.1 bt639.2.2).bind fun t645=>(if(t645 != t633)=true then(some false) else((laws_toStock.f k a0_0 l0_1).bind fun bt646=>((laws_eqStock.f k bt634.1 bt634.2 bt646.1 bt646.2).bind fun t650=>(if t650=true then((laws_toRec.f k a1_0 a1_1 l1_2).bind fun bt651=>((laws_eqRec.f k bt639.1 bt639.2.1 bt639.2.2 bt651.1 bt651.2.1 bt651.2.2).bind fun t656=>(if t656=true then(some true) else(some false)))) else(some false))))))))))))))
theorem laws_FnExactStockMay.mono:∀a0 a1 a2 a3 a4 k,LeO (laws_FnExactStockMay.f k a0 a1 a2 a3 a4) (laws_FnExactStockMay.f (k+1) a0 a1 a2 a3 a4):=by
 intro a0 a1 a2 a3 a4 k
 unfold laws_FnExactStockMay.f
 repeat' first
   |(with_reducible exact impl_StockMay.mono _ _ _ _ _ _)
   |(with_reducible exact laws_eqRec.mono _ _ _ _ _ _ _)
   |(with_reducible exact laws_eqStock.mono _ _ _ _ _)
   |(with_reducible exact laws_toRec.mono _ _ _ _)
   |(with_reducible exact laws_toStock.mono _ _ _)
   |(with_reducible exact spec_StockMay.mono _ _ _ _ _ _)
   |(with_reducible exact LeO.refl _)
   |(with_reducible exact LeO.none _)
   |(with_reducible refine LeO.ite ?_ ?_)
   |(with_reducible refine LeO.bind ?_ (fun _=>?_))
   |exact impl_StockMay.mono _ _ _ _ _ _
   |exact laws_eqRec.mono _ _ _ _ _ _ _
   |exact laws_eqStock.mono _ _ _ _ _
   |exact laws_toRec.mono _ _ _ _
   |exact laws_toStock.mono _ _ _
   |exact spec_StockMay.mono _ _ _ _ _ _
   |exact LeO.none _
   |refine LeO.ite ?_ ?_
   |refine LeO.bind ?_ (fun _=>?_)
set_option maxHeartbeats 8000000 in
set_option maxRecDepth 100000 in
theorem laws_FnExactStockMay.calls (k:Nat) (a0_0:Int) (A0_1:Option Addr) (c0_1:Nat) (l0_1:List (S131)) (a1_0:Int) (a1_1:Int) (A1_2:Option Addr) (c1_2:Nat) (l1_2:List Int) (r:Bool) (w:World) (hr0_1:Kd.C k131 w A0_1 l0_1.length l0_1) (hc0_1:l0_1.length≤c0_1) (hr1_2:Kd.C (Kd.int .i64) w A1_2 l1_2.length l1_2) (hc1_2:l1_2.length≤c1_2) (h:laws_FnExactStockMay.f k a0_0 l0_1 a1_0 a1_1 l1_2=some r) :
  Calls Try.prog 8 #[.agg #[.int .i64 a0_0,.slice A0_1 l0_1.length c0_1],.agg #[.int .i64 a1_0,.int .i64 a1_1,.slice A1_2 l1_2.length c1_2]] w fun e w'=>e=.returned (.bool r)∧Below w.heap.size w w':=by
 have hu54:=Try.underlying54
 have hu57:=Try.underlying57
 have hu36:=Try.underlying36
 have hu62:=Try.underlying62
 have HR0_1:=qal.mk hr0_1
 have HC0_1:=qal.mk hc0_1
 clear hr0_1 hc0_1
 have HR1_2:=qal.mk hr1_2
 have HC1_2:=qal.mk hc1_2
 clear hr1_2 hc1_2
 have HB:=qal.mk (Below.refl w.heap.size w)
 have H:((laws_szStock.f a0_0 l0_1 1048576).bind fun t622=>(if t622<0 then(some true) else((laws_szRec.f a1_0 a1_1 l1_2 t622).bind fun t623=>(if t623<0 then(some true) else((laws_toStock.f k a0_0 l0_1).bind fun bt624=>((laws_toRec.f k a1_0 a1_1 l1_2).bind fun bt628=>((spec_StockMay.f k bt624.1 bt624.2 bt628.1 bt628.2.1 bt628.2.2).bind fun t633=>((laws_toStock.f k a0_0 l0_1).bind fun bt634=>((laws_toRec.f k a1_0 a1_1 l1_2).bind fun bt639=>((impl_StockMay.f k bt634.1 bt634.2 bt639.1 bt639.2.1 bt639.2.2).bind fun t645=>(if(t645 != t633)=true then(some false) else((laws_toStock.f k a0_0 l0_1).bind fun bt646=>((laws_eqStock.f k bt634.1 bt634.2 bt646.1 bt646.2).bind fun t650=>(if t650=true then((laws_toRec.f k a1_0 a1_1 l1_2).bind fun bt651=>((laws_eqRec.f k bt639.1 bt639.2.1 bt639.2.2 bt651.1 bt651.2.1 bt651.2.2).bind fun t656=>(if t656=true then(some true) else(some false)))) else(some false)))))))))))))))=some r:=h
 clear h
 replace H:=Option.bind_eq_some_iff.mp H
 obtain⟨t622,A30,H⟩:=H
 replace H:(if t622<0 then(some true) else((laws_szRec.f a1_0 a1_1 l1_2 t622).bind fun t623=>(if t623<0 then(some true) else((laws_toStock.f k a0_0 l0_1).bind fun bt624=>((laws_toRec.f k a1_0 a1_1 l1_2).bind fun bt628=>((spec_StockMay.f k bt624.1 bt624.2 bt628.1 bt628.2.1 bt628.2.2).bind fun t633=>((laws_toStock.f k a0_0 l0_1).bind fun bt634=>((laws_toRec.f k a1_0 a1_1 l1_2).bind fun bt639=>((impl_StockMay.f k bt634.1 bt634.2 bt639.1 bt639.2.1 bt639.2.2).bind fun t645=>(if(t645 != t633)=true then(some false) else((laws_toStock.f k a0_0 l0_1).bind fun bt646=>((laws_eqStock.f k bt634.1 bt634.2 bt646.1 bt646.2).bind fun t650=>(if t650=true then((laws_toRec.f k a1_0 a1_1 l1_2).bind fun bt651=>((laws_eqRec.f k bt639.1 bt639.2.1 bt639.2.2 bt651.1 bt651.2.1 bt651.2.2).bind fun t656=>(if t656=true then(some true) else(some false)))) else(some false))))))))))))))=some r:=H
 have A3:=qal.mk A30
 clear A30
 by_cases c4:t622<0
 ·rw[if_pos c4] at H
  have c4b0:decide (t622<0)=true:=decide_eq_true c4
  clear c4
  obtain rfl:=Option.some.inj H
  go_enter Try.func8,Try.ntmps8
  go_wp2_with(first|((with_reducible refine qak (N:=2) rfl ?_);refine qaj ?hg (N:=2) ?hd (cs:=#[.int .i64 a0_0,.slice A0_1 l0_1.length c0_1]) (t:=54) ?hr ?_;(case hd=>rfl);(case hg=>rfl);(case hr=>first|(go_simp;done)|(go_simp;rfl));intro gb620 hg w5 hbox hb;have n0_:=qal.mk (qae (za2 HB) hb);have n1_:=qal.mk (hbox);have n2_:=qal.mk ((by rw[hg];exact(qad (za2 HB)):w.heap.size≤gb620));have n3_:=qal.mk ((by rw[hg];exact(qad (za2 HB)):w.heap.size≤gb620));clear HB;have HB:=n0_;have BK620:=n1_;have GW620:=n2_;have GE620:=n3_;clear n0_ n1_ n2_ n3_;clear hb hbox hg)|((with_reducible refine qak (N:=3) rfl ?_);refine qaj ?hg (N:=3) ?hd (cs:=#[.int .i64 a1_0,.int .i64 a1_1,.slice A1_2 l1_2.length c1_2]) (t:=57) ?hr ?_;(case hd=>rfl);(case hg=>rfl);(case hr=>first|(go_simp;done)|(go_simp;rfl));intro gb621 hg w6 hbox hb;have n0_:=qal.mk (qac (g:=gb620) (o:=.cells #[.int .i64 a0_0,.slice A0_1 l0_1.length c0_1] 54 (0,0)) (za0 BK620) hb);have n1_:=qal.mk (qae (za1 HB GE620) hb);have n2_:=qal.mk (hbox);have n3_:=qal.mk ((by rw[hg];exact(qad (za1 HB GE620)):w.heap.size≤gb621));have n4_:=qal.mk ((by rw[hg];exact(qad (za1 HB GE620)):w.heap.size≤gb621));have n5_:=qal.mk ((by rw[hg];exact Nat.ne_of_lt (qao (g:=gb620) (o:=.cells #[.int .i64 a0_0,.slice A0_1 l0_1.length c0_1] 54 (0,0)) (za0 BK620)):gb620≠gb621));have n6_:=qal.mk ((by rw[hg];exact Nat.ne_of_gt (qao (g:=gb620) (o:=.cells #[.int .i64 a0_0,.slice A0_1 l0_1.length c0_1] 54 (0,0)) (za0 BK620)):gb621≠gb620));clear BK620;clear HB;have BK620:=n0_;have HB:=n1_;have BK621:=n2_;have GW621:=n3_;have GE621:=n4_;have NB620_621:=n5_;have NB621_620:=n6_;clear n0_ n1_ n2_ n3_ n4_ n5_ n6_;clear hb hbox hg;have hnb7:=NB620_621.out;have hnc7:=NB621_620.out;have hcz8_0:w6.cell? ⟨gb620,0,none⟩=some (.int .i64 a0_0):=(qab BK620.out 0).trans rfl;have hcz8_1:w6.cell? ⟨gb620,1,none⟩=some (.slice A0_1 l0_1.length c0_1):=(qab BK620.out 1).trans rfl;have hfz8_0:=qaa BK620.out 0;have hfz8_1:=qaa BK620.out 1)|((with_reducible refine qai (f:=35) rfl ?_);refine qau (some 12) rfl rfl Try.func35 (by kernel_rfl) rfl #[.agg #[.int .i64 a0_0,.slice A0_1 l0_1.length c0_1],.int .i64 1048576] rfl (by(try simp only[List.map_toArray,List.map_cons,List.map_nil]);first|done|rfl|(simp only[List.length_drop,List.length_take];rfl)) ?_;(with_reducible refine(laws_szStock.calls a0_0 _ _ l0_1 1048576 t622 _ ?side1 ?side2 A3.out).mono ?_);(case side1=>repeat(first|exact(Kd.C_below HR0_1.out HB.out)|(with_reducible refine Kd.C_alloc ?_ _)|(with_reducible refine Kd.C_drewN ?_ _)|(with_reducible refine Kd.C_drew ?_)));(case side2=>exact HC0_1.out);rintro e w9 ⟨rfl,hb⟩;refine⟨_,rfl,?_⟩;have n0_:=qal.mk (qac (g:=gb620) (o:=.cells #[.int .i64 a0_0,.slice A0_1 l0_1.length c0_1] 54 (0,0)) (za0 BK620) hb);have n1_:=qal.mk (qac (g:=gb621) (o:=.cells #[.int .i64 a1_0,.int .i64 a1_1,.slice A1_2 l1_2.length c1_2] 57 (0,0)) (za0 BK621) hb);have n2_:=qal.mk (qae (za3 HB GE620 GE621) hb);clear BK620;clear BK621;clear HB;have BK620:=n0_;have BK621:=n1_;have HB:=n2_;clear n0_ n1_ n2_;(try clear hb);(try clear hb2);(try clear hk);(try clear hi)))
  go_ret
  exact⟨za9,za3 HB GE620 GE621⟩
 ·rw[if_neg c4] at H
  have c4b0:decide (t622<0)=false:=decide_eq_false c4
  clear c4
  replace H:=Option.bind_eq_some_iff.mp H
  obtain⟨t623,A100,H⟩:=H
  replace H:(if t623<0 then(some true) else((laws_toStock.f k a0_0 l0_1).bind fun bt624=>((laws_toRec.f k a1_0 a1_1 l1_2).bind fun bt628=>((spec_StockMay.f k bt624.1 bt624.2 bt628.1 bt628.2.1 bt628.2.2).bind fun t633=>((laws_toStock.f k a0_0 l0_1).bind fun bt634=>((laws_toRec.f k a1_0 a1_1 l1_2).bind fun bt639=>((impl_StockMay.f k bt634.1 bt634.2 bt639.1 bt639.2.1 bt639.2.2).bind fun t645=>(if(t645 != t633)=true then(some false) else((laws_toStock.f k a0_0 l0_1).bind fun bt646=>((laws_eqStock.f k bt634.1 bt634.2 bt646.1 bt646.2).bind fun t650=>(if t650=true then((laws_toRec.f k a1_0 a1_1 l1_2).bind fun bt651=>((laws_eqRec.f k bt639.1 bt639.2.1 bt639.2.2 bt651.1 bt651.2.1 bt651.2.2).bind fun t656=>(if t656=true then(some true) else(some false)))) else(some false))))))))))))=some r:=H
  have A10:=qal.mk A100
  clear A100
  by_cases c11:t623<0
  ·rw[if_pos c11] at H
   have c11b0:decide (t623<0)=true:=decide_eq_true c11
   clear c11
   obtain rfl:=Option.some.inj H
   go_enter Try.func8,Try.ntmps8
   go_wp2_with(first|((with_reducible refine qak (N:=2) rfl ?_);refine qaj ?hg (N:=2) ?hd (cs:=#[.int .i64 a0_0,.slice A0_1 l0_1.length c0_1]) (t:=54) ?hr ?_;(case hd=>rfl);(case hg=>rfl);(case hr=>first|(go_simp;done)|(go_simp;rfl));intro gb620 hg w12 hbox hb;have n0_:=qal.mk (qae (za2 HB) hb);have n1_:=qal.mk (hbox);have n2_:=qal.mk ((by rw[hg];exact(qad (za2 HB)):w.heap.size≤gb620));have n3_:=qal.mk ((by rw[hg];exact(qad (za2 HB)):w.heap.size≤gb620));clear HB;have HB:=n0_;have BK620:=n1_;have GW620:=n2_;have GE620:=n3_;clear n0_ n1_ n2_ n3_;clear hb hbox hg)|((with_reducible refine qak (N:=3) rfl ?_);refine qaj ?hg (N:=3) ?hd (cs:=#[.int .i64 a1_0,.int .i64 a1_1,.slice A1_2 l1_2.length c1_2]) (t:=57) ?hr ?_;(case hd=>rfl);(case hg=>rfl);(case hr=>first|(go_simp;done)|(go_simp;rfl));intro gb621 hg w13 hbox hb;have n0_:=qal.mk (qac (g:=gb620) (o:=.cells #[.int .i64 a0_0,.slice A0_1 l0_1.length c0_1] 54 (0,0)) (za0 BK620) hb);have n1_:=qal.mk (qae (za1 HB GE620) hb);have n2_:=qal.mk (hbox);have n3_:=qal.mk ((by rw[hg];exact(qad (za1 HB GE620)):w.heap.size≤gb621));have n4_:=qal.mk ((by rw[hg];exact(qad (za1 HB GE620)):w.heap.size≤gb621));have n5_:=qal.mk ((by rw[hg];exact Nat.ne_of_lt (qao (g:=gb620) (o:=.cells #[.int .i64 a0_0,.slice A0_1 l0_1.length c0_1] 54 (0,0)) (za0 BK620)):gb620≠gb621));have n6_:=qal.mk ((by rw[hg];exact Nat.ne_of_gt (qao (g:=gb620) (o:=.cells #[.int .i64 a0_0,.slice A0_1 l0_1.length c0_1] 54 (0,0)) (za0 BK620)):gb621≠gb620));clear BK620;clear HB;have BK620:=n0_;have HB:=n1_;have BK621:=n2_;have GW621:=n3_;have GE621:=n4_;have NB620_621:=n5_;have NB621_620:=n6_;clear n0_ n1_ n2_ n3_ n4_ n5_ n6_;clear hb hbox hg;have hnb14:=NB620_621.out;have hnc14:=NB621_620.out;have hcz15_0:w13.cell? ⟨gb620,0,none⟩=some (.int .i64 a0_0):=(qab BK620.out 0).trans rfl;have hcz15_1:w13.cell? ⟨gb620,1,none⟩=some (.slice A0_1 l0_1.length c0_1):=(qab BK620.out 1).trans rfl;have hfz15_0:=qaa BK620.out 0;have hfz15_1:=qaa BK620.out 1)|((with_reducible refine qai (f:=35) rfl ?_);refine qau (some 12) rfl rfl Try.func35 (by kernel_rfl) rfl #[.agg #[.int .i64 a0_0,.slice A0_1 l0_1.length c0_1],.int .i64 1048576] rfl (by(try simp only[List.map_toArray,List.map_cons,List.map_nil]);first|done|rfl|(simp only[List.length_drop,List.length_take];rfl)) ?_;(with_reducible refine(laws_szStock.calls a0_0 _ _ l0_1 1048576 t622 _ ?side1 ?side2 A3.out).mono ?_);(case side1=>repeat(first|exact(Kd.C_below HR0_1.out HB.out)|(with_reducible refine Kd.C_alloc ?_ _)|(with_reducible refine Kd.C_drewN ?_ _)|(with_reducible refine Kd.C_drew ?_)));(case side2=>exact HC0_1.out);rintro e w16 ⟨rfl,hb⟩;refine⟨_,rfl,?_⟩;have n0_:=qal.mk (qac (g:=gb620) (o:=.cells #[.int .i64 a0_0,.slice A0_1 l0_1.length c0_1] 54 (0,0)) (za0 BK620) hb);have n1_:=qal.mk (qac (g:=gb621) (o:=.cells #[.int .i64 a1_0,.int .i64 a1_1,.slice A1_2 l1_2.length c1_2] 57 (0,0)) (za0 BK621) hb);have n2_:=qal.mk (qae (za3 HB GE620 GE621) hb);clear BK620;clear BK621;clear HB;have BK620:=n0_;have BK621:=n1_;have HB:=n2_;clear n0_ n1_ n2_;(try clear hb);(try clear hb2);(try clear hk);(try clear hi);have hcz17_0:w16.cell? ⟨gb621,0,none⟩=some (.int .i64 a1_0):=(qab BK621.out 0).trans rfl;have hcz17_1:w16.cell? ⟨gb621,1,none⟩=some (.int .i64 a1_1):=(qab BK621.out 1).trans rfl;have hcz17_2:w16.cell? ⟨gb621,2,none⟩=some (.slice A1_2 l1_2.length c1_2):=(qab BK621.out 2).trans rfl;have hfz17_0:=qaa BK621.out 0;have hfz17_1:=qaa BK621.out 1;have hfz17_2:=qaa BK621.out 2)|((with_reducible refine qai (f:=36) rfl ?_);refine qau (some 17) rfl rfl Try.func36 (by kernel_rfl) rfl #[.agg #[.int .i64 a1_0,.int .i64 a1_1,.slice A1_2 l1_2.length c1_2],.int .i64 t622] rfl (by(try simp only[List.map_toArray,List.map_cons,List.map_nil]);first|done|rfl|(simp only[List.length_drop,List.length_take];rfl)) ?_;(with_reducible refine(laws_szRec.calls a1_0 a1_1 _ _ l1_2 t622 t623 _ ?side1 ?side2 A10.out).mono ?_);(case side1=>repeat(first|exact(Kd.C_below HR1_2.out HB.out)|(with_reducible refine Kd.C_alloc ?_ _)|(with_reducible refine Kd.C_drewN ?_ _)|(with_reducible refine Kd.C_drew ?_)));(case side2=>exact HC1_2.out);rintro e w18 ⟨rfl,hb⟩;refine⟨_,rfl,?_⟩;have n0_:=qal.mk (qac (g:=gb620) (o:=.cells #[.int .i64 a0_0,.slice A0_1 l0_1.length c0_1] 54 (0,0)) (za0 BK620) hb);have n1_:=qal.mk (qac (g:=gb621) (o:=.cells #[.int .i64 a1_0,.int .i64 a1_1,.slice A1_2 l1_2.length c1_2] 57 (0,0)) (za0 BK621) hb);have n2_:=qal.mk (qae (za3 HB GE620 GE621) hb);clear BK620;clear BK621;clear HB;have BK620:=n0_;have BK621:=n1_;have HB:=n2_;clear n0_ n1_ n2_;(try clear hb);(try clear hb2);(try clear hk);(try clear hi)))
   go_ret
   exact⟨za9,za3 HB GE620 GE621⟩
  ·rw[if_neg c11] at H
   have c11b0:decide (t623<0)=false:=decide_eq_false c11
   clear c11
   replace H:=Option.bind_eq_some_iff.mp H
   obtain⟨⟨t624,t625⟩,A190,H⟩:=H
   replace H:((laws_toRec.f k a1_0 a1_1 l1_2).bind fun bt628=>((spec_StockMay.f k t624 t625 bt628.1 bt628.2.1 bt628.2.2).bind fun t633=>((laws_toStock.f k a0_0 l0_1).bind fun bt634=>((laws_toRec.f k a1_0 a1_1 l1_2).bind fun bt639=>((impl_StockMay.f k bt634.1 bt634.2 bt639.1 bt639.2.1 bt639.2.2).bind fun t645=>(if(t645 != t633)=true then(some false) else((laws_toStock.f k a0_0 l0_1).bind fun bt646=>((laws_eqStock.f k bt634.1 bt634.2 bt646.1 bt646.2).bind fun t650=>(if t650=true then((laws_toRec.f k a1_0 a1_1 l1_2).bind fun bt651=>((laws_eqRec.f k bt639.1 bt639.2.1 bt639.2.2 bt651.1 bt651.2.1 bt651.2.2).bind fun t656=>(if t656=true then(some true) else(some false)))) else(some false))))))))))=some r:=H
   have A19:=qal.mk A190
   clear A190
   replace H:=Option.bind_eq_some_iff.mp H
   obtain⟨⟨t628,t629,t630⟩,A200,H⟩:=H
   replace H:((spec_StockMay.f k t624 t625 t628 t629 t630).bind fun t633=>((laws_toStock.f k a0_0 l0_1).bind fun bt634=>((laws_toRec.f k a1_0 a1_1 l1_2).bind fun bt639=>((impl_StockMay.f k bt634.1 bt634.2 bt639.1 bt639.2.1 bt639.2.2).bind fun t645=>(if(t645 != t633)=true then(some false) else((laws_toStock.f k a0_0 l0_1).bind fun bt646=>((laws_eqStock.f k bt634.1 bt634.2 bt646.1 bt646.2).bind fun t650=>(if t650=true then((laws_toRec.f k a1_0 a1_1 l1_2).bind fun bt651=>((laws_eqRec.f k bt639.1 bt639.2.1 bt639.2.2 bt651.1 bt651.2.1 bt651.2.2).bind fun t656=>(if t656=true then(some true) else(some false)))) else(some false)))))))))=some r:=H
   have A20:=qal.mk A200
   clear A200
   replace H:=Option.bind_eq_some_iff.mp H
   obtain⟨t633,A210,H⟩:=H
   replace H:((laws_toStock.f k a0_0 l0_1).bind fun bt634=>((laws_toRec.f k a1_0 a1_1 l1_2).bind fun bt639=>((impl_StockMay.f k bt634.1 bt634.2 bt639.1 bt639.2.1 bt639.2.2).bind fun t645=>(if(t645 != t633)=true then(some false) else((laws_toStock.f k a0_0 l0_1).bind fun bt646=>((laws_eqStock.f k bt634.1 bt634.2 bt646.1 bt646.2).bind fun t650=>(if t650=true then((laws_toRec.f k a1_0 a1_1 l1_2).bind fun bt651=>((laws_eqRec.f k bt639.1 bt639.2.1 bt639.2.2 bt651.1 bt651.2.1 bt651.2.2).bind fun t656=>(if t656=true then(some true) else(some false)))) else(some false))))))))=some r:=H
   have A21:=qal.mk A210
   clear A210
   replace H:=Option.bind_eq_some_iff.mp H
   obtain⟨⟨t634,t635⟩,A220,H⟩:=H
   replace H:((laws_toRec.f k a1_0 a1_1 l1_2).bind fun bt639=>((impl_StockMay.f k t634 t635 bt639.1 bt639.2.1 bt639.2.2).bind fun t645=>(if(t645 != t633)=true then(some false) else((laws_toStock.f k a0_0 l0_1).bind fun bt646=>((laws_eqStock.f k t634 t635 bt646.1 bt646.2).bind fun t650=>(if t650=true then((laws_toRec.f k a1_0 a1_1 l1_2).bind fun bt651=>((laws_eqRec.f k bt639.1 bt639.2.1 bt639.2.2 bt651.1 bt651.2.1 bt651.2.2).bind fun t656=>(if t656=true then(some true) else(some false)))) else(some false)))))))=some r:=H
   have A22:=qal.mk A220
   clear A220
   replace H:=Option.bind_eq_some_iff.mp H
   obtain⟨⟨t639,t640,t641⟩,A230,H⟩:=H
   replace H:((impl_StockMay.f k t634 t635 t639 t640 t641).bind fun t645=>(if(t645 != t633)=true then(some false) else((laws_toStock.f k a0_0 l0_1).bind fun bt646=>((laws_eqStock.f k t634 t635 bt646.1 bt646.2).bind fun t650=>(if t650=true then((laws_toRec.f k a1_0 a1_1 l1_2).bind fun bt651=>((laws_eqRec.f k t639 t640 t641 bt651.1 bt651.2.1 bt651.2.2).bind fun t656=>(if t656=true then(some true) else(some false)))) else(some false))))))=some r:=H
   have A23:=qal.mk A230
   clear A230
   replace H:=Option.bind_eq_some_iff.mp H
   obtain⟨t645,A240,H⟩:=H
   replace H:(if(t645 != t633)=true then(some false) else((laws_toStock.f k a0_0 l0_1).bind fun bt646=>((laws_eqStock.f k t634 t635 bt646.1 bt646.2).bind fun t650=>(if t650=true then((laws_toRec.f k a1_0 a1_1 l1_2).bind fun bt651=>((laws_eqRec.f k t639 t640 t641 bt651.1 bt651.2.1 bt651.2.2).bind fun t656=>(if t656=true then(some true) else(some false)))) else(some false)))))=some r:=H
   have A24:=qal.mk A240
   clear A240
   by_cases c25:(t645 != t633)=true
   ·rw[if_pos c25] at H
    have c25b0:(t645 != t633)=true:=c25
    (try(have c25b1:decide (t645=t633)=false:=by simpa using c25))
    (try(have c25b2:(t645 == t633)=false:=by simpa using c25))
    (try(have c25b3:¬(t645=t633):=by simpa using c25))
    clear c25
    obtain rfl:=Option.some.inj H
    go_enter Try.func8,Try.ntmps8
    try go_wp2_with(first|((with_reducible refine qak (N:=2) rfl ?_);refine qaj ?hg (N:=2) ?hd (cs:=#[.int .i64 a0_0,.slice A0_1 l0_1.length c0_1]) (t:=54) ?hr ?_;(case hd=>rfl);(case hg=>rfl);(case hr=>first|(go_simp;done)|(go_simp;rfl));intro gb620 hg w26 hbox hb;have n0_:=qal.mk (qae (za2 HB) hb);have n1_:=qal.mk (hbox);have n2_:=qal.mk ((by rw[hg];exact(qad (za2 HB)):w.heap.size≤gb620));have n3_:=qal.mk ((by rw[hg];exact(qad (za2 HB)):w.heap.size≤gb620));clear HB;have HB:=n0_;have BK620:=n1_;have GW620:=n2_;have GE620:=n3_;clear n0_ n1_ n2_ n3_;clear hb hbox hg)|((with_reducible refine qak (N:=3) rfl ?_);refine qaj ?hg (N:=3) ?hd (cs:=#[.int .i64 a1_0,.int .i64 a1_1,.slice A1_2 l1_2.length c1_2]) (t:=57) ?hr ?_;(case hd=>rfl);(case hg=>rfl);(case hr=>first|(go_simp;done)|(go_simp;rfl));intro gb621 hg w27 hbox hb;have n0_:=qal.mk (qac (g:=gb620) (o:=.cells #[.int .i64 a0_0,.slice A0_1 l0_1.length c0_1] 54 (0,0)) (za0 BK620) hb);have n1_:=qal.mk (qae (za1 HB GE620) hb);have n2_:=qal.mk (hbox);have n3_:=qal.mk ((by rw[hg];exact(qad (za1 HB GE620)):w.heap.size≤gb621));have n4_:=qal.mk ((by rw[hg];exact(qad (za1 HB GE620)):w.heap.size≤gb621));have n5_:=qal.mk ((by rw[hg];exact Nat.ne_of_lt (qao (g:=gb620) (o:=.cells #[.int .i64 a0_0,.slice A0_1 l0_1.length c0_1] 54 (0,0)) (za0 BK620)):gb620≠gb621));have n6_:=qal.mk ((by rw[hg];exact Nat.ne_of_gt (qao (g:=gb620) (o:=.cells #[.int .i64 a0_0,.slice A0_1 l0_1.length c0_1] 54 (0,0)) (za0 BK620)):gb621≠gb620));clear BK620;clear HB;have BK620:=n0_;have HB:=n1_;have BK621:=n2_;have GW621:=n3_;have GE621:=n4_;have NB620_621:=n5_;have NB621_620:=n6_;clear n0_ n1_ n2_ n3_ n4_ n5_ n6_;clear hb hbox hg;have hnb28:=NB620_621.out;have hnc28:=NB621_620.out;have hcz29_0:w27.cell? ⟨gb620,0,none⟩=some (.int .i64 a0_0):=(qab BK620.out 0).trans rfl;have hcz29_1:w27.cell? ⟨gb620,1,none⟩=some (.slice A0_1 l0_1.length c0_1):=(qab BK620.out 1).trans rfl;have hfz29_0:=qaa BK620.out 0;have hfz29_1:=qaa BK620.out 1)|((with_reducible refine qai (f:=35) rfl ?_);refine qau (some 12) rfl rfl Try.func35 (by kernel_rfl) rfl #[.agg #[.int .i64 a0_0,.slice A0_1 l0_1.length c0_1],.int .i64 1048576] rfl (by(try simp only[List.map_toArray,List.map_cons,List.map_nil]);first|done|rfl|(simp only[List.length_drop,List.length_take];rfl)) ?_;(with_reducible refine(laws_szStock.calls a0_0 _ _ l0_1 1048576 t622 _ ?side1 ?side2 A3.out).mono ?_);(case side1=>repeat(first|exact(Kd.C_below HR0_1.out HB.out)|(with_reducible refine Kd.C_alloc ?_ _)|(with_reducible refine Kd.C_drewN ?_ _)|(with_reducible refine Kd.C_drew ?_)));(case side2=>exact HC0_1.out);rintro e w30 ⟨rfl,hb⟩;refine⟨_,rfl,?_⟩;have n0_:=qal.mk (qac (g:=gb620) (o:=.cells #[.int .i64 a0_0,.slice A0_1 l0_1.length c0_1] 54 (0,0)) (za0 BK620) hb);have n1_:=qal.mk (qac (g:=gb621) (o:=.cells #[.int .i64 a1_0,.int .i64 a1_1,.slice A1_2 l1_2.length c1_2] 57 (0,0)) (za0 BK621) hb);have n2_:=qal.mk (qae (za3 HB GE620 GE621) hb);clear BK620;clear BK621;clear HB;have BK620:=n0_;have BK621:=n1_;have HB:=n2_;clear n0_ n1_ n2_;(try clear hb);(try clear hb2);(try clear hk);(try clear hi);have hcz31_0:w30.cell? ⟨gb621,0,none⟩=some (.int .i64 a1_0):=(qab BK621.out 0).trans rfl;have hcz31_1:w30.cell? ⟨gb621,1,none⟩=some (.int .i64 a1_1):=(qab BK621.out 1).trans rfl;have hcz31_2:w30.cell? ⟨gb621,2,none⟩=some (.slice A1_2 l1_2.length c1_2):=(qab BK621.out 2).trans rfl;have hfz31_0:=qaa BK621.out 0;have hfz31_1:=qaa BK621.out 1;have hfz31_2:=qaa BK621.out 2)|((with_reducible refine qai (f:=36) rfl ?_);refine qau (some 17) rfl rfl Try.func36 (by kernel_rfl) rfl #[.agg #[.int .i64 a1_0,.int .i64 a1_1,.slice A1_2 l1_2.length c1_2],.int .i64 t622] rfl (by(try simp only[List.map_toArray,List.map_cons,List.map_nil]);first|done|rfl|(simp only[List.length_drop,List.length_take];rfl)) ?_;(with_reducible refine(laws_szRec.calls a1_0 a1_1 _ _ l1_2 t622 t623 _ ?side1 ?side2 A10.out).mono ?_);(case side1=>repeat(first|exact(Kd.C_below HR1_2.out HB.out)|(with_reducible refine Kd.C_alloc ?_ _)|(with_reducible refine Kd.C_drewN ?_ _)|(with_reducible refine Kd.C_drew ?_)));(case side2=>exact HC1_2.out);rintro e w32 ⟨rfl,hb⟩;refine⟨_,rfl,?_⟩;have n0_:=qal.mk (qac (g:=gb620) (o:=.cells #[.int .i64 a0_0,.slice A0_1 l0_1.length c0_1] 54 (0,0)) (za0 BK620) hb);have n1_:=qal.mk (qac (g:=gb621) (o:=.cells #[.int .i64 a1_0,.int .i64 a1_1,.slice A1_2 l1_2.length c1_2] 57 (0,0)) (za0 BK621) hb);have n2_:=qal.mk (qae (za3 HB GE620 GE621) hb);clear BK620;clear BK621;clear HB;have BK620:=n0_;have BK621:=n1_;have HB:=n2_;clear n0_ n1_ n2_;(try clear hb);(try clear hb2);(try clear hk);(try clear hi)))
    have n0_:=qal.mk (qah BK620.out)
    have n1_:=qal.mk (qah BK621.out)
    have n2_:=qal.mk (qaq HB.out)
    clear BK620
    clear BK621
    clear HB
    have BK620:=n0_
    have BK621:=n1_
    have HB:=n2_
    clear n0_ n1_ n2_
    refine start_ (n:=6) (S:=fun w'=>w'.cell? ⟨gb620,0,none⟩=some (.int .i64 a0_0)∧w'.cell? ⟨gb620,1,none⟩=some (.slice A0_1 l0_1.length c0_1)∧w'.cell? ⟨gb621,0,none⟩=some (.int .i64 a1_0)∧w'.cell? ⟨gb621,1,none⟩=some (.int .i64 a1_1)∧w'.cell? ⟨gb621,2,none⟩=some (.slice A1_2 l1_2.length c1_2)) (ds:=[]) #[false,false,false,false,false,false] (by kernel_rfl) rfl rfl ⟨(qab BK620.out 0).trans rfl,(qab BK620.out 1).trans rfl,(qab BK621.out 0).trans rfl,(qab BK621.out 1).trans rfl,(qab BK621.out 2).trans rfl⟩ (fun hHeld=>?_)
    generalize w32.drew=w33 at BK620 BK621 HB hHeld ⊢
    refine take_ (i:=0) (N:=some 20) (v:=?_) (a':=?_) #[true,false,false,false,false,false] rfl rfl (by kernel_rfl) (fun _ _ _ h=>h) (Or.inl ⟨by rfl,?_⟩) hHeld ?_ ?_
    rotate_left
    ·rintro w' ⟨s0,s1,s2,s3,s4⟩
     go_simp
     with_reducible rfl
    rotate_left
    ·simp only[Act.put,List.setIfInBounds_toArray,List.set_cons_zero,List.set_cons_succ,qas,qat]
     rfl
    refine take_ (i:=2) (N:=some 22) (v:=?_) (a':=?_) #[true,false,true,false,false,false] rfl rfl (by kernel_rfl) (fun _ _ _ h=>h) (Or.inl ⟨by rfl,?_⟩) hHeld ?_ ?_
    rotate_left
    ·rintro w' ⟨s0,s1,s2,s3,s4⟩
     go_simp
     with_reducible rfl
    rotate_left
    ·simp only[Act.put,List.setIfInBounds_toArray,List.set_cons_zero,List.set_cons_succ,qas,qat]
     rfl
    refine one_ (i:=1) (N:=some 21) #[true,true,true,false,false,false] rfl rfl (by kernel_rfl) (by decide) (fun K hK=>?_)
    refine goes_ Try.func38 (by kernel_rfl) rfl #[.agg #[.int .i64 a0_0,.slice A0_1 l0_1.length c0_1]] (by rfl) rfl rfl (by(try simp only[List.map_toArray,List.map_cons,List.map_nil]);first|done|rfl|(simp only[List.length_drop,List.length_take];rfl)) ?_
    with_reducible refine(laws_toStock.calls k a0_0 _ _ l0_1 t624 t625 _ ?side1 ?side2 A19.out).mono ?_
    (case side1=>repeat(first|exact(Kd.C_below HR0_1.out HB.out)|(with_reducible refine Kd.C_alloc ?_ _)|(with_reducible refine Kd.C_drewN ?_ _)|(with_reducible refine Kd.C_drew ?_)))
    (case side2=>exact HC0_1.out)
    rintro e w34 ⟨v626,rfl,ho0,hb⟩
    refine⟨_,rfl,?_⟩
    have n0_:=qal.mk (Kd.R_lower ho0 (qad (za3 HB GE620 GE621)))
    have n1_:=qal.mk (qac (g:=gb620) (o:=.cells #[.int .i64 a0_0,.slice A0_1 l0_1.length c0_1] 54 (0,0)) (za0 BK620) hb)
    have n2_:=qal.mk (qac (g:=gb621) (o:=.cells #[.int .i64 a1_0,.int .i64 a1_1,.slice A1_2 l1_2.length c1_2] 57 (0,0)) (za0 BK621) hb)
    have n3_:=qal.mk (qae (za3 HB GE620 GE621) hb)
    clear BK620
    clear BK621
    clear HB
    have HO627:=n0_
    have BK620:=n1_
    have BK621:=n2_
    have HB:=n3_
    clear n0_ n1_ n2_ n3_
    (try clear hb)
    (try clear hb2)
    (try clear hk)
    (try clear hi)
    (try clear ho0)
    refine hK.out _ _ ⟨(qab BK620.out 0).trans rfl,(qab BK620.out 1).trans rfl,(qab BK621.out 0).trans rfl,(qab BK621.out 1).trans rfl,(qab BK621.out 2).trans rfl⟩ (fun hHeld=>?_)
    clear hK K
    refine norm_ (a':=?_) ?_ ?_
    rotate_left
    ·show Act.put _ (some 21) _=_
     simp only[Act.put,List.setIfInBounds_toArray,List.set_cons_zero,List.set_cons_succ,qas,qat]
     rfl
    refine one_ (i:=3) (N:=some 23) #[true,true,true,true,false,false] rfl rfl (by kernel_rfl) (by decide) (fun K hK=>?_)
    refine goes_ Try.func39 (by kernel_rfl) rfl #[.agg #[.int .i64 a1_0,.int .i64 a1_1,.slice A1_2 l1_2.length c1_2]] (by rfl) rfl rfl (by(try simp only[List.map_toArray,List.map_cons,List.map_nil]);first|done|rfl|(simp only[List.length_drop,List.length_take];rfl)) ?_
    with_reducible refine(laws_toRec.calls k a1_0 a1_1 _ _ l1_2 t628 t629 t630 _ ?side1 ?side2 A20.out).mono ?_
    (case side1=>repeat(first|exact(Kd.C_below HR1_2.out HB.out)|(with_reducible refine Kd.C_alloc ?_ _)|(with_reducible refine Kd.C_drewN ?_ _)|(with_reducible refine Kd.C_drew ?_)))
    (case side2=>exact HC1_2.out)
    rintro e w35 ⟨v631,rfl,ho0,hb⟩
    refine⟨_,rfl,?_⟩
    have n0_:=qal.mk (Kd.R_below (za4 HO627) hb)
    have n1_:=qal.mk (Kd.R_lower ho0 (qad (za3 HB GE620 GE621)))
    have n2_:=qal.mk (qac (g:=gb620) (o:=.cells #[.int .i64 a0_0,.slice A0_1 l0_1.length c0_1] 54 (0,0)) (za0 BK620) hb)
    have n3_:=qal.mk (qac (g:=gb621) (o:=.cells #[.int .i64 a1_0,.int .i64 a1_1,.slice A1_2 l1_2.length c1_2] 57 (0,0)) (za0 BK621) hb)
    have n4_:=qal.mk (qae (za3 HB GE620 GE621) hb)
    clear HO627
    clear BK620
    clear BK621
    clear HB
    have HO627:=n0_
    have HO632:=n1_
    have BK620:=n2_
    have BK621:=n3_
    have HB:=n4_
    clear n0_ n1_ n2_ n3_ n4_
    (try clear hb)
    (try clear hb2)
    (try clear hk)
    (try clear hi)
    (try clear ho0)
    obtain⟨Ao36,co36,eo36⟩:=Kd.R_slice HO627.out
    (first|subst eo36|(injection eo36 with f1_ f2_ f3_;have f4_:=f1_.symm;have f5_:=f3_.symm;clear f1_ f2_ f3_;subst f4_;subst f5_))
    obtain⟨Ao37,co37,eo37⟩:=Kd.R_slice HO632.out
    (first|subst eo37|(injection eo37 with f1_ f2_ f3_;have f4_:=f1_.symm;have f5_:=f3_.symm;clear f1_ f2_ f3_;subst f4_;subst f5_))
    refine hK.out _ _ ⟨(qab BK620.out 0).trans rfl,(qab BK620.out 1).trans rfl,(qab BK621.out 0).trans rfl,(qab BK621.out 1).trans rfl,(qab BK621.out 2).trans rfl⟩ (fun hHeld=>?_)
    clear hK K
    refine norm_ (a':=?_) ?_ ?_
    rotate_left
    ·show Act.put _ (some 23) _=_
     simp only[Act.put,List.setIfInBounds_toArray,List.set_cons_zero,List.set_cons_succ,qas,qat]
     rfl
    refine one_ (i:=4) (N:=some 24) #[true,true,true,true,true,false] rfl rfl (by kernel_rfl) (by decide) (fun K hK=>?_)
    refine goes_ Try.func37 (by kernel_rfl) rfl #[.agg #[.int .i64 t624,.slice Ao36 t625.length co36],.agg #[.int .i64 t628,.int .i64 t629,.slice Ao37 t630.length co37]] (by rfl) rfl rfl (by(try simp only[List.map_toArray,List.map_cons,List.map_nil]);first|done|rfl|(simp only[List.length_drop,List.length_take];rfl)) ?_
    with_reducible refine(spec_StockMay.calls k t624 _ _ t625 t628 t629 _ _ t630 t633 _ ?side1 ?side2 ?side3 ?side4 A21.out).mono ?_
    (case side1=>repeat(first|exact(Kd.R_reads' HO627.out).2.2|(with_reducible refine Kd.C_alloc ?_ _)|(with_reducible refine Kd.C_drewN ?_ _)|(with_reducible refine Kd.C_drew ?_)))
    (case side2=>exact(Kd.R_reads' HO627.out).2.1)
    (case side3=>repeat(first|exact(Kd.R_reads' HO632.out).2.2|(with_reducible refine Kd.C_alloc ?_ _)|(with_reducible refine Kd.C_drewN ?_ _)|(with_reducible refine Kd.C_drew ?_)))
    (case side4=>exact(Kd.R_reads' HO632.out).2.1)
    rintro e w38 ⟨rfl,hb⟩
    refine⟨_,rfl,?_⟩
    have n0_:=qal.mk (Kd.R_below (za4 HO627) hb)
    have n1_:=qal.mk (Kd.R_below (za4 HO632) hb)
    have n2_:=qal.mk (qac (g:=gb620) (o:=.cells #[.int .i64 a0_0,.slice A0_1 l0_1.length c0_1] 54 (0,0)) (za0 BK620) hb)
    have n3_:=qal.mk (qac (g:=gb621) (o:=.cells #[.int .i64 a1_0,.int .i64 a1_1,.slice A1_2 l1_2.length c1_2] 57 (0,0)) (za0 BK621) hb)
    have n4_:=qal.mk (qae (za3 HB GE620 GE621) hb)
    clear HO627
    clear HO632
    clear BK620
    clear BK621
    clear HB
    have HO627:=n0_
    have HO632:=n1_
    have BK620:=n2_
    have BK621:=n3_
    have HB:=n4_
    clear n0_ n1_ n2_ n3_ n4_
    (try clear hb)
    (try clear hb2)
    (try clear hk)
    (try clear hi)
    refine hK.out _ _ ⟨(qab BK620.out 0).trans rfl,(qab BK620.out 1).trans rfl,(qab BK621.out 0).trans rfl,(qab BK621.out 1).trans rfl,(qab BK621.out 2).trans rfl⟩ (fun hHeld=>?_)
    clear hK K
    refine norm_ (a':=?_) ?_ ?_
    rotate_left
    ·show Act.put _ (some 24) _=_
     simp only[Act.put,List.setIfInBounds_toArray,List.set_cons_zero,List.set_cons_succ,qas,qat]
     rfl
    refine qaz (i:=5) (N:=some 6) (v:=?_) (a':=?_) #[true,true,true,true,true,true] rfl rfl (by kernel_rfl) (fun _ _ _ h=>h) (Or.inl ⟨by rfl,?_⟩) ?_ ?_
    rotate_left
    ·intro w'
     go_simp
     with_reducible rfl
    rotate_left
    ·simp only[Act.put,List.setIfInBounds_toArray,List.set_cons_zero,List.set_cons_succ,qas,qat]
     rfl
    refine done_ (by kernel_rfl) ?_
    have hcz39_0:w38.cell? ⟨gb620,0,none⟩=some (.int .i64 a0_0):=(qab BK620.out 0).trans rfl
    have hcz39_1:w38.cell? ⟨gb620,1,none⟩=some (.slice A0_1 l0_1.length c0_1):=(qab BK620.out 1).trans rfl
    have hfz39_0:=qaa BK620.out 0
    have hfz39_1:=qaa BK620.out 1
    try go_wp2_with(first|((with_reducible refine qai (f:=38) rfl ?_);refine qau (some 26) rfl rfl Try.func38 (by kernel_rfl) rfl #[.agg #[.int .i64 a0_0,.slice A0_1 l0_1.length c0_1]] rfl (by(try simp only[List.map_toArray,List.map_cons,List.map_nil]);first|done|rfl|(simp only[List.length_drop,List.length_take];rfl)) ?_;(with_reducible refine(laws_toStock.calls k a0_0 _ _ l0_1 t634 t635 _ ?side1 ?side2 A22.out).mono ?_);(case side1=>repeat(first|exact(Kd.C_below HR0_1.out HB.out)|(with_reducible refine Kd.C_alloc ?_ _)|(with_reducible refine Kd.C_drewN ?_ _)|(with_reducible refine Kd.C_drew ?_)));(case side2=>exact HC0_1.out);rintro e w40 ⟨v636,rfl,ho0,hb⟩;refine⟨_,rfl,?_⟩;have n0_:=qal.mk (Kd.R_elder' (za4 HO627) (Kd.R_base ho0) hb);have n1_:=qal.mk (Kd.R_below (za4 HO632) hb);have n2_:=qal.mk (Kd.R_lower (Kd.R_new' ho0 (Kd.R_lt (za4 HO627))) (qad (za3 HB GE620 GE621)));have n3_:=qal.mk (qac (g:=gb620) (o:=.cells #[.int .i64 a0_0,.slice A0_1 l0_1.length c0_1] 54 (0,0)) (za0 BK620) hb);have n4_:=qal.mk (qac (g:=gb621) (o:=.cells #[.int .i64 a1_0,.int .i64 a1_1,.slice A1_2 l1_2.length c1_2] 57 (0,0)) (za0 BK621) hb);have n5_:=qal.mk (qae (za3 HB GE620 GE621) hb);clear HO627;clear HO632;clear BK620;clear BK621;clear HB;have HO627:=n0_;have HO632:=n1_;have HO637:=n2_;have BK620:=n3_;have BK621:=n4_;have HB:=n5_;clear n0_ n1_ n2_ n3_ n4_ n5_;(try clear hb);(try clear hb2);(try clear hk);(try clear hi);(try clear ho0))|((with_reducible refine qak (N:=7) rfl ?_);refine qaj ?hg (N:=7) ?hd (cs:=#[.int .i64 0,.slice none 0 0]) (t:=36) ?hr ?_;(case hd=>rfl);(case hg=>rfl);(case hr=>first|(go_simp;done)|(go_simp;rfl));intro gb638 hg w41 hbox hb;have n0_:=qal.mk (Kd.R_below (za4 HO627) hb);have n1_:=qal.mk (Kd.R_below (za4 HO632) hb);have n2_:=qal.mk (Kd.R_below (za4 HO637) hb);have n3_:=qal.mk (qac (g:=gb620) (o:=.cells #[.int .i64 a0_0,.slice A0_1 l0_1.length c0_1] 54 (0,0)) (za0 BK620) hb);have n4_:=qal.mk (qac (g:=gb621) (o:=.cells #[.int .i64 a1_0,.int .i64 a1_1,.slice A1_2 l1_2.length c1_2] 57 (0,0)) (za0 BK621) hb);have n5_:=qal.mk (qae (za3 HB GE620 GE621) hb);have n6_:=qal.mk (hbox);have n7_:=qal.mk ((by rw[hg];exact(qad (za3 HB GE620 GE621)):w.heap.size≤gb638));have n8_:=qal.mk ((by rw[hg];exact(qad (za3 HB GE620 GE621)):w.heap.size≤gb638));have n9_:=qal.mk ((by rw[hg];exact Nat.ne_of_lt (qao (g:=gb620) (o:=.cells #[.int .i64 a0_0,.slice A0_1 l0_1.length c0_1] 54 (0,0)) (za0 BK620)):gb620≠gb638));have n10_:=qal.mk ((by rw[hg];exact Nat.ne_of_gt (qao (g:=gb620) (o:=.cells #[.int .i64 a0_0,.slice A0_1 l0_1.length c0_1] 54 (0,0)) (za0 BK620)):gb638≠gb620));have n11_:=qal.mk ((by rw[hg];exact Nat.ne_of_lt (qao (g:=gb621) (o:=.cells #[.int .i64 a1_0,.int .i64 a1_1,.slice A1_2 l1_2.length c1_2] 57 (0,0)) (za0 BK621)):gb621≠gb638));have n12_:=qal.mk ((by rw[hg];exact Nat.ne_of_gt (qao (g:=gb621) (o:=.cells #[.int .i64 a1_0,.int .i64 a1_1,.slice A1_2 l1_2.length c1_2] 57 (0,0)) (za0 BK621)):gb638≠gb621));clear HO627;clear HO632;clear HO637;clear BK620;clear BK621;clear HB;have HO627:=n0_;have HO632:=n1_;have HO637:=n2_;have BK620:=n3_;have BK621:=n4_;have HB:=n5_;have BK638:=n6_;have GW638:=n7_;have GE638:=n8_;have NB620_638:=n9_;have NB638_620:=n10_;have NB621_638:=n11_;have NB638_621:=n12_;clear n0_ n1_ n2_ n3_ n4_ n5_ n6_ n7_ n8_ n9_ n10_ n11_ n12_;clear hb hbox hg;have hnb42:=NB638_620.out;have hnc42:=NB620_638.out;have hnb43:=NB638_621.out;have hnc43:=NB621_638.out;have hcz44_0:w41.cell? ⟨gb638,0,none⟩=some (.int .i64 0):=(qab BK638.out 0).trans rfl;have hcz44_1:w41.cell? ⟨gb638,1,none⟩=some (.slice none 0 0):=(qab BK638.out 1).trans rfl;have hfz44_0:=qaa BK638.out 0;have hfz44_1:=qaa BK638.out 1;obtain⟨Ao45,co45,eo45⟩:=Kd.R_slice HO637.out;subst eo45;have hcz46_0:w41.cell? ⟨gb621,0,none⟩=some (.int .i64 a1_0):=(qab BK621.out 0).trans rfl;have hcz46_1:w41.cell? ⟨gb621,1,none⟩=some (.int .i64 a1_1):=(qab BK621.out 1).trans rfl;have hcz46_2:w41.cell? ⟨gb621,2,none⟩=some (.slice A1_2 l1_2.length c1_2):=(qab BK621.out 2).trans rfl;have hfz46_0:=qaa BK621.out 0;have hfz46_1:=qaa BK621.out 1;have hfz46_2:=qaa BK621.out 2)|((with_reducible refine qai (f:=39) rfl ?_);refine qau (some 28) rfl rfl Try.func39 (by kernel_rfl) rfl #[.agg #[.int .i64 a1_0,.int .i64 a1_1,.slice A1_2 l1_2.length c1_2]] rfl (by(try simp only[List.map_toArray,List.map_cons,List.map_nil]);first|done|rfl|(simp only[List.length_drop,List.length_take];rfl)) ?_;(with_reducible refine(laws_toRec.calls k a1_0 a1_1 _ _ l1_2 t639 t640 t641 _ ?side1 ?side2 A23.out).mono ?_);(case side1=>exact Kd.C_below HR1_2.out (za6 HB GE620 GE621 GE638));(case side2=>exact HC1_2.out);rintro e w47 ⟨v642,rfl,ho0,hb⟩;refine⟨_,rfl,?_⟩;have n0_:=qal.mk (Kd.R_below (by(with_reducible repeat(first|apply Kd.R_alloc|apply Kd.R_drewN|apply Kd.R_drew));exact(Kd.R_mono (Kd.R_far (p:=⟨gb638,1,none⟩) (Kd.R_far (p:=⟨gb638,0,none⟩) (Kd.R_types HO627.out BK638.out (by decide)) (fun _ hk=>hk.2) (.int .i64 t634)) (fun _ hk=>hk.2) (.slice Ao45 t635.length co45)) (fun _ h_=>h_.1))) hb);have n1_:=qal.mk (Kd.R_elder' (by(with_reducible repeat(first|apply Kd.R_alloc|apply Kd.R_drewN|apply Kd.R_drew));exact(Kd.R_mono (Kd.R_far (p:=⟨gb638,1,none⟩) (Kd.R_far (p:=⟨gb638,0,none⟩) (Kd.R_types HO632.out BK638.out (by decide)) (fun _ hk=>hk.2) (.int .i64 t634)) (fun _ hk=>hk.2) (.slice Ao45 t635.length co45)) (fun _ h_=>h_.1))) (Kd.R_base ho0) hb);have n2_:=qal.mk (Kd.R_below (by(with_reducible repeat(first|apply Kd.R_alloc|apply Kd.R_drewN|apply Kd.R_drew));exact(Kd.R_mono (Kd.R_far (p:=⟨gb638,1,none⟩) (Kd.R_far (p:=⟨gb638,0,none⟩) (Kd.R_types HO637.out BK638.out (by decide)) (fun _ hk=>hk.2) (.int .i64 t634)) (fun _ hk=>hk.2) (.slice Ao45 t635.length co45)) (fun _ h_=>h_.1))) hb);have n3_:=qal.mk (Kd.R_lower (Kd.R_new' ho0 (Kd.R_lt (by(with_reducible repeat(first|apply Kd.R_alloc|apply Kd.R_drewN|apply Kd.R_drew));exact(Kd.R_mono (Kd.R_far (p:=⟨gb638,1,none⟩) (Kd.R_far (p:=⟨gb638,0,none⟩) (Kd.R_types HO632.out BK638.out (by decide)) (fun _ hk=>hk.2) (.int .i64 t634)) (fun _ hk=>hk.2) (.slice Ao45 t635.length co45)) (fun _ h_=>h_.1))))) (qad (za6 HB GE620 GE621 GE638)));have n4_:=qal.mk (qac (g:=gb620) (o:=.cells #[.int .i64 a0_0,.slice A0_1 l0_1.length c0_1] 54 (0,0)) (za5 NB620_638 BK620) hb);have n5_:=qal.mk (qac (g:=gb621) (o:=.cells #[.int .i64 a1_0,.int .i64 a1_1,.slice A1_2 l1_2.length c1_2] 57 (0,0)) (za5 NB621_638 BK621) hb);have n6_:=qal.mk (qac (g:=gb638) (o:=.cells #[.int .i64 t634,.slice Ao45 t635.length co45] 36 (0,0)) (by(with_reducible repeat(first|refine qag ?_ _|refine qah ?_|refine qaf ?_ _));refine qan (cs:=#[.int .i64 t634,.slice none 0 0]) ?_ 1 _ rfl;(with_reducible repeat(first|refine qag ?_ _|refine qah ?_|refine qaf ?_ _));refine qan (cs:=#[.int .i64 0,.slice none 0 0]) ?_ 0 _ rfl;(with_reducible repeat(first|refine qag ?_ _|refine qah ?_|refine qaf ?_ _));exact BK638.out) hb);have n7_:=qal.mk (qae (za6 HB GE620 GE621 GE638) hb);clear HO627;clear HO632;clear HO637;clear BK620;clear BK621;clear BK638;clear HB;have HO627:=n0_;have HO632:=n1_;have HO637:=n2_;have HO643:=n3_;have BK620:=n4_;have BK621:=n5_;have BK638:=n6_;have HB:=n7_;clear n0_ n1_ n2_ n3_ n4_ n5_ n6_ n7_;(try clear hb);(try clear hb2);(try clear hk);(try clear hi);(try clear ho0))|((with_reducible refine qak (N:=8) rfl ?_);refine qaj ?hg (N:=8) ?hd (cs:=#[.int .i64 0,.int .i64 0,.slice none 0 0]) (t:=62) ?hr ?_;(case hd=>rfl);(case hg=>rfl);(case hr=>first|(go_simp;done)|(go_simp;rfl));intro gb644 hg w48 hbox hb;have n0_:=qal.mk (Kd.R_below (za4 HO627) hb);have n1_:=qal.mk (Kd.R_below (za4 HO632) hb);have n2_:=qal.mk (Kd.R_below (za4 HO637) hb);have n3_:=qal.mk (Kd.R_below (za4 HO643) hb);have n4_:=qal.mk (qac (g:=gb620) (o:=.cells #[.int .i64 a0_0,.slice A0_1 l0_1.length c0_1] 54 (0,0)) (za0 BK620) hb);have n5_:=qal.mk (qac (g:=gb621) (o:=.cells #[.int .i64 a1_0,.int .i64 a1_1,.slice A1_2 l1_2.length c1_2] 57 (0,0)) (za0 BK621) hb);have n6_:=qal.mk (qac (g:=gb638) (o:=.cells #[.int .i64 t634,.slice Ao45 t635.length co45] 36 (0,0)) (za0 BK638) hb);have n7_:=qal.mk (qae (za6 HB GE620 GE621 GE638) hb);have n8_:=qal.mk (hbox);have n9_:=qal.mk ((by rw[hg];exact(qad (za6 HB GE620 GE621 GE638)):w.heap.size≤gb644));have n10_:=qal.mk ((by rw[hg];exact(qad (za6 HB GE620 GE621 GE638)):w.heap.size≤gb644));have n11_:=qal.mk ((by rw[hg];exact Nat.ne_of_lt (qao (g:=gb620) (o:=.cells #[.int .i64 a0_0,.slice A0_1 l0_1.length c0_1] 54 (0,0)) (za0 BK620)):gb620≠gb644));have n12_:=qal.mk ((by rw[hg];exact Nat.ne_of_gt (qao (g:=gb620) (o:=.cells #[.int .i64 a0_0,.slice A0_1 l0_1.length c0_1] 54 (0,0)) (za0 BK620)):gb644≠gb620));have n13_:=qal.mk ((by rw[hg];exact Nat.ne_of_lt (qao (g:=gb621) (o:=.cells #[.int .i64 a1_0,.int .i64 a1_1,.slice A1_2 l1_2.length c1_2] 57 (0,0)) (za0 BK621)):gb621≠gb644));have n14_:=qal.mk ((by rw[hg];exact Nat.ne_of_gt (qao (g:=gb621) (o:=.cells #[.int .i64 a1_0,.int .i64 a1_1,.slice A1_2 l1_2.length c1_2] 57 (0,0)) (za0 BK621)):gb644≠gb621));have n15_:=qal.mk ((by rw[hg];exact Nat.ne_of_lt (qao (g:=gb638) (o:=.cells #[.int .i64 t634,.slice Ao45 t635.length co45] 36 (0,0)) (za0 BK638)):gb638≠gb644));have n16_:=qal.mk ((by rw[hg];exact Nat.ne_of_gt (qao (g:=gb638) (o:=.cells #[.int .i64 t634,.slice Ao45 t635.length co45] 36 (0,0)) (za0 BK638)):gb644≠gb638));clear HO627;clear HO632;clear HO637;clear HO643;clear BK620;clear BK621;clear BK638;clear HB;have HO627:=n0_;have HO632:=n1_;have HO637:=n2_;have HO643:=n3_;have BK620:=n4_;have BK621:=n5_;have BK638:=n6_;have HB:=n7_;have BK644:=n8_;have GW644:=n9_;have GE644:=n10_;have NB620_644:=n11_;have NB644_620:=n12_;have NB621_644:=n13_;have NB644_621:=n14_;have NB638_644:=n15_;have NB644_638:=n16_;clear n0_ n1_ n2_ n3_ n4_ n5_ n6_ n7_ n8_ n9_ n10_ n11_ n12_ n13_ n14_ n15_ n16_;clear hb hbox hg;have hnb49:=NB644_620.out;have hnc49:=NB620_644.out;have hnb50:=NB644_621.out;have hnc50:=NB621_644.out;have hnb51:=NB644_638.out;have hnc51:=NB638_644.out;have hcz52_0:w48.cell? ⟨gb644,0,none⟩=some (.int .i64 0):=(qab BK644.out 0).trans rfl;have hcz52_1:w48.cell? ⟨gb644,1,none⟩=some (.int .i64 0):=(qab BK644.out 1).trans rfl;have hcz52_2:w48.cell? ⟨gb644,2,none⟩=some (.slice none 0 0):=(qab BK644.out 2).trans rfl;have hfz52_0:=qaa BK644.out 0;have hfz52_1:=qaa BK644.out 1;have hfz52_2:=qaa BK644.out 2;obtain⟨Ao53,co53,eo53⟩:=Kd.R_slice HO643.out;subst eo53;have hcz54_0:w48.cell? ⟨gb638,0,none⟩=some (.int .i64 t634):=(qab BK638.out 0).trans rfl;have hcz54_1:w48.cell? ⟨gb638,1,none⟩=some (.slice Ao45 t635.length co45):=(qab BK638.out 1).trans rfl;have hfz54_0:=qaa BK638.out 0;have hfz54_1:=qaa BK638.out 1)|((with_reducible refine qai (f:=40) rfl ?_);refine qau (some 31) rfl rfl Try.func40 (by kernel_rfl) rfl #[.agg #[.int .i64 t634,.slice Ao45 t635.length co45],.agg #[.int .i64 t639,.int .i64 t640,.slice Ao53 t641.length co53]] rfl (by(try simp only[List.map_toArray,List.map_cons,List.map_nil]);first|done|rfl|(simp only[List.length_drop,List.length_take];rfl)) ?_;(with_reducible refine(impl_StockMay.calls k t634 _ _ t635 t639 t640 _ _ t641 t645 _ ?side1 ?side2 ?side3 ?side4 A24.out).mono ?_);(case side1=>refine(Kd.R_reads' (e:=46) (base:=w.heap.size) (ok:=fun k_=>(True∧some k_≠(.slice Ao36 t625.length co36:Value).ownBlock)) (n:=t635.length) (c:=co45) ?_).2.2;exact(by(with_reducible repeat(first|apply Kd.R_alloc|apply Kd.R_drewN|apply Kd.R_drew));exact(Kd.R_mono (Kd.R_far (p:=⟨gb644,2,none⟩) (Kd.R_far (p:=⟨gb644,1,none⟩) (Kd.R_far (p:=⟨gb644,0,none⟩) (Kd.R_types HO637.out BK644.out (by decide)) (fun _ hk=>hk.2) (.int .i64 t639)) (fun _ hk=>hk.2) (.int .i64 t640)) (fun _ hk=>hk.2) (.slice Ao53 t641.length co53)) (fun _ h_=>h_.1))));(case side2=>exact(Kd.R_reads' HO637.out).2.1);(case side3=>refine(Kd.R_reads' (e:=3) (base:=w.heap.size) (ok:=fun k_=>(True∧some k_≠(.slice Ao37 t630.length co37:Value).ownBlock)) (n:=t641.length) (c:=co53) ?_).2.2;exact(by(with_reducible repeat(first|apply Kd.R_alloc|apply Kd.R_drewN|apply Kd.R_drew));exact(Kd.R_mono (Kd.R_far (p:=⟨gb644,2,none⟩) (Kd.R_far (p:=⟨gb644,1,none⟩) (Kd.R_far (p:=⟨gb644,0,none⟩) (Kd.R_types HO643.out BK644.out (by decide)) (fun _ hk=>hk.2) (.int .i64 t639)) (fun _ hk=>hk.2) (.int .i64 t640)) (fun _ hk=>hk.2) (.slice Ao53 t641.length co53)) (fun _ h_=>h_.1))));(case side4=>exact(Kd.R_reads' HO643.out).2.1);rintro e w55 ⟨rfl,hb⟩;refine⟨_,rfl,?_⟩;have n0_:=qal.mk (Kd.R_below (by(with_reducible repeat(first|apply Kd.R_alloc|apply Kd.R_drewN|apply Kd.R_drew));exact(Kd.R_mono (Kd.R_far (p:=⟨gb644,2,none⟩) (Kd.R_far (p:=⟨gb644,1,none⟩) (Kd.R_far (p:=⟨gb644,0,none⟩) (Kd.R_types HO627.out BK644.out (by decide)) (fun _ hk=>hk.2) (.int .i64 t639)) (fun _ hk=>hk.2) (.int .i64 t640)) (fun _ hk=>hk.2) (.slice Ao53 t641.length co53)) (fun _ h_=>h_.1))) hb);have n1_:=qal.mk (Kd.R_below (by(with_reducible repeat(first|apply Kd.R_alloc|apply Kd.R_drewN|apply Kd.R_drew));exact(Kd.R_mono (Kd.R_far (p:=⟨gb644,2,none⟩) (Kd.R_far (p:=⟨gb644,1,none⟩) (Kd.R_far (p:=⟨gb644,0,none⟩) (Kd.R_types HO632.out BK644.out (by decide)) (fun _ hk=>hk.2) (.int .i64 t639)) (fun _ hk=>hk.2) (.int .i64 t640)) (fun _ hk=>hk.2) (.slice Ao53 t641.length co53)) (fun _ h_=>h_.1))) hb);have n2_:=qal.mk (Kd.R_below (by(with_reducible repeat(first|apply Kd.R_alloc|apply Kd.R_drewN|apply Kd.R_drew));exact(Kd.R_mono (Kd.R_far (p:=⟨gb644,2,none⟩) (Kd.R_far (p:=⟨gb644,1,none⟩) (Kd.R_far (p:=⟨gb644,0,none⟩) (Kd.R_types HO637.out BK644.out (by decide)) (fun _ hk=>hk.2) (.int .i64 t639)) (fun _ hk=>hk.2) (.int .i64 t640)) (fun _ hk=>hk.2) (.slice Ao53 t641.length co53)) (fun _ h_=>h_.1))) hb);have n3_:=qal.mk (Kd.R_below (by(with_reducible repeat(first|apply Kd.R_alloc|apply Kd.R_drewN|apply Kd.R_drew));exact(Kd.R_mono (Kd.R_far (p:=⟨gb644,2,none⟩) (Kd.R_far (p:=⟨gb644,1,none⟩) (Kd.R_far (p:=⟨gb644,0,none⟩) (Kd.R_types HO643.out BK644.out (by decide)) (fun _ hk=>hk.2) (.int .i64 t639)) (fun _ hk=>hk.2) (.int .i64 t640)) (fun _ hk=>hk.2) (.slice Ao53 t641.length co53)) (fun _ h_=>h_.1))) hb);have n4_:=qal.mk (qac (g:=gb620) (o:=.cells #[.int .i64 a0_0,.slice A0_1 l0_1.length c0_1] 54 (0,0)) (za7 NB620_644 BK620) hb);have n5_:=qal.mk (qac (g:=gb621) (o:=.cells #[.int .i64 a1_0,.int .i64 a1_1,.slice A1_2 l1_2.length c1_2] 57 (0,0)) (za7 NB621_644 BK621) hb);have n6_:=qal.mk (qac (g:=gb638) (o:=.cells #[.int .i64 t634,.slice Ao45 t635.length co45] 36 (0,0)) (za7 NB638_644 BK638) hb);have n7_:=qal.mk (qac (g:=gb644) (o:=.cells #[.int .i64 t639,.int .i64 t640,.slice Ao53 t641.length co53] 62 (0,0)) (by(with_reducible repeat(first|refine qag ?_ _|refine qah ?_|refine qaf ?_ _));refine qan (cs:=#[.int .i64 t639,.int .i64 t640,.slice none 0 0]) ?_ 2 _ rfl;(with_reducible repeat(first|refine qag ?_ _|refine qah ?_|refine qaf ?_ _));refine qan (cs:=#[.int .i64 t639,.int .i64 0,.slice none 0 0]) ?_ 1 _ rfl;(with_reducible repeat(first|refine qag ?_ _|refine qah ?_|refine qaf ?_ _));refine qan (cs:=#[.int .i64 0,.int .i64 0,.slice none 0 0]) ?_ 0 _ rfl;(with_reducible repeat(first|refine qag ?_ _|refine qah ?_|refine qaf ?_ _));exact BK644.out) hb);have n8_:=qal.mk (qae (za11 HB GE620 GE621 GE638 GE644) hb);clear HO627;clear HO632;clear HO637;clear HO643;clear BK620;clear BK621;clear BK638;clear BK644;clear HB;have HO627:=n0_;have HO632:=n1_;have HO637:=n2_;have HO643:=n3_;have BK620:=n4_;have BK621:=n5_;have BK638:=n6_;have BK644:=n7_;have HB:=n8_;clear n0_ n1_ n2_ n3_ n4_ n5_ n6_ n7_ n8_;(try clear hb);(try clear hb2);(try clear hk);(try clear hi)))
    go_ret
    exact⟨za9,za11 HB GE620 GE621 GE638 GE644⟩
   ·rw[if_neg c25] at H
    have c25b0:(t645 != t633)=false:=by simpa using c25
    (try(have c25b1:decide (t645=t633)=true:=by simpa using c25))
    (try(have c25b2:(t645 == t633)=true:=by simpa using c25))
    clear c25
    replace H:=Option.bind_eq_some_iff.mp H
    obtain⟨⟨t646,t647⟩,A560,H⟩:=H
    replace H:((laws_eqStock.f k t634 t635 t646 t647).bind fun t650=>(if t650=true then((laws_toRec.f k a1_0 a1_1 l1_2).bind fun bt651=>((laws_eqRec.f k t639 t640 t641 bt651.1 bt651.2.1 bt651.2.2).bind fun t656=>(if t656=true then(some true) else(some false)))) else(some false)))=some r:=H
    have A56:=qal.mk A560
    clear A560
    replace H:=Option.bind_eq_some_iff.mp H
    obtain⟨t650,A570,H⟩:=H
    replace H:(if t650=true then((laws_toRec.f k a1_0 a1_1 l1_2).bind fun bt651=>((laws_eqRec.f k t639 t640 t641 bt651.1 bt651.2.1 bt651.2.2).bind fun t656=>(if t656=true then(some true) else(some false)))) else(some false))=some r:=H
    have A57:=qal.mk A570
    clear A570
    by_cases c58:t650=true
    ·subst c58
     have H1:((laws_toRec.f k a1_0 a1_1 l1_2).bind fun bt651=>((laws_eqRec.f k t639 t640 t641 bt651.1 bt651.2.1 bt651.2.2).bind fun t656=>(if t656=true then(some true) else(some false))))=some r:=by rw[if_pos rfl] at H;exact H
     clear H
     have H:=H1
     clear H1
     replace H:=Option.bind_eq_some_iff.mp H
     obtain⟨⟨t651,t652,t653⟩,A590,H⟩:=H
     replace H:((laws_eqRec.f k t639 t640 t641 t651 t652 t653).bind fun t656=>(if t656=true then(some true) else(some false)))=some r:=H
     have A59:=qal.mk A590
     clear A590
     replace H:=Option.bind_eq_some_iff.mp H
     obtain⟨t656,A600,H⟩:=H
     replace H:(if t656=true then(some true) else(some false))=some r:=H
     have A60:=qal.mk A600
     clear A600
     by_cases c61:t656=true
     ·subst c61
      have H1:(some true)=some r:=by rw[if_pos rfl] at H;exact H
      clear H
      have H:=H1
      clear H1
      obtain rfl:=Option.some.inj H
      go_enter Try.func8,Try.ntmps8
      try go_wp2_with(first|((with_reducible refine qak (N:=2) rfl ?_);refine qaj ?hg (N:=2) ?hd (cs:=#[.int .i64 a0_0,.slice A0_1 l0_1.length c0_1]) (t:=54) ?hr ?_;(case hd=>rfl);(case hg=>rfl);(case hr=>first|(go_simp;done)|(go_simp;rfl));intro gb620 hg w62 hbox hb;have n0_:=qal.mk (qae (za2 HB) hb);have n1_:=qal.mk (hbox);have n2_:=qal.mk ((by rw[hg];exact(qad (za2 HB)):w.heap.size≤gb620));have n3_:=qal.mk ((by rw[hg];exact(qad (za2 HB)):w.heap.size≤gb620));clear HB;have HB:=n0_;have BK620:=n1_;have GW620:=n2_;have GE620:=n3_;clear n0_ n1_ n2_ n3_;clear hb hbox hg)|((with_reducible refine qak (N:=3) rfl ?_);refine qaj ?hg (N:=3) ?hd (cs:=#[.int .i64 a1_0,.int .i64 a1_1,.slice A1_2 l1_2.length c1_2]) (t:=57) ?hr ?_;(case hd=>rfl);(case hg=>rfl);(case hr=>first|(go_simp;done)|(go_simp;rfl));intro gb621 hg w63 hbox hb;have n0_:=qal.mk (qac (g:=gb620) (o:=.cells #[.int .i64 a0_0,.slice A0_1 l0_1.length c0_1] 54 (0,0)) (za0 BK620) hb);have n1_:=qal.mk (qae (za1 HB GE620) hb);have n2_:=qal.mk (hbox);have n3_:=qal.mk ((by rw[hg];exact(qad (za1 HB GE620)):w.heap.size≤gb621));have n4_:=qal.mk ((by rw[hg];exact(qad (za1 HB GE620)):w.heap.size≤gb621));have n5_:=qal.mk ((by rw[hg];exact Nat.ne_of_lt (qao (g:=gb620) (o:=.cells #[.int .i64 a0_0,.slice A0_1 l0_1.length c0_1] 54 (0,0)) (za0 BK620)):gb620≠gb621));have n6_:=qal.mk ((by rw[hg];exact Nat.ne_of_gt (qao (g:=gb620) (o:=.cells #[.int .i64 a0_0,.slice A0_1 l0_1.length c0_1] 54 (0,0)) (za0 BK620)):gb621≠gb620));clear BK620;clear HB;have BK620:=n0_;have HB:=n1_;have BK621:=n2_;have GW621:=n3_;have GE621:=n4_;have NB620_621:=n5_;have NB621_620:=n6_;clear n0_ n1_ n2_ n3_ n4_ n5_ n6_;clear hb hbox hg;have hnb64:=NB620_621.out;have hnc64:=NB621_620.out;have hcz65_0:w63.cell? ⟨gb620,0,none⟩=some (.int .i64 a0_0):=(qab BK620.out 0).trans rfl;have hcz65_1:w63.cell? ⟨gb620,1,none⟩=some (.slice A0_1 l0_1.length c0_1):=(qab BK620.out 1).trans rfl;have hfz65_0:=qaa BK620.out 0;have hfz65_1:=qaa BK620.out 1)|((with_reducible refine qai (f:=35) rfl ?_);refine qau (some 12) rfl rfl Try.func35 (by kernel_rfl) rfl #[.agg #[.int .i64 a0_0,.slice A0_1 l0_1.length c0_1],.int .i64 1048576] rfl (by(try simp only[List.map_toArray,List.map_cons,List.map_nil]);first|done|rfl|(simp only[List.length_drop,List.length_take];rfl)) ?_;(with_reducible refine(laws_szStock.calls a0_0 _ _ l0_1 1048576 t622 _ ?side1 ?side2 A3.out).mono ?_);(case side1=>repeat(first|exact(Kd.C_below HR0_1.out HB.out)|(with_reducible refine Kd.C_alloc ?_ _)|(with_reducible refine Kd.C_drewN ?_ _)|(with_reducible refine Kd.C_drew ?_)));(case side2=>exact HC0_1.out);rintro e w66 ⟨rfl,hb⟩;refine⟨_,rfl,?_⟩;have n0_:=qal.mk (qac (g:=gb620) (o:=.cells #[.int .i64 a0_0,.slice A0_1 l0_1.length c0_1] 54 (0,0)) (za0 BK620) hb);have n1_:=qal.mk (qac (g:=gb621) (o:=.cells #[.int .i64 a1_0,.int .i64 a1_1,.slice A1_2 l1_2.length c1_2] 57 (0,0)) (za0 BK621) hb);have n2_:=qal.mk (qae (za3 HB GE620 GE621) hb);clear BK620;clear BK621;clear HB;have BK620:=n0_;have BK621:=n1_;have HB:=n2_;clear n0_ n1_ n2_;(try clear hb);(try clear hb2);(try clear hk);(try clear hi);have hcz67_0:w66.cell? ⟨gb621,0,none⟩=some (.int .i64 a1_0):=(qab BK621.out 0).trans rfl;have hcz67_1:w66.cell? ⟨gb621,1,none⟩=some (.int .i64 a1_1):=(qab BK621.out 1).trans rfl;have hcz67_2:w66.cell? ⟨gb621,2,none⟩=some (.slice A1_2 l1_2.length c1_2):=(qab BK621.out 2).trans rfl;have hfz67_0:=qaa BK621.out 0;have hfz67_1:=qaa BK621.out 1;have hfz67_2:=qaa BK621.out 2)|((with_reducible refine qai (f:=36) rfl ?_);refine qau (some 17) rfl rfl Try.func36 (by kernel_rfl) rfl #[.agg #[.int .i64 a1_0,.int .i64 a1_1,.slice A1_2 l1_2.length c1_2],.int .i64 t622] rfl (by(try simp only[List.map_toArray,List.map_cons,List.map_nil]);first|done|rfl|(simp only[List.length_drop,List.length_take];rfl)) ?_;(with_reducible refine(laws_szRec.calls a1_0 a1_1 _ _ l1_2 t622 t623 _ ?side1 ?side2 A10.out).mono ?_);(case side1=>repeat(first|exact(Kd.C_below HR1_2.out HB.out)|(with_reducible refine Kd.C_alloc ?_ _)|(with_reducible refine Kd.C_drewN ?_ _)|(with_reducible refine Kd.C_drew ?_)));(case side2=>exact HC1_2.out);rintro e w68 ⟨rfl,hb⟩;refine⟨_,rfl,?_⟩;have n0_:=qal.mk (qac (g:=gb620) (o:=.cells #[.int .i64 a0_0,.slice A0_1 l0_1.length c0_1] 54 (0,0)) (za0 BK620) hb);have n1_:=qal.mk (qac (g:=gb621) (o:=.cells #[.int .i64 a1_0,.int .i64 a1_1,.slice A1_2 l1_2.length c1_2] 57 (0,0)) (za0 BK621) hb);have n2_:=qal.mk (qae (za3 HB GE620 GE621) hb);clear BK620;clear BK621;clear HB;have BK620:=n0_;have BK621:=n1_;have HB:=n2_;clear n0_ n1_ n2_;(try clear hb);(try clear hb2);(try clear hk);(try clear hi)))
      have n0_:=qal.mk (qah BK620.out)
      have n1_:=qal.mk (qah BK621.out)
      have n2_:=qal.mk (qaq HB.out)
      clear BK620
      clear BK621
      clear HB
      have BK620:=n0_
      have BK621:=n1_
      have HB:=n2_
      clear n0_ n1_ n2_
      refine start_ (n:=6) (S:=fun w'=>w'.cell? ⟨gb620,0,none⟩=some (.int .i64 a0_0)∧w'.cell? ⟨gb620,1,none⟩=some (.slice A0_1 l0_1.length c0_1)∧w'.cell? ⟨gb621,0,none⟩=some (.int .i64 a1_0)∧w'.cell? ⟨gb621,1,none⟩=some (.int .i64 a1_1)∧w'.cell? ⟨gb621,2,none⟩=some (.slice A1_2 l1_2.length c1_2)) (ds:=[]) #[false,false,false,false,false,false] (by kernel_rfl) rfl rfl ⟨(qab BK620.out 0).trans rfl,(qab BK620.out 1).trans rfl,(qab BK621.out 0).trans rfl,(qab BK621.out 1).trans rfl,(qab BK621.out 2).trans rfl⟩ (fun hHeld=>?_)
      generalize w68.drew=w69 at BK620 BK621 HB hHeld ⊢
      refine take_ (i:=0) (N:=some 20) (v:=?_) (a':=?_) #[true,false,false,false,false,false] rfl rfl (by kernel_rfl) (fun _ _ _ h=>h) (Or.inl ⟨by rfl,?_⟩) hHeld ?_ ?_
      rotate_left
      ·rintro w' ⟨s0,s1,s2,s3,s4⟩
       go_simp
       with_reducible rfl
      rotate_left
      ·simp only[Act.put,List.setIfInBounds_toArray,List.set_cons_zero,List.set_cons_succ,qas,qat]
       rfl
      refine take_ (i:=2) (N:=some 22) (v:=?_) (a':=?_) #[true,false,true,false,false,false] rfl rfl (by kernel_rfl) (fun _ _ _ h=>h) (Or.inl ⟨by rfl,?_⟩) hHeld ?_ ?_
      rotate_left
      ·rintro w' ⟨s0,s1,s2,s3,s4⟩
       go_simp
       with_reducible rfl
      rotate_left
      ·simp only[Act.put,List.setIfInBounds_toArray,List.set_cons_zero,List.set_cons_succ,qas,qat]
       rfl
      refine one_ (i:=1) (N:=some 21) #[true,true,true,false,false,false] rfl rfl (by kernel_rfl) (by decide) (fun K hK=>?_)
      refine goes_ Try.func38 (by kernel_rfl) rfl #[.agg #[.int .i64 a0_0,.slice A0_1 l0_1.length c0_1]] (by rfl) rfl rfl (by(try simp only[List.map_toArray,List.map_cons,List.map_nil]);first|done|rfl|(simp only[List.length_drop,List.length_take];rfl)) ?_
      with_reducible refine(laws_toStock.calls k a0_0 _ _ l0_1 t624 t625 _ ?side1 ?side2 A19.out).mono ?_
      (case side1=>repeat(first|exact(Kd.C_below HR0_1.out HB.out)|(with_reducible refine Kd.C_alloc ?_ _)|(with_reducible refine Kd.C_drewN ?_ _)|(with_reducible refine Kd.C_drew ?_)))
      (case side2=>exact HC0_1.out)
      rintro e w70 ⟨v626,rfl,ho0,hb⟩
      refine⟨_,rfl,?_⟩
      have n0_:=qal.mk (Kd.R_lower ho0 (qad (za3 HB GE620 GE621)))
      have n1_:=qal.mk (qac (g:=gb620) (o:=.cells #[.int .i64 a0_0,.slice A0_1 l0_1.length c0_1] 54 (0,0)) (za0 BK620) hb)
      have n2_:=qal.mk (qac (g:=gb621) (o:=.cells #[.int .i64 a1_0,.int .i64 a1_1,.slice A1_2 l1_2.length c1_2] 57 (0,0)) (za0 BK621) hb)
      have n3_:=qal.mk (qae (za3 HB GE620 GE621) hb)
      clear BK620
      clear BK621
      clear HB
      have HO627:=n0_
      have BK620:=n1_
      have BK621:=n2_
      have HB:=n3_
      clear n0_ n1_ n2_ n3_
      (try clear hb)
      (try clear hb2)
      (try clear hk)
      (try clear hi)
      (try clear ho0)
      refine hK.out _ _ ⟨(qab BK620.out 0).trans rfl,(qab BK620.out 1).trans rfl,(qab BK621.out 0).trans rfl,(qab BK621.out 1).trans rfl,(qab BK621.out 2).trans rfl⟩ (fun hHeld=>?_)
      clear hK K
      refine norm_ (a':=?_) ?_ ?_
      rotate_left
      ·show Act.put _ (some 21) _=_
       simp only[Act.put,List.setIfInBounds_toArray,List.set_cons_zero,List.set_cons_succ,qas,qat]
       rfl
      refine one_ (i:=3) (N:=some 23) #[true,true,true,true,false,false] rfl rfl (by kernel_rfl) (by decide) (fun K hK=>?_)
      refine goes_ Try.func39 (by kernel_rfl) rfl #[.agg #[.int .i64 a1_0,.int .i64 a1_1,.slice A1_2 l1_2.length c1_2]] (by rfl) rfl rfl (by(try simp only[List.map_toArray,List.map_cons,List.map_nil]);first|done|rfl|(simp only[List.length_drop,List.length_take];rfl)) ?_
      with_reducible refine(laws_toRec.calls k a1_0 a1_1 _ _ l1_2 t628 t629 t630 _ ?side1 ?side2 A20.out).mono ?_
      (case side1=>repeat(first|exact(Kd.C_below HR1_2.out HB.out)|(with_reducible refine Kd.C_alloc ?_ _)|(with_reducible refine Kd.C_drewN ?_ _)|(with_reducible refine Kd.C_drew ?_)))
      (case side2=>exact HC1_2.out)
      rintro e w71 ⟨v631,rfl,ho0,hb⟩
      refine⟨_,rfl,?_⟩
      have n0_:=qal.mk (Kd.R_below (za4 HO627) hb)
      have n1_:=qal.mk (Kd.R_lower ho0 (qad (za3 HB GE620 GE621)))
      have n2_:=qal.mk (qac (g:=gb620) (o:=.cells #[.int .i64 a0_0,.slice A0_1 l0_1.length c0_1] 54 (0,0)) (za0 BK620) hb)
      have n3_:=qal.mk (qac (g:=gb621) (o:=.cells #[.int .i64 a1_0,.int .i64 a1_1,.slice A1_2 l1_2.length c1_2] 57 (0,0)) (za0 BK621) hb)
      have n4_:=qal.mk (qae (za3 HB GE620 GE621) hb)
      clear HO627
      clear BK620
      clear BK621
      clear HB
      have HO627:=n0_
      have HO632:=n1_
      have BK620:=n2_
      have BK621:=n3_
      have HB:=n4_
      clear n0_ n1_ n2_ n3_ n4_
      (try clear hb)
      (try clear hb2)
      (try clear hk)
      (try clear hi)
      (try clear ho0)
      obtain⟨Ao72,co72,eo72⟩:=Kd.R_slice HO627.out
      (first|subst eo72|(injection eo72 with f1_ f2_ f3_;have f4_:=f1_.symm;have f5_:=f3_.symm;clear f1_ f2_ f3_;subst f4_;subst f5_))
      obtain⟨Ao73,co73,eo73⟩:=Kd.R_slice HO632.out
      (first|subst eo73|(injection eo73 with f1_ f2_ f3_;have f4_:=f1_.symm;have f5_:=f3_.symm;clear f1_ f2_ f3_;subst f4_;subst f5_))
      refine hK.out _ _ ⟨(qab BK620.out 0).trans rfl,(qab BK620.out 1).trans rfl,(qab BK621.out 0).trans rfl,(qab BK621.out 1).trans rfl,(qab BK621.out 2).trans rfl⟩ (fun hHeld=>?_)
      clear hK K
      refine norm_ (a':=?_) ?_ ?_
      rotate_left
      ·show Act.put _ (some 23) _=_
       simp only[Act.put,List.setIfInBounds_toArray,List.set_cons_zero,List.set_cons_succ,qas,qat]
       rfl
      refine one_ (i:=4) (N:=some 24) #[true,true,true,true,true,false] rfl rfl (by kernel_rfl) (by decide) (fun K hK=>?_)
      refine goes_ Try.func37 (by kernel_rfl) rfl #[.agg #[.int .i64 t624,.slice Ao72 t625.length co72],.agg #[.int .i64 t628,.int .i64 t629,.slice Ao73 t630.length co73]] (by rfl) rfl rfl (by(try simp only[List.map_toArray,List.map_cons,List.map_nil]);first|done|rfl|(simp only[List.length_drop,List.length_take];rfl)) ?_
      with_reducible refine(spec_StockMay.calls k t624 _ _ t625 t628 t629 _ _ t630 t633 _ ?side1 ?side2 ?side3 ?side4 A21.out).mono ?_
      (case side1=>repeat(first|exact(Kd.R_reads' HO627.out).2.2|(with_reducible refine Kd.C_alloc ?_ _)|(with_reducible refine Kd.C_drewN ?_ _)|(with_reducible refine Kd.C_drew ?_)))
      (case side2=>exact(Kd.R_reads' HO627.out).2.1)
      (case side3=>repeat(first|exact(Kd.R_reads' HO632.out).2.2|(with_reducible refine Kd.C_alloc ?_ _)|(with_reducible refine Kd.C_drewN ?_ _)|(with_reducible refine Kd.C_drew ?_)))
      (case side4=>exact(Kd.R_reads' HO632.out).2.1)
      rintro e w74 ⟨rfl,hb⟩
      refine⟨_,rfl,?_⟩
      have n0_:=qal.mk (Kd.R_below (za4 HO627) hb)
      have n1_:=qal.mk (Kd.R_below (za4 HO632) hb)
      have n2_:=qal.mk (qac (g:=gb620) (o:=.cells #[.int .i64 a0_0,.slice A0_1 l0_1.length c0_1] 54 (0,0)) (za0 BK620) hb)
      have n3_:=qal.mk (qac (g:=gb621) (o:=.cells #[.int .i64 a1_0,.int .i64 a1_1,.slice A1_2 l1_2.length c1_2] 57 (0,0)) (za0 BK621) hb)
      have n4_:=qal.mk (qae (za3 HB GE620 GE621) hb)
      clear HO627
      clear HO632
      clear BK620
      clear BK621
      clear HB
      have HO627:=n0_
      have HO632:=n1_
      have BK620:=n2_
      have BK621:=n3_
      have HB:=n4_
      clear n0_ n1_ n2_ n3_ n4_
      (try clear hb)
      (try clear hb2)
      (try clear hk)
      (try clear hi)
      refine hK.out _ _ ⟨(qab BK620.out 0).trans rfl,(qab BK620.out 1).trans rfl,(qab BK621.out 0).trans rfl,(qab BK621.out 1).trans rfl,(qab BK621.out 2).trans rfl⟩ (fun hHeld=>?_)
      clear hK K
      refine norm_ (a':=?_) ?_ ?_
      rotate_left
      ·show Act.put _ (some 24) _=_
       simp only[Act.put,List.setIfInBounds_toArray,List.set_cons_zero,List.set_cons_succ,qas,qat]
       rfl
      refine qaz (i:=5) (N:=some 6) (v:=?_) (a':=?_) #[true,true,true,true,true,true] rfl rfl (by kernel_rfl) (fun _ _ _ h=>h) (Or.inl ⟨by rfl,?_⟩) ?_ ?_
      rotate_left
      ·intro w'
       go_simp
       with_reducible rfl
      rotate_left
      ·simp only[Act.put,List.setIfInBounds_toArray,List.set_cons_zero,List.set_cons_succ,qas,qat]
       rfl
      refine done_ (by kernel_rfl) ?_
      have hcz75_0:w74.cell? ⟨gb620,0,none⟩=some (.int .i64 a0_0):=(qab BK620.out 0).trans rfl
      have hcz75_1:w74.cell? ⟨gb620,1,none⟩=some (.slice A0_1 l0_1.length c0_1):=(qab BK620.out 1).trans rfl
      have hfz75_0:=qaa BK620.out 0
      have hfz75_1:=qaa BK620.out 1
      try go_wp2_with(first|((with_reducible refine qai (f:=38) rfl ?_);refine qau (some 26) rfl rfl Try.func38 (by kernel_rfl) rfl #[.agg #[.int .i64 a0_0,.slice A0_1 l0_1.length c0_1]] rfl (by(try simp only[List.map_toArray,List.map_cons,List.map_nil]);first|done|rfl|(simp only[List.length_drop,List.length_take];rfl)) ?_;(with_reducible refine(laws_toStock.calls k a0_0 _ _ l0_1 t634 t635 _ ?side1 ?side2 A22.out).mono ?_);(case side1=>repeat(first|exact(Kd.C_below HR0_1.out HB.out)|(with_reducible refine Kd.C_alloc ?_ _)|(with_reducible refine Kd.C_drewN ?_ _)|(with_reducible refine Kd.C_drew ?_)));(case side2=>exact HC0_1.out);rintro e w76 ⟨v636,rfl,ho0,hb⟩;refine⟨_,rfl,?_⟩;have n0_:=qal.mk (Kd.R_elder' (za4 HO627) (Kd.R_base ho0) hb);have n1_:=qal.mk (Kd.R_below (za4 HO632) hb);have n2_:=qal.mk (Kd.R_lower (Kd.R_new' ho0 (Kd.R_lt (za4 HO627))) (qad (za3 HB GE620 GE621)));have n3_:=qal.mk (qac (g:=gb620) (o:=.cells #[.int .i64 a0_0,.slice A0_1 l0_1.length c0_1] 54 (0,0)) (za0 BK620) hb);have n4_:=qal.mk (qac (g:=gb621) (o:=.cells #[.int .i64 a1_0,.int .i64 a1_1,.slice A1_2 l1_2.length c1_2] 57 (0,0)) (za0 BK621) hb);have n5_:=qal.mk (qae (za3 HB GE620 GE621) hb);clear HO627;clear HO632;clear BK620;clear BK621;clear HB;have HO627:=n0_;have HO632:=n1_;have HO637:=n2_;have BK620:=n3_;have BK621:=n4_;have HB:=n5_;clear n0_ n1_ n2_ n3_ n4_ n5_;(try clear hb);(try clear hb2);(try clear hk);(try clear hi);(try clear ho0))|((with_reducible refine qak (N:=7) rfl ?_);refine qaj ?hg (N:=7) ?hd (cs:=#[.int .i64 0,.slice none 0 0]) (t:=36) ?hr ?_;(case hd=>rfl);(case hg=>rfl);(case hr=>first|(go_simp;done)|(go_simp;rfl));intro gb638 hg w77 hbox hb;have n0_:=qal.mk (Kd.R_below (za4 HO627) hb);have n1_:=qal.mk (Kd.R_below (za4 HO632) hb);have n2_:=qal.mk (Kd.R_below (za4 HO637) hb);have n3_:=qal.mk (qac (g:=gb620) (o:=.cells #[.int .i64 a0_0,.slice A0_1 l0_1.length c0_1] 54 (0,0)) (za0 BK620) hb);have n4_:=qal.mk (qac (g:=gb621) (o:=.cells #[.int .i64 a1_0,.int .i64 a1_1,.slice A1_2 l1_2.length c1_2] 57 (0,0)) (za0 BK621) hb);have n5_:=qal.mk (qae (za3 HB GE620 GE621) hb);have n6_:=qal.mk (hbox);have n7_:=qal.mk ((by rw[hg];exact(qad (za3 HB GE620 GE621)):w.heap.size≤gb638));have n8_:=qal.mk ((by rw[hg];exact(qad (za3 HB GE620 GE621)):w.heap.size≤gb638));have n9_:=qal.mk ((by rw[hg];exact Nat.ne_of_lt (qao (g:=gb620) (o:=.cells #[.int .i64 a0_0,.slice A0_1 l0_1.length c0_1] 54 (0,0)) (za0 BK620)):gb620≠gb638));have n10_:=qal.mk ((by rw[hg];exact Nat.ne_of_gt (qao (g:=gb620) (o:=.cells #[.int .i64 a0_0,.slice A0_1 l0_1.length c0_1] 54 (0,0)) (za0 BK620)):gb638≠gb620));have n11_:=qal.mk ((by rw[hg];exact Nat.ne_of_lt (qao (g:=gb621) (o:=.cells #[.int .i64 a1_0,.int .i64 a1_1,.slice A1_2 l1_2.length c1_2] 57 (0,0)) (za0 BK621)):gb621≠gb638));have n12_:=qal.mk ((by rw[hg];exact Nat.ne_of_gt (qao (g:=gb621) (o:=.cells #[.int .i64 a1_0,.int .i64 a1_1,.slice A1_2 l1_2.length c1_2] 57 (0,0)) (za0 BK621)):gb638≠gb621));clear HO627;clear HO632;clear HO637;clear BK620;clear BK621;clear HB;have HO627:=n0_;have HO632:=n1_;have HO637:=n2_;have BK620:=n3_;have BK621:=n4_;have HB:=n5_;have BK638:=n6_;have GW638:=n7_;have GE638:=n8_;have NB620_638:=n9_;have NB638_620:=n10_;have NB621_638:=n11_;have NB638_621:=n12_;clear n0_ n1_ n2_ n3_ n4_ n5_ n6_ n7_ n8_ n9_ n10_ n11_ n12_;clear hb hbox hg;have hnb78:=NB638_620.out;have hnc78:=NB620_638.out;have hnb79:=NB638_621.out;have hnc79:=NB621_638.out;have hcz80_0:w77.cell? ⟨gb638,0,none⟩=some (.int .i64 0):=(qab BK638.out 0).trans rfl;have hcz80_1:w77.cell? ⟨gb638,1,none⟩=some (.slice none 0 0):=(qab BK638.out 1).trans rfl;have hfz80_0:=qaa BK638.out 0;have hfz80_1:=qaa BK638.out 1;obtain⟨Ao81,co81,eo81⟩:=Kd.R_slice HO637.out;subst eo81;have hcz82_0:w77.cell? ⟨gb621,0,none⟩=some (.int .i64 a1_0):=(qab BK621.out 0).trans rfl;have hcz82_1:w77.cell? ⟨gb621,1,none⟩=some (.int .i64 a1_1):=(qab BK621.out 1).trans rfl;have hcz82_2:w77.cell? ⟨gb621,2,none⟩=some (.slice A1_2 l1_2.length c1_2):=(qab BK621.out 2).trans rfl;have hfz82_0:=qaa BK621.out 0;have hfz82_1:=qaa BK621.out 1;have hfz82_2:=qaa BK621.out 2)|((with_reducible refine qai (f:=39) rfl ?_);refine qau (some 28) rfl rfl Try.func39 (by kernel_rfl) rfl #[.agg #[.int .i64 a1_0,.int .i64 a1_1,.slice A1_2 l1_2.length c1_2]] rfl (by(try simp only[List.map_toArray,List.map_cons,List.map_nil]);first|done|rfl|(simp only[List.length_drop,List.length_take];rfl)) ?_;(with_reducible refine(laws_toRec.calls k a1_0 a1_1 _ _ l1_2 t639 t640 t641 _ ?side1 ?side2 A23.out).mono ?_);(case side1=>exact Kd.C_below HR1_2.out (za6 HB GE620 GE621 GE638));(case side2=>exact HC1_2.out);rintro e w83 ⟨v642,rfl,ho0,hb⟩;refine⟨_,rfl,?_⟩;have n0_:=qal.mk (Kd.R_below (by(with_reducible repeat(first|apply Kd.R_alloc|apply Kd.R_drewN|apply Kd.R_drew));exact(Kd.R_mono (Kd.R_far (p:=⟨gb638,1,none⟩) (Kd.R_far (p:=⟨gb638,0,none⟩) (Kd.R_types HO627.out BK638.out (by decide)) (fun _ hk=>hk.2) (.int .i64 t634)) (fun _ hk=>hk.2) (.slice Ao81 t635.length co81)) (fun _ h_=>h_.1))) hb);have n1_:=qal.mk (Kd.R_elder' (by(with_reducible repeat(first|apply Kd.R_alloc|apply Kd.R_drewN|apply Kd.R_drew));exact(Kd.R_mono (Kd.R_far (p:=⟨gb638,1,none⟩) (Kd.R_far (p:=⟨gb638,0,none⟩) (Kd.R_types HO632.out BK638.out (by decide)) (fun _ hk=>hk.2) (.int .i64 t634)) (fun _ hk=>hk.2) (.slice Ao81 t635.length co81)) (fun _ h_=>h_.1))) (Kd.R_base ho0) hb);have n2_:=qal.mk (Kd.R_below (by(with_reducible repeat(first|apply Kd.R_alloc|apply Kd.R_drewN|apply Kd.R_drew));exact(Kd.R_mono (Kd.R_far (p:=⟨gb638,1,none⟩) (Kd.R_far (p:=⟨gb638,0,none⟩) (Kd.R_types HO637.out BK638.out (by decide)) (fun _ hk=>hk.2) (.int .i64 t634)) (fun _ hk=>hk.2) (.slice Ao81 t635.length co81)) (fun _ h_=>h_.1))) hb);have n3_:=qal.mk (Kd.R_lower (Kd.R_new' ho0 (Kd.R_lt (by(with_reducible repeat(first|apply Kd.R_alloc|apply Kd.R_drewN|apply Kd.R_drew));exact(Kd.R_mono (Kd.R_far (p:=⟨gb638,1,none⟩) (Kd.R_far (p:=⟨gb638,0,none⟩) (Kd.R_types HO632.out BK638.out (by decide)) (fun _ hk=>hk.2) (.int .i64 t634)) (fun _ hk=>hk.2) (.slice Ao81 t635.length co81)) (fun _ h_=>h_.1))))) (qad (za6 HB GE620 GE621 GE638)));have n4_:=qal.mk (qac (g:=gb620) (o:=.cells #[.int .i64 a0_0,.slice A0_1 l0_1.length c0_1] 54 (0,0)) (za5 NB620_638 BK620) hb);have n5_:=qal.mk (qac (g:=gb621) (o:=.cells #[.int .i64 a1_0,.int .i64 a1_1,.slice A1_2 l1_2.length c1_2] 57 (0,0)) (za5 NB621_638 BK621) hb);have n6_:=qal.mk (qac (g:=gb638) (o:=.cells #[.int .i64 t634,.slice Ao81 t635.length co81] 36 (0,0)) (by(with_reducible repeat(first|refine qag ?_ _|refine qah ?_|refine qaf ?_ _));refine qan (cs:=#[.int .i64 t634,.slice none 0 0]) ?_ 1 _ rfl;(with_reducible repeat(first|refine qag ?_ _|refine qah ?_|refine qaf ?_ _));refine qan (cs:=#[.int .i64 0,.slice none 0 0]) ?_ 0 _ rfl;(with_reducible repeat(first|refine qag ?_ _|refine qah ?_|refine qaf ?_ _));exact BK638.out) hb);have n7_:=qal.mk (qae (za6 HB GE620 GE621 GE638) hb);clear HO627;clear HO632;clear HO637;clear BK620;clear BK621;clear BK638;clear HB;have HO627:=n0_;have HO632:=n1_;have HO637:=n2_;have HO643:=n3_;have BK620:=n4_;have BK621:=n5_;have BK638:=n6_;have HB:=n7_;clear n0_ n1_ n2_ n3_ n4_ n5_ n6_ n7_;(try clear hb);(try clear hb2);(try clear hk);(try clear hi);(try clear ho0))|((with_reducible refine qak (N:=8) rfl ?_);refine qaj ?hg (N:=8) ?hd (cs:=#[.int .i64 0,.int .i64 0,.slice none 0 0]) (t:=62) ?hr ?_;(case hd=>rfl);(case hg=>rfl);(case hr=>first|(go_simp;done)|(go_simp;rfl));intro gb644 hg w84 hbox hb;have n0_:=qal.mk (Kd.R_below (za4 HO627) hb);have n1_:=qal.mk (Kd.R_below (za4 HO632) hb);have n2_:=qal.mk (Kd.R_below (za4 HO637) hb);have n3_:=qal.mk (Kd.R_below (za4 HO643) hb);have n4_:=qal.mk (qac (g:=gb620) (o:=.cells #[.int .i64 a0_0,.slice A0_1 l0_1.length c0_1] 54 (0,0)) (za0 BK620) hb);have n5_:=qal.mk (qac (g:=gb621) (o:=.cells #[.int .i64 a1_0,.int .i64 a1_1,.slice A1_2 l1_2.length c1_2] 57 (0,0)) (za0 BK621) hb);have n6_:=qal.mk (qac (g:=gb638) (o:=.cells #[.int .i64 t634,.slice Ao81 t635.length co81] 36 (0,0)) (za0 BK638) hb);have n7_:=qal.mk (qae (za6 HB GE620 GE621 GE638) hb);have n8_:=qal.mk (hbox);have n9_:=qal.mk ((by rw[hg];exact(qad (za6 HB GE620 GE621 GE638)):w.heap.size≤gb644));have n10_:=qal.mk ((by rw[hg];exact(qad (za6 HB GE620 GE621 GE638)):w.heap.size≤gb644));have n11_:=qal.mk ((by rw[hg];exact Nat.ne_of_lt (qao (g:=gb620) (o:=.cells #[.int .i64 a0_0,.slice A0_1 l0_1.length c0_1] 54 (0,0)) (za0 BK620)):gb620≠gb644));have n12_:=qal.mk ((by rw[hg];exact Nat.ne_of_gt (qao (g:=gb620) (o:=.cells #[.int .i64 a0_0,.slice A0_1 l0_1.length c0_1] 54 (0,0)) (za0 BK620)):gb644≠gb620));have n13_:=qal.mk ((by rw[hg];exact Nat.ne_of_lt (qao (g:=gb621) (o:=.cells #[.int .i64 a1_0,.int .i64 a1_1,.slice A1_2 l1_2.length c1_2] 57 (0,0)) (za0 BK621)):gb621≠gb644));have n14_:=qal.mk ((by rw[hg];exact Nat.ne_of_gt (qao (g:=gb621) (o:=.cells #[.int .i64 a1_0,.int .i64 a1_1,.slice A1_2 l1_2.length c1_2] 57 (0,0)) (za0 BK621)):gb644≠gb621));have n15_:=qal.mk ((by rw[hg];exact Nat.ne_of_lt (qao (g:=gb638) (o:=.cells #[.int .i64 t634,.slice Ao81 t635.length co81] 36 (0,0)) (za0 BK638)):gb638≠gb644));have n16_:=qal.mk ((by rw[hg];exact Nat.ne_of_gt (qao (g:=gb638) (o:=.cells #[.int .i64 t634,.slice Ao81 t635.length co81] 36 (0,0)) (za0 BK638)):gb644≠gb638));clear HO627;clear HO632;clear HO637;clear HO643;clear BK620;clear BK621;clear BK638;clear HB;have HO627:=n0_;have HO632:=n1_;have HO637:=n2_;have HO643:=n3_;have BK620:=n4_;have BK621:=n5_;have BK638:=n6_;have HB:=n7_;have BK644:=n8_;have GW644:=n9_;have GE644:=n10_;have NB620_644:=n11_;have NB644_620:=n12_;have NB621_644:=n13_;have NB644_621:=n14_;have NB638_644:=n15_;have NB644_638:=n16_;clear n0_ n1_ n2_ n3_ n4_ n5_ n6_ n7_ n8_ n9_ n10_ n11_ n12_ n13_ n14_ n15_ n16_;clear hb hbox hg;have hnb85:=NB644_620.out;have hnc85:=NB620_644.out;have hnb86:=NB644_621.out;have hnc86:=NB621_644.out;have hnb87:=NB644_638.out;have hnc87:=NB638_644.out;have hcz88_0:w84.cell? ⟨gb644,0,none⟩=some (.int .i64 0):=(qab BK644.out 0).trans rfl;have hcz88_1:w84.cell? ⟨gb644,1,none⟩=some (.int .i64 0):=(qab BK644.out 1).trans rfl;have hcz88_2:w84.cell? ⟨gb644,2,none⟩=some (.slice none 0 0):=(qab BK644.out 2).trans rfl;have hfz88_0:=qaa BK644.out 0;have hfz88_1:=qaa BK644.out 1;have hfz88_2:=qaa BK644.out 2;obtain⟨Ao89,co89,eo89⟩:=Kd.R_slice HO643.out;subst eo89;have hcz90_0:w84.cell? ⟨gb638,0,none⟩=some (.int .i64 t634):=(qab BK638.out 0).trans rfl;have hcz90_1:w84.cell? ⟨gb638,1,none⟩=some (.slice Ao81 t635.length co81):=(qab BK638.out 1).trans rfl;have hfz90_0:=qaa BK638.out 0;have hfz90_1:=qaa BK638.out 1)|((with_reducible refine qai (f:=40) rfl ?_);refine qau (some 31) rfl rfl Try.func40 (by kernel_rfl) rfl #[.agg #[.int .i64 t634,.slice Ao81 t635.length co81],.agg #[.int .i64 t639,.int .i64 t640,.slice Ao89 t641.length co89]] rfl (by(try simp only[List.map_toArray,List.map_cons,List.map_nil]);first|done|rfl|(simp only[List.length_drop,List.length_take];rfl)) ?_;(with_reducible refine(impl_StockMay.calls k t634 _ _ t635 t639 t640 _ _ t641 t645 _ ?side1 ?side2 ?side3 ?side4 A24.out).mono ?_);(case side1=>refine(Kd.R_reads' (e:=46) (base:=w.heap.size) (ok:=fun k_=>(True∧some k_≠(.slice Ao72 t625.length co72:Value).ownBlock)) (n:=t635.length) (c:=co81) ?_).2.2;exact(by(with_reducible repeat(first|apply Kd.R_alloc|apply Kd.R_drewN|apply Kd.R_drew));exact(Kd.R_mono (Kd.R_far (p:=⟨gb644,2,none⟩) (Kd.R_far (p:=⟨gb644,1,none⟩) (Kd.R_far (p:=⟨gb644,0,none⟩) (Kd.R_types HO637.out BK644.out (by decide)) (fun _ hk=>hk.2) (.int .i64 t639)) (fun _ hk=>hk.2) (.int .i64 t640)) (fun _ hk=>hk.2) (.slice Ao89 t641.length co89)) (fun _ h_=>h_.1))));(case side2=>exact(Kd.R_reads' HO637.out).2.1);(case side3=>refine(Kd.R_reads' (e:=3) (base:=w.heap.size) (ok:=fun k_=>(True∧some k_≠(.slice Ao73 t630.length co73:Value).ownBlock)) (n:=t641.length) (c:=co89) ?_).2.2;exact(by(with_reducible repeat(first|apply Kd.R_alloc|apply Kd.R_drewN|apply Kd.R_drew));exact(Kd.R_mono (Kd.R_far (p:=⟨gb644,2,none⟩) (Kd.R_far (p:=⟨gb644,1,none⟩) (Kd.R_far (p:=⟨gb644,0,none⟩) (Kd.R_types HO643.out BK644.out (by decide)) (fun _ hk=>hk.2) (.int .i64 t639)) (fun _ hk=>hk.2) (.int .i64 t640)) (fun _ hk=>hk.2) (.slice Ao89 t641.length co89)) (fun _ h_=>h_.1))));(case side4=>exact(Kd.R_reads' HO643.out).2.1);rintro e w91 ⟨rfl,hb⟩;refine⟨_,rfl,?_⟩;have n0_:=qal.mk (Kd.R_below (by(with_reducible repeat(first|apply Kd.R_alloc|apply Kd.R_drewN|apply Kd.R_drew));exact(Kd.R_mono (Kd.R_far (p:=⟨gb644,2,none⟩) (Kd.R_far (p:=⟨gb644,1,none⟩) (Kd.R_far (p:=⟨gb644,0,none⟩) (Kd.R_types HO627.out BK644.out (by decide)) (fun _ hk=>hk.2) (.int .i64 t639)) (fun _ hk=>hk.2) (.int .i64 t640)) (fun _ hk=>hk.2) (.slice Ao89 t641.length co89)) (fun _ h_=>h_.1))) hb);have n1_:=qal.mk (Kd.R_below (by(with_reducible repeat(first|apply Kd.R_alloc|apply Kd.R_drewN|apply Kd.R_drew));exact(Kd.R_mono (Kd.R_far (p:=⟨gb644,2,none⟩) (Kd.R_far (p:=⟨gb644,1,none⟩) (Kd.R_far (p:=⟨gb644,0,none⟩) (Kd.R_types HO632.out BK644.out (by decide)) (fun _ hk=>hk.2) (.int .i64 t639)) (fun _ hk=>hk.2) (.int .i64 t640)) (fun _ hk=>hk.2) (.slice Ao89 t641.length co89)) (fun _ h_=>h_.1))) hb);have n2_:=qal.mk (Kd.R_below (by(with_reducible repeat(first|apply Kd.R_alloc|apply Kd.R_drewN|apply Kd.R_drew));exact(Kd.R_mono (Kd.R_far (p:=⟨gb644,2,none⟩) (Kd.R_far (p:=⟨gb644,1,none⟩) (Kd.R_far (p:=⟨gb644,0,none⟩) (Kd.R_types HO637.out BK644.out (by decide)) (fun _ hk=>hk.2) (.int .i64 t639)) (fun _ hk=>hk.2) (.int .i64 t640)) (fun _ hk=>hk.2) (.slice Ao89 t641.length co89)) (fun _ h_=>h_.1))) hb);have n3_:=qal.mk (Kd.R_below (by(with_reducible repeat(first|apply Kd.R_alloc|apply Kd.R_drewN|apply Kd.R_drew));exact(Kd.R_mono (Kd.R_far (p:=⟨gb644,2,none⟩) (Kd.R_far (p:=⟨gb644,1,none⟩) (Kd.R_far (p:=⟨gb644,0,none⟩) (Kd.R_types HO643.out BK644.out (by decide)) (fun _ hk=>hk.2) (.int .i64 t639)) (fun _ hk=>hk.2) (.int .i64 t640)) (fun _ hk=>hk.2) (.slice Ao89 t641.length co89)) (fun _ h_=>h_.1))) hb);have n4_:=qal.mk (qac (g:=gb620) (o:=.cells #[.int .i64 a0_0,.slice A0_1 l0_1.length c0_1] 54 (0,0)) (za7 NB620_644 BK620) hb);have n5_:=qal.mk (qac (g:=gb621) (o:=.cells #[.int .i64 a1_0,.int .i64 a1_1,.slice A1_2 l1_2.length c1_2] 57 (0,0)) (za7 NB621_644 BK621) hb);have n6_:=qal.mk (qac (g:=gb638) (o:=.cells #[.int .i64 t634,.slice Ao81 t635.length co81] 36 (0,0)) (za7 NB638_644 BK638) hb);have n7_:=qal.mk (qac (g:=gb644) (o:=.cells #[.int .i64 t639,.int .i64 t640,.slice Ao89 t641.length co89] 62 (0,0)) (by(with_reducible repeat(first|refine qag ?_ _|refine qah ?_|refine qaf ?_ _));refine qan (cs:=#[.int .i64 t639,.int .i64 t640,.slice none 0 0]) ?_ 2 _ rfl;(with_reducible repeat(first|refine qag ?_ _|refine qah ?_|refine qaf ?_ _));refine qan (cs:=#[.int .i64 t639,.int .i64 0,.slice none 0 0]) ?_ 1 _ rfl;(with_reducible repeat(first|refine qag ?_ _|refine qah ?_|refine qaf ?_ _));refine qan (cs:=#[.int .i64 0,.int .i64 0,.slice none 0 0]) ?_ 0 _ rfl;(with_reducible repeat(first|refine qag ?_ _|refine qah ?_|refine qaf ?_ _));exact BK644.out) hb);have n8_:=qal.mk (qae (za11 HB GE620 GE621 GE638 GE644) hb);clear HO627;clear HO632;clear HO637;clear HO643;clear BK620;clear BK621;clear BK638;clear BK644;clear HB;have HO627:=n0_;have HO632:=n1_;have HO637:=n2_;have HO643:=n3_;have BK620:=n4_;have BK621:=n5_;have BK638:=n6_;have BK644:=n7_;have HB:=n8_;clear n0_ n1_ n2_ n3_ n4_ n5_ n6_ n7_ n8_;(try clear hb);(try clear hb2);(try clear hk);(try clear hi)))
      have n0_:=qal.mk (Kd.R_drew HO627.out)
      have n1_:=qal.mk (Kd.R_drew HO632.out)
      have n2_:=qal.mk (Kd.R_drew HO637.out)
      have n3_:=qal.mk (Kd.R_drew HO643.out)
      have n4_:=qal.mk (qah BK620.out)
      have n5_:=qal.mk (qah BK621.out)
      have n6_:=qal.mk (qah BK638.out)
      have n7_:=qal.mk (qah BK644.out)
      have n8_:=qal.mk (qaq HB.out)
      clear HO627
      clear HO632
      clear HO637
      clear HO643
      clear BK620
      clear BK621
      clear BK638
      clear BK644
      clear HB
      have HO627:=n0_
      have HO632:=n1_
      have HO637:=n2_
      have HO643:=n3_
      have BK620:=n4_
      have BK621:=n5_
      have BK638:=n6_
      have BK644:=n7_
      have HB:=n8_
      clear n0_ n1_ n2_ n3_ n4_ n5_ n6_ n7_ n8_
      refine start_ (n:=5) (S:=fun w'=>w'.cell? ⟨gb638,0,none⟩=some (.int .i64 t634)∧w'.cell? ⟨gb638,1,none⟩=some (.slice Ao81 t635.length co81)∧w'.cell? ⟨gb620,0,none⟩=some (.int .i64 a0_0)∧w'.cell? ⟨gb620,1,none⟩=some (.slice A0_1 l0_1.length c0_1)) (ds:=[]) #[false,false,false,false,false] (by kernel_rfl) rfl rfl ⟨(qab BK638.out 0).trans rfl,(qab BK638.out 1).trans rfl,(qab BK620.out 0).trans rfl,(qab BK620.out 1).trans rfl⟩ (fun hHeld=>?_)
      generalize w91.drew=w92 at HO627 HO632 HO637 HO643 BK620 BK621 BK638 BK644 HB hHeld ⊢
      refine take_ (i:=0) (N:=some 35) (v:=?_) (a':=?_) #[true,false,false,false,false] rfl rfl (by kernel_rfl) (fun _ _ _ h=>h) (Or.inl ⟨by rfl,?_⟩) hHeld ?_ ?_
      rotate_left
      ·rintro w' ⟨s0,s1,s2,s3⟩
       go_simp
       with_reducible rfl
      rotate_left
      ·simp only[Act.put,List.setIfInBounds_toArray,List.set_cons_zero,List.set_cons_succ,qas,qat]
       rfl
      refine take_ (i:=1) (N:=some 36) (v:=?_) (a':=?_) #[true,true,false,false,false] rfl rfl (by kernel_rfl) (fun _ _ _ h=>h) (Or.inl ⟨by rfl,?_⟩) hHeld ?_ ?_
      rotate_left
      ·rintro w' ⟨s0,s1,s2,s3⟩
       go_simp
       with_reducible rfl
      rotate_left
      ·simp only[Act.put,List.setIfInBounds_toArray,List.set_cons_zero,List.set_cons_succ,qas,qat]
       rfl
      refine one_ (i:=2) (N:=some 37) #[true,true,true,false,false] rfl rfl (by kernel_rfl) (by decide) (fun K hK=>?_)
      refine goes_ Try.func38 (by kernel_rfl) rfl #[.agg #[.int .i64 a0_0,.slice A0_1 l0_1.length c0_1]] (by rfl) rfl rfl (by(try simp only[List.map_toArray,List.map_cons,List.map_nil]);first|done|rfl|(simp only[List.length_drop,List.length_take];rfl)) ?_
      with_reducible refine(laws_toStock.calls k a0_0 _ _ l0_1 t646 t647 _ ?side1 ?side2 A56.out).mono ?_
      (case side1=>repeat(first|exact(Kd.C_below HR0_1.out HB.out)|(with_reducible refine Kd.C_alloc ?_ _)|(with_reducible refine Kd.C_drewN ?_ _)|(with_reducible refine Kd.C_drew ?_)))
      (case side2=>exact HC0_1.out)
      rintro e w93 ⟨v648,rfl,ho0,hb⟩
      refine⟨_,rfl,?_⟩
      have n0_:=qal.mk (Kd.R_elder' (za4 HO627) (Kd.R_base ho0) hb)
      have n1_:=qal.mk (Kd.R_below (za4 HO632) hb)
      have n2_:=qal.mk (Kd.R_elder' (za4 HO637) (Kd.R_base ho0) hb)
      have n3_:=qal.mk (Kd.R_below (za4 HO643) hb)
      have n4_:=qal.mk (Kd.R_lower (Kd.R_new' (Kd.R_new' ho0 (Kd.R_lt (za4 HO627))) (Kd.R_lt (za4 HO637))) (qad (za11 HB GE620 GE621 GE638 GE644)))
      have n5_:=qal.mk (qac (g:=gb620) (o:=.cells #[.int .i64 a0_0,.slice A0_1 l0_1.length c0_1] 54 (0,0)) (za0 BK620) hb)
      have n6_:=qal.mk (qac (g:=gb621) (o:=.cells #[.int .i64 a1_0,.int .i64 a1_1,.slice A1_2 l1_2.length c1_2] 57 (0,0)) (za0 BK621) hb)
      have n7_:=qal.mk (qac (g:=gb638) (o:=.cells #[.int .i64 t634,.slice Ao81 t635.length co81] 36 (0,0)) (za0 BK638) hb)
      have n8_:=qal.mk (qac (g:=gb644) (o:=.cells #[.int .i64 t639,.int .i64 t640,.slice Ao89 t641.length co89] 62 (0,0)) (za0 BK644) hb)
      have n9_:=qal.mk (qae (za11 HB GE620 GE621 GE638 GE644) hb)
      clear HO627
      clear HO632
      clear HO637
      clear HO643
      clear BK620
      clear BK621
      clear BK638
      clear BK644
      clear HB
      have HO627:=n0_
      have HO632:=n1_
      have HO637:=n2_
      have HO643:=n3_
      have HO649:=n4_
      have BK620:=n5_
      have BK621:=n6_
      have BK638:=n7_
      have BK644:=n8_
      have HB:=n9_
      clear n0_ n1_ n2_ n3_ n4_ n5_ n6_ n7_ n8_ n9_
      (try clear hb)
      (try clear hb2)
      (try clear hk)
      (try clear hi)
      (try clear ho0)
      obtain⟨Ao94,co94,eo94⟩:=Kd.R_slice HO649.out
      (first|subst eo94|(injection eo94 with f1_ f2_ f3_;have f4_:=f1_.symm;have f5_:=f3_.symm;clear f1_ f2_ f3_;subst f4_;subst f5_))
      refine hK.out _ _ ⟨(qab BK638.out 0).trans rfl,(qab BK638.out 1).trans rfl,(qab BK620.out 0).trans rfl,(qab BK620.out 1).trans rfl⟩ (fun hHeld=>?_)
      clear hK K
      refine norm_ (a':=?_) ?_ ?_
      rotate_left
      ·show Act.put _ (some 37) _=_
       simp only[Act.put,List.setIfInBounds_toArray,List.set_cons_zero,List.set_cons_succ,qas,qat]
       rfl
      refine one_ (i:=3) (N:=some 38) #[true,true,true,true,false] rfl rfl (by kernel_rfl) (by decide) (fun K hK=>?_)
      refine goes_ Try.func41 (by kernel_rfl) rfl #[.agg #[.int .i64 t634,.slice Ao81 t635.length co81],.agg #[.int .i64 t646,.slice Ao94 t647.length co94]] (by rfl) rfl rfl (by(try simp only[List.map_toArray,List.map_cons,List.map_nil]);first|done|rfl|(simp only[List.length_drop,List.length_take];rfl)) ?_
      with_reducible refine(laws_eqStock.calls k t634 _ _ t635 t646 _ _ t647 true _ ?side1 ?side2 ?side3 ?side4 A57.out).mono ?_
      (case side1=>repeat(first|exact(Kd.R_reads' HO637.out).2.2|(with_reducible refine Kd.C_alloc ?_ _)|(with_reducible refine Kd.C_drewN ?_ _)|(with_reducible refine Kd.C_drew ?_)))
      (case side2=>exact(Kd.R_reads' HO637.out).2.1)
      (case side3=>repeat(first|exact(Kd.R_reads' HO649.out).2.2|(with_reducible refine Kd.C_alloc ?_ _)|(with_reducible refine Kd.C_drewN ?_ _)|(with_reducible refine Kd.C_drew ?_)))
      (case side4=>exact(Kd.R_reads' HO649.out).2.1)
      rintro e w95 ⟨rfl,hb⟩
      refine⟨_,rfl,?_⟩
      have n0_:=qal.mk (Kd.R_below (za4 HO627) hb)
      have n1_:=qal.mk (Kd.R_below (za4 HO632) hb)
      have n2_:=qal.mk (Kd.R_below (za4 HO637) hb)
      have n3_:=qal.mk (Kd.R_below (za4 HO643) hb)
      have n4_:=qal.mk (Kd.R_below (za4 HO649) hb)
      have n5_:=qal.mk (qac (g:=gb620) (o:=.cells #[.int .i64 a0_0,.slice A0_1 l0_1.length c0_1] 54 (0,0)) (za0 BK620) hb)
      have n6_:=qal.mk (qac (g:=gb621) (o:=.cells #[.int .i64 a1_0,.int .i64 a1_1,.slice A1_2 l1_2.length c1_2] 57 (0,0)) (za0 BK621) hb)
      have n7_:=qal.mk (qac (g:=gb638) (o:=.cells #[.int .i64 t634,.slice Ao81 t635.length co81] 36 (0,0)) (za0 BK638) hb)
      have n8_:=qal.mk (qac (g:=gb644) (o:=.cells #[.int .i64 t639,.int .i64 t640,.slice Ao89 t641.length co89] 62 (0,0)) (za0 BK644) hb)
      have n9_:=qal.mk (qae (za11 HB GE620 GE621 GE638 GE644) hb)
      clear HO627
      clear HO632
      clear HO637
      clear HO643
      clear HO649
      clear BK620
      clear BK621
      clear BK638
      clear BK644
      clear HB
      have HO627:=n0_
      have HO632:=n1_
      have HO637:=n2_
      have HO643:=n3_
      have HO649:=n4_
      have BK620:=n5_
      have BK621:=n6_
      have BK638:=n7_
      have BK644:=n8_
      have HB:=n9_
      clear n0_ n1_ n2_ n3_ n4_ n5_ n6_ n7_ n8_ n9_
      (try clear hb)
      (try clear hb2)
      (try clear hk)
      (try clear hi)
      refine hK.out _ _ ⟨(qab BK638.out 0).trans rfl,(qab BK638.out 1).trans rfl,(qab BK620.out 0).trans rfl,(qab BK620.out 1).trans rfl⟩ (fun hHeld=>?_)
      clear hK K
      refine norm_ (a':=?_) ?_ ?_
      rotate_left
      ·show Act.put _ (some 38) _=_
       simp only[Act.put,List.setIfInBounds_toArray,List.set_cons_zero,List.set_cons_succ,qas,qat]
       rfl
      refine qaz (i:=4) (N:=some 39) (v:=?_) (a':=?_) #[true,true,true,true,true] rfl rfl (by kernel_rfl) (fun _ _ _ h=>h) (Or.inl ⟨by rfl,?_⟩) ?_ ?_
      rotate_left
      ·intro w'
       go_simp
       with_reducible rfl
      rotate_left
      ·simp only[Act.put,List.setIfInBounds_toArray,List.set_cons_zero,List.set_cons_succ,qas,qat]
       rfl
      refine done_ (by kernel_rfl) ?_
      try go_wp2
      have n0_:=qal.mk (Kd.R_drew HO627.out)
      have n1_:=qal.mk (Kd.R_drew HO632.out)
      have n2_:=qal.mk (Kd.R_drew HO637.out)
      have n3_:=qal.mk (Kd.R_drew HO643.out)
      have n4_:=qal.mk (Kd.R_drew HO649.out)
      have n5_:=qal.mk (qah BK620.out)
      have n6_:=qal.mk (qah BK621.out)
      have n7_:=qal.mk (qah BK638.out)
      have n8_:=qal.mk (qah BK644.out)
      have n9_:=qal.mk (qaq HB.out)
      clear HO627
      clear HO632
      clear HO637
      clear HO643
      clear HO649
      clear BK620
      clear BK621
      clear BK638
      clear BK644
      clear HB
      have HO627:=n0_
      have HO632:=n1_
      have HO637:=n2_
      have HO643:=n3_
      have HO649:=n4_
      have BK620:=n5_
      have BK621:=n6_
      have BK638:=n7_
      have BK644:=n8_
      have HB:=n9_
      clear n0_ n1_ n2_ n3_ n4_ n5_ n6_ n7_ n8_ n9_
      refine start_ (n:=5) (S:=fun w'=>w'.cell? ⟨gb644,0,none⟩=some (.int .i64 t639)∧w'.cell? ⟨gb644,1,none⟩=some (.int .i64 t640)∧w'.cell? ⟨gb644,2,none⟩=some (.slice Ao89 t641.length co89)∧w'.cell? ⟨gb621,0,none⟩=some (.int .i64 a1_0)∧w'.cell? ⟨gb621,1,none⟩=some (.int .i64 a1_1)∧w'.cell? ⟨gb621,2,none⟩=some (.slice A1_2 l1_2.length c1_2)) (ds:=[]) #[false,false,false,false,false] (by kernel_rfl) rfl rfl ⟨(qab BK644.out 0).trans rfl,(qab BK644.out 1).trans rfl,(qab BK644.out 2).trans rfl,(qab BK621.out 0).trans rfl,(qab BK621.out 1).trans rfl,(qab BK621.out 2).trans rfl⟩ (fun hHeld=>?_)
      generalize w95.drew=w96 at HO627 HO632 HO637 HO643 HO649 BK620 BK621 BK638 BK644 HB hHeld ⊢
      refine take_ (i:=0) (N:=some 40) (v:=?_) (a':=?_) #[true,false,false,false,false] rfl rfl (by kernel_rfl) (fun _ _ _ h=>h) (Or.inl ⟨by rfl,?_⟩) hHeld ?_ ?_
      rotate_left
      ·rintro w' ⟨s0,s1,s2,s3,s4,s5⟩
       go_simp
       with_reducible rfl
      rotate_left
      ·simp only[Act.put,List.setIfInBounds_toArray,List.set_cons_zero,List.set_cons_succ,qas,qat]
       rfl
      refine take_ (i:=1) (N:=some 41) (v:=?_) (a':=?_) #[true,true,false,false,false] rfl rfl (by kernel_rfl) (fun _ _ _ h=>h) (Or.inl ⟨by rfl,?_⟩) hHeld ?_ ?_
      rotate_left
      ·rintro w' ⟨s0,s1,s2,s3,s4,s5⟩
       go_simp
       with_reducible rfl
      rotate_left
      ·simp only[Act.put,List.setIfInBounds_toArray,List.set_cons_zero,List.set_cons_succ,qas,qat]
       rfl
      refine one_ (i:=2) (N:=some 42) #[true,true,true,false,false] rfl rfl (by kernel_rfl) (by decide) (fun K hK=>?_)
      refine goes_ Try.func39 (by kernel_rfl) rfl #[.agg #[.int .i64 a1_0,.int .i64 a1_1,.slice A1_2 l1_2.length c1_2]] (by rfl) rfl rfl (by(try simp only[List.map_toArray,List.map_cons,List.map_nil]);first|done|rfl|(simp only[List.length_drop,List.length_take];rfl)) ?_
      with_reducible refine(laws_toRec.calls k a1_0 a1_1 _ _ l1_2 t651 t652 t653 _ ?side1 ?side2 A59.out).mono ?_
      (case side1=>repeat(first|exact(Kd.C_below HR1_2.out HB.out)|(with_reducible refine Kd.C_alloc ?_ _)|(with_reducible refine Kd.C_drewN ?_ _)|(with_reducible refine Kd.C_drew ?_)))
      (case side2=>exact HC1_2.out)
      rintro e w97 ⟨v654,rfl,ho0,hb⟩
      refine⟨_,rfl,?_⟩
      have n0_:=qal.mk (Kd.R_below (za4 HO627) hb)
      have n1_:=qal.mk (Kd.R_elder' (za4 HO632) (Kd.R_base ho0) hb)
      have n2_:=qal.mk (Kd.R_below (za4 HO637) hb)
      have n3_:=qal.mk (Kd.R_elder' (za4 HO643) (Kd.R_base ho0) hb)
      have n4_:=qal.mk (Kd.R_below (za4 HO649) hb)
      have n5_:=qal.mk (Kd.R_lower (Kd.R_new' (Kd.R_new' ho0 (Kd.R_lt (za4 HO632))) (Kd.R_lt (za4 HO643))) (qad (za11 HB GE620 GE621 GE638 GE644)))
      have n6_:=qal.mk (qac (g:=gb620) (o:=.cells #[.int .i64 a0_0,.slice A0_1 l0_1.length c0_1] 54 (0,0)) (za0 BK620) hb)
      have n7_:=qal.mk (qac (g:=gb621) (o:=.cells #[.int .i64 a1_0,.int .i64 a1_1,.slice A1_2 l1_2.length c1_2] 57 (0,0)) (za0 BK621) hb)
      have n8_:=qal.mk (qac (g:=gb638) (o:=.cells #[.int .i64 t634,.slice Ao81 t635.length co81] 36 (0,0)) (za0 BK638) hb)
      have n9_:=qal.mk (qac (g:=gb644) (o:=.cells #[.int .i64 t639,.int .i64 t640,.slice Ao89 t641.length co89] 62 (0,0)) (za0 BK644) hb)
      have n10_:=qal.mk (qae (za11 HB GE620 GE621 GE638 GE644) hb)
      clear HO627
      clear HO632
      clear HO637
      clear HO643
      clear HO649
      clear BK620
      clear BK621
      clear BK638
      clear BK644
      clear HB
      have HO627:=n0_
      have HO632:=n1_
      have HO637:=n2_
      have HO643:=n3_
      have HO649:=n4_
      have HO655:=n5_
      have BK620:=n6_
      have BK621:=n7_
      have BK638:=n8_
      have BK644:=n9_
      have HB:=n10_
      clear n0_ n1_ n2_ n3_ n4_ n5_ n6_ n7_ n8_ n9_ n10_
      (try clear hb)
      (try clear hb2)
      (try clear hk)
      (try clear hi)
      (try clear ho0)
      obtain⟨Ao98,co98,eo98⟩:=Kd.R_slice HO655.out
      (first|subst eo98|(injection eo98 with f1_ f2_ f3_;have f4_:=f1_.symm;have f5_:=f3_.symm;clear f1_ f2_ f3_;subst f4_;subst f5_))
      refine hK.out _ _ ⟨(qab BK644.out 0).trans rfl,(qab BK644.out 1).trans rfl,(qab BK644.out 2).trans rfl,(qab BK621.out 0).trans rfl,(qab BK621.out 1).trans rfl,(qab BK621.out 2).trans rfl⟩ (fun hHeld=>?_)
      clear hK K
      refine norm_ (a':=?_) ?_ ?_
      rotate_left
      ·show Act.put _ (some 42) _=_
       simp only[Act.put,List.setIfInBounds_toArray,List.set_cons_zero,List.set_cons_succ,qas,qat]
       rfl
      refine one_ (i:=3) (N:=some 43) #[true,true,true,true,false] rfl rfl (by kernel_rfl) (by decide) (fun K hK=>?_)
      refine goes_ Try.func42 (by kernel_rfl) rfl #[.agg #[.int .i64 t639,.int .i64 t640,.slice Ao89 t641.length co89],.agg #[.int .i64 t651,.int .i64 t652,.slice Ao98 t653.length co98]] (by rfl) rfl rfl (by(try simp only[List.map_toArray,List.map_cons,List.map_nil]);first|done|rfl|(simp only[List.length_drop,List.length_take];rfl)) ?_
      with_reducible refine(laws_eqRec.calls k t639 t640 _ _ t641 t651 t652 _ _ t653 true _ ?side1 ?side2 ?side3 ?side4 A60.out).mono ?_
      (case side1=>repeat(first|exact(Kd.R_reads' HO643.out).2.2|(with_reducible refine Kd.C_alloc ?_ _)|(with_reducible refine Kd.C_drewN ?_ _)|(with_reducible refine Kd.C_drew ?_)))
      (case side2=>exact(Kd.R_reads' HO643.out).2.1)
      (case side3=>repeat(first|exact(Kd.R_reads' HO655.out).2.2|(with_reducible refine Kd.C_alloc ?_ _)|(with_reducible refine Kd.C_drewN ?_ _)|(with_reducible refine Kd.C_drew ?_)))
      (case side4=>exact(Kd.R_reads' HO655.out).2.1)
      rintro e w99 ⟨rfl,hb⟩
      refine⟨_,rfl,?_⟩
      have n0_:=qal.mk (Kd.R_below (za4 HO627) hb)
      have n1_:=qal.mk (Kd.R_below (za4 HO632) hb)
      have n2_:=qal.mk (Kd.R_below (za4 HO637) hb)
      have n3_:=qal.mk (Kd.R_below (za4 HO643) hb)
      have n4_:=qal.mk (Kd.R_below (za4 HO649) hb)
      have n5_:=qal.mk (Kd.R_below (za4 HO655) hb)
      have n6_:=qal.mk (qac (g:=gb620) (o:=.cells #[.int .i64 a0_0,.slice A0_1 l0_1.length c0_1] 54 (0,0)) (za0 BK620) hb)
      have n7_:=qal.mk (qac (g:=gb621) (o:=.cells #[.int .i64 a1_0,.int .i64 a1_1,.slice A1_2 l1_2.length c1_2] 57 (0,0)) (za0 BK621) hb)
      have n8_:=qal.mk (qac (g:=gb638) (o:=.cells #[.int .i64 t634,.slice Ao81 t635.length co81] 36 (0,0)) (za0 BK638) hb)
      have n9_:=qal.mk (qac (g:=gb644) (o:=.cells #[.int .i64 t639,.int .i64 t640,.slice Ao89 t641.length co89] 62 (0,0)) (za0 BK644) hb)
      have n10_:=qal.mk (qae (za11 HB GE620 GE621 GE638 GE644) hb)
      clear HO627
      clear HO632
      clear HO637
      clear HO643
      clear HO649
      clear HO655
      clear BK620
      clear BK621
      clear BK638
      clear BK644
      clear HB
      have HO627:=n0_
      have HO632:=n1_
      have HO637:=n2_
      have HO643:=n3_
      have HO649:=n4_
      have HO655:=n5_
      have BK620:=n6_
      have BK621:=n7_
      have BK638:=n8_
      have BK644:=n9_
      have HB:=n10_
      clear n0_ n1_ n2_ n3_ n4_ n5_ n6_ n7_ n8_ n9_ n10_
      (try clear hb)
      (try clear hb2)
      (try clear hk)
      (try clear hi)
      refine hK.out _ _ ⟨(qab BK644.out 0).trans rfl,(qab BK644.out 1).trans rfl,(qab BK644.out 2).trans rfl,(qab BK621.out 0).trans rfl,(qab BK621.out 1).trans rfl,(qab BK621.out 2).trans rfl⟩ (fun hHeld=>?_)
      clear hK K
      refine norm_ (a':=?_) ?_ ?_
      rotate_left
      ·show Act.put _ (some 43) _=_
       simp only[Act.put,List.setIfInBounds_toArray,List.set_cons_zero,List.set_cons_succ,qas,qat]
       rfl
      refine qaz (i:=4) (N:=some 44) (v:=?_) (a':=?_) #[true,true,true,true,true] rfl rfl (by kernel_rfl) (fun _ _ _ h=>h) (Or.inl ⟨by rfl,?_⟩) ?_ ?_
      rotate_left
      ·intro w'
       go_simp
       with_reducible rfl
      rotate_left
      ·simp only[Act.put,List.setIfInBounds_toArray,List.set_cons_zero,List.set_cons_succ,qas,qat]
       rfl
      refine done_ (by kernel_rfl) ?_
      try go_wp2
      go_ret
      exact⟨za9,za11 HB GE620 GE621 GE638 GE644⟩
     ·replace c61:=Bool.eq_false_iff.mpr c61
      subst c61
      have H1:(some false)=some r:=by rw[if_neg (show ¬(false=true) by decide)] at H;exact H
      clear H
      have H:=H1
      clear H1
      obtain rfl:=Option.some.inj H
      go_enter Try.func8,Try.ntmps8
      try go_wp2_with(first|((with_reducible refine qak (N:=2) rfl ?_);refine qaj ?hg (N:=2) ?hd (cs:=#[.int .i64 a0_0,.slice A0_1 l0_1.length c0_1]) (t:=54) ?hr ?_;(case hd=>rfl);(case hg=>rfl);(case hr=>first|(go_simp;done)|(go_simp;rfl));intro gb620 hg w100 hbox hb;have n0_:=qal.mk (qae (za2 HB) hb);have n1_:=qal.mk (hbox);have n2_:=qal.mk ((by rw[hg];exact(qad (za2 HB)):w.heap.size≤gb620));have n3_:=qal.mk ((by rw[hg];exact(qad (za2 HB)):w.heap.size≤gb620));clear HB;have HB:=n0_;have BK620:=n1_;have GW620:=n2_;have GE620:=n3_;clear n0_ n1_ n2_ n3_;clear hb hbox hg)|((with_reducible refine qak (N:=3) rfl ?_);refine qaj ?hg (N:=3) ?hd (cs:=#[.int .i64 a1_0,.int .i64 a1_1,.slice A1_2 l1_2.length c1_2]) (t:=57) ?hr ?_;(case hd=>rfl);(case hg=>rfl);(case hr=>first|(go_simp;done)|(go_simp;rfl));intro gb621 hg w101 hbox hb;have n0_:=qal.mk (qac (g:=gb620) (o:=.cells #[.int .i64 a0_0,.slice A0_1 l0_1.length c0_1] 54 (0,0)) (za0 BK620) hb);have n1_:=qal.mk (qae (za1 HB GE620) hb);have n2_:=qal.mk (hbox);have n3_:=qal.mk ((by rw[hg];exact(qad (za1 HB GE620)):w.heap.size≤gb621));have n4_:=qal.mk ((by rw[hg];exact(qad (za1 HB GE620)):w.heap.size≤gb621));have n5_:=qal.mk ((by rw[hg];exact Nat.ne_of_lt (qao (g:=gb620) (o:=.cells #[.int .i64 a0_0,.slice A0_1 l0_1.length c0_1] 54 (0,0)) (za0 BK620)):gb620≠gb621));have n6_:=qal.mk ((by rw[hg];exact Nat.ne_of_gt (qao (g:=gb620) (o:=.cells #[.int .i64 a0_0,.slice A0_1 l0_1.length c0_1] 54 (0,0)) (za0 BK620)):gb621≠gb620));clear BK620;clear HB;have BK620:=n0_;have HB:=n1_;have BK621:=n2_;have GW621:=n3_;have GE621:=n4_;have NB620_621:=n5_;have NB621_620:=n6_;clear n0_ n1_ n2_ n3_ n4_ n5_ n6_;clear hb hbox hg;have hnb102:=NB620_621.out;have hnc102:=NB621_620.out;have hcz103_0:w101.cell? ⟨gb620,0,none⟩=some (.int .i64 a0_0):=(qab BK620.out 0).trans rfl;have hcz103_1:w101.cell? ⟨gb620,1,none⟩=some (.slice A0_1 l0_1.length c0_1):=(qab BK620.out 1).trans rfl;have hfz103_0:=qaa BK620.out 0;have hfz103_1:=qaa BK620.out 1)|((with_reducible refine qai (f:=35) rfl ?_);refine qau (some 12) rfl rfl Try.func35 (by kernel_rfl) rfl #[.agg #[.int .i64 a0_0,.slice A0_1 l0_1.length c0_1],.int .i64 1048576] rfl (by(try simp only[List.map_toArray,List.map_cons,List.map_nil]);first|done|rfl|(simp only[List.length_drop,List.length_take];rfl)) ?_;(with_reducible refine(laws_szStock.calls a0_0 _ _ l0_1 1048576 t622 _ ?side1 ?side2 A3.out).mono ?_);(case side1=>repeat(first|exact(Kd.C_below HR0_1.out HB.out)|(with_reducible refine Kd.C_alloc ?_ _)|(with_reducible refine Kd.C_drewN ?_ _)|(with_reducible refine Kd.C_drew ?_)));(case side2=>exact HC0_1.out);rintro e w104 ⟨rfl,hb⟩;refine⟨_,rfl,?_⟩;have n0_:=qal.mk (qac (g:=gb620) (o:=.cells #[.int .i64 a0_0,.slice A0_1 l0_1.length c0_1] 54 (0,0)) (za0 BK620) hb);have n1_:=qal.mk (qac (g:=gb621) (o:=.cells #[.int .i64 a1_0,.int .i64 a1_1,.slice A1_2 l1_2.length c1_2] 57 (0,0)) (za0 BK621) hb);have n2_:=qal.mk (qae (za3 HB GE620 GE621) hb);clear BK620;clear BK621;clear HB;have BK620:=n0_;have BK621:=n1_;have HB:=n2_;clear n0_ n1_ n2_;(try clear hb);(try clear hb2);(try clear hk);(try clear hi);have hcz105_0:w104.cell? ⟨gb621,0,none⟩=some (.int .i64 a1_0):=(qab BK621.out 0).trans rfl;have hcz105_1:w104.cell? ⟨gb621,1,none⟩=some (.int .i64 a1_1):=(qab BK621.out 1).trans rfl;have hcz105_2:w104.cell? ⟨gb621,2,none⟩=some (.slice A1_2 l1_2.length c1_2):=(qab BK621.out 2).trans rfl;have hfz105_0:=qaa BK621.out 0;have hfz105_1:=qaa BK621.out 1;have hfz105_2:=qaa BK621.out 2)|((with_reducible refine qai (f:=36) rfl ?_);refine qau (some 17) rfl rfl Try.func36 (by kernel_rfl) rfl #[.agg #[.int .i64 a1_0,.int .i64 a1_1,.slice A1_2 l1_2.length c1_2],.int .i64 t622] rfl (by(try simp only[List.map_toArray,List.map_cons,List.map_nil]);first|done|rfl|(simp only[List.length_drop,List.length_take];rfl)) ?_;(with_reducible refine(laws_szRec.calls a1_0 a1_1 _ _ l1_2 t622 t623 _ ?side1 ?side2 A10.out).mono ?_);(case side1=>repeat(first|exact(Kd.C_below HR1_2.out HB.out)|(with_reducible refine Kd.C_alloc ?_ _)|(with_reducible refine Kd.C_drewN ?_ _)|(with_reducible refine Kd.C_drew ?_)));(case side2=>exact HC1_2.out);rintro e w106 ⟨rfl,hb⟩;refine⟨_,rfl,?_⟩;have n0_:=qal.mk (qac (g:=gb620) (o:=.cells #[.int .i64 a0_0,.slice A0_1 l0_1.length c0_1] 54 (0,0)) (za0 BK620) hb);have n1_:=qal.mk (qac (g:=gb621) (o:=.cells #[.int .i64 a1_0,.int .i64 a1_1,.slice A1_2 l1_2.length c1_2] 57 (0,0)) (za0 BK621) hb);have n2_:=qal.mk (qae (za3 HB GE620 GE621) hb);clear BK620;clear BK621;clear HB;have BK620:=n0_;have BK621:=n1_;have HB:=n2_;clear n0_ n1_ n2_;(try clear hb);(try clear hb2);(try clear hk);(try clear hi)))
      have n0_:=qal.mk (qah BK620.out)
      have n1_:=qal.mk (qah BK621.out)
      have n2_:=qal.mk (qaq HB.out)
      clear BK620
      clear BK621
      clear HB
      have BK620:=n0_
      have BK621:=n1_
      have HB:=n2_
      clear n0_ n1_ n2_
      refine start_ (n:=6) (S:=fun w'=>w'.cell? ⟨gb620,0,none⟩=some (.int .i64 a0_0)∧w'.cell? ⟨gb620,1,none⟩=some (.slice A0_1 l0_1.length c0_1)∧w'.cell? ⟨gb621,0,none⟩=some (.int .i64 a1_0)∧w'.cell? ⟨gb621,1,none⟩=some (.int .i64 a1_1)∧w'.cell? ⟨gb621,2,none⟩=some (.slice A1_2 l1_2.length c1_2)) (ds:=[]) #[false,false,false,false,false,false] (by kernel_rfl) rfl rfl ⟨(qab BK620.out 0).trans rfl,(qab BK620.out 1).trans rfl,(qab BK621.out 0).trans rfl,(qab BK621.out 1).trans rfl,(qab BK621.out 2).trans rfl⟩ (fun hHeld=>?_)
      generalize w106.drew=w107 at BK620 BK621 HB hHeld ⊢
      refine take_ (i:=0) (N:=some 20) (v:=?_) (a':=?_) #[true,false,false,false,false,false] rfl rfl (by kernel_rfl) (fun _ _ _ h=>h) (Or.inl ⟨by rfl,?_⟩) hHeld ?_ ?_
      rotate_left
      ·rintro w' ⟨s0,s1,s2,s3,s4⟩
       go_simp
       with_reducible rfl
      rotate_left
      ·simp only[Act.put,List.setIfInBounds_toArray,List.set_cons_zero,List.set_cons_succ,qas,qat]
       rfl
      refine take_ (i:=2) (N:=some 22) (v:=?_) (a':=?_) #[true,false,true,false,false,false] rfl rfl (by kernel_rfl) (fun _ _ _ h=>h) (Or.inl ⟨by rfl,?_⟩) hHeld ?_ ?_
      rotate_left
      ·rintro w' ⟨s0,s1,s2,s3,s4⟩
       go_simp
       with_reducible rfl
      rotate_left
      ·simp only[Act.put,List.setIfInBounds_toArray,List.set_cons_zero,List.set_cons_succ,qas,qat]
       rfl
      refine one_ (i:=1) (N:=some 21) #[true,true,true,false,false,false] rfl rfl (by kernel_rfl) (by decide) (fun K hK=>?_)
      refine goes_ Try.func38 (by kernel_rfl) rfl #[.agg #[.int .i64 a0_0,.slice A0_1 l0_1.length c0_1]] (by rfl) rfl rfl (by(try simp only[List.map_toArray,List.map_cons,List.map_nil]);first|done|rfl|(simp only[List.length_drop,List.length_take];rfl)) ?_
      with_reducible refine(laws_toStock.calls k a0_0 _ _ l0_1 t624 t625 _ ?side1 ?side2 A19.out).mono ?_
      (case side1=>repeat(first|exact(Kd.C_below HR0_1.out HB.out)|(with_reducible refine Kd.C_alloc ?_ _)|(with_reducible refine Kd.C_drewN ?_ _)|(with_reducible refine Kd.C_drew ?_)))
      (case side2=>exact HC0_1.out)
      rintro e w108 ⟨v626,rfl,ho0,hb⟩
      refine⟨_,rfl,?_⟩
      have n0_:=qal.mk (Kd.R_lower ho0 (qad (za3 HB GE620 GE621)))
      have n1_:=qal.mk (qac (g:=gb620) (o:=.cells #[.int .i64 a0_0,.slice A0_1 l0_1.length c0_1] 54 (0,0)) (za0 BK620) hb)
      have n2_:=qal.mk (qac (g:=gb621) (o:=.cells #[.int .i64 a1_0,.int .i64 a1_1,.slice A1_2 l1_2.length c1_2] 57 (0,0)) (za0 BK621) hb)
      have n3_:=qal.mk (qae (za3 HB GE620 GE621) hb)
      clear BK620
      clear BK621
      clear HB
      have HO627:=n0_
      have BK620:=n1_
      have BK621:=n2_
      have HB:=n3_
      clear n0_ n1_ n2_ n3_
      (try clear hb)
      (try clear hb2)
      (try clear hk)
      (try clear hi)
      (try clear ho0)
      refine hK.out _ _ ⟨(qab BK620.out 0).trans rfl,(qab BK620.out 1).trans rfl,(qab BK621.out 0).trans rfl,(qab BK621.out 1).trans rfl,(qab BK621.out 2).trans rfl⟩ (fun hHeld=>?_)
      clear hK K
      refine norm_ (a':=?_) ?_ ?_
      rotate_left
      ·show Act.put _ (some 21) _=_
       simp only[Act.put,List.setIfInBounds_toArray,List.set_cons_zero,List.set_cons_succ,qas,qat]
       rfl
      refine one_ (i:=3) (N:=some 23) #[true,true,true,true,false,false] rfl rfl (by kernel_rfl) (by decide) (fun K hK=>?_)
      refine goes_ Try.func39 (by kernel_rfl) rfl #[.agg #[.int .i64 a1_0,.int .i64 a1_1,.slice A1_2 l1_2.length c1_2]] (by rfl) rfl rfl (by(try simp only[List.map_toArray,List.map_cons,List.map_nil]);first|done|rfl|(simp only[List.length_drop,List.length_take];rfl)) ?_
      with_reducible refine(laws_toRec.calls k a1_0 a1_1 _ _ l1_2 t628 t629 t630 _ ?side1 ?side2 A20.out).mono ?_
      (case side1=>repeat(first|exact(Kd.C_below HR1_2.out HB.out)|(with_reducible refine Kd.C_alloc ?_ _)|(with_reducible refine Kd.C_drewN ?_ _)|(with_reducible refine Kd.C_drew ?_)))
      (case side2=>exact HC1_2.out)
      rintro e w109 ⟨v631,rfl,ho0,hb⟩
      refine⟨_,rfl,?_⟩
      have n0_:=qal.mk (Kd.R_below (za4 HO627) hb)
      have n1_:=qal.mk (Kd.R_lower ho0 (qad (za3 HB GE620 GE621)))
      have n2_:=qal.mk (qac (g:=gb620) (o:=.cells #[.int .i64 a0_0,.slice A0_1 l0_1.length c0_1] 54 (0,0)) (za0 BK620) hb)
      have n3_:=qal.mk (qac (g:=gb621) (o:=.cells #[.int .i64 a1_0,.int .i64 a1_1,.slice A1_2 l1_2.length c1_2] 57 (0,0)) (za0 BK621) hb)
      have n4_:=qal.mk (qae (za3 HB GE620 GE621) hb)
      clear HO627
      clear BK620
      clear BK621
      clear HB
      have HO627:=n0_
      have HO632:=n1_
      have BK620:=n2_
      have BK621:=n3_
      have HB:=n4_
      clear n0_ n1_ n2_ n3_ n4_
      (try clear hb)
      (try clear hb2)
      (try clear hk)
      (try clear hi)
      (try clear ho0)
      obtain⟨Ao110,co110,eo110⟩:=Kd.R_slice HO627.out
      (first|subst eo110|(injection eo110 with f1_ f2_ f3_;have f4_:=f1_.symm;have f5_:=f3_.symm;clear f1_ f2_ f3_;subst f4_;subst f5_))
      obtain⟨Ao111,co111,eo111⟩:=Kd.R_slice HO632.out
      (first|subst eo111|(injection eo111 with f1_ f2_ f3_;have f4_:=f1_.symm;have f5_:=f3_.symm;clear f1_ f2_ f3_;subst f4_;subst f5_))
      refine hK.out _ _ ⟨(qab BK620.out 0).trans rfl,(qab BK620.out 1).trans rfl,(qab BK621.out 0).trans rfl,(qab BK621.out 1).trans rfl,(qab BK621.out 2).trans rfl⟩ (fun hHeld=>?_)
      clear hK K
      refine norm_ (a':=?_) ?_ ?_
      rotate_left
      ·show Act.put _ (some 23) _=_
       simp only[Act.put,List.setIfInBounds_toArray,List.set_cons_zero,List.set_cons_succ,qas,qat]
       rfl
      refine one_ (i:=4) (N:=some 24) #[true,true,true,true,true,false] rfl rfl (by kernel_rfl) (by decide) (fun K hK=>?_)
      refine goes_ Try.func37 (by kernel_rfl) rfl #[.agg #[.int .i64 t624,.slice Ao110 t625.length co110],.agg #[.int .i64 t628,.int .i64 t629,.slice Ao111 t630.length co111]] (by rfl) rfl rfl (by(try simp only[List.map_toArray,List.map_cons,List.map_nil]);first|done|rfl|(simp only[List.length_drop,List.length_take];rfl)) ?_
      with_reducible refine(spec_StockMay.calls k t624 _ _ t625 t628 t629 _ _ t630 t633 _ ?side1 ?side2 ?side3 ?side4 A21.out).mono ?_
      (case side1=>repeat(first|exact(Kd.R_reads' HO627.out).2.2|(with_reducible refine Kd.C_alloc ?_ _)|(with_reducible refine Kd.C_drewN ?_ _)|(with_reducible refine Kd.C_drew ?_)))
      (case side2=>exact(Kd.R_reads' HO627.out).2.1)
      (case side3=>repeat(first|exact(Kd.R_reads' HO632.out).2.2|(with_reducible refine Kd.C_alloc ?_ _)|(with_reducible refine Kd.C_drewN ?_ _)|(with_reducible refine Kd.C_drew ?_)))
      (case side4=>exact(Kd.R_reads' HO632.out).2.1)
      rintro e w112 ⟨rfl,hb⟩
      refine⟨_,rfl,?_⟩
      have n0_:=qal.mk (Kd.R_below (za4 HO627) hb)
      have n1_:=qal.mk (Kd.R_below (za4 HO632) hb)
      have n2_:=qal.mk (qac (g:=gb620) (o:=.cells #[.int .i64 a0_0,.slice A0_1 l0_1.length c0_1] 54 (0,0)) (za0 BK620) hb)
      have n3_:=qal.mk (qac (g:=gb621) (o:=.cells #[.int .i64 a1_0,.int .i64 a1_1,.slice A1_2 l1_2.length c1_2] 57 (0,0)) (za0 BK621) hb)
      have n4_:=qal.mk (qae (za3 HB GE620 GE621) hb)
      clear HO627
      clear HO632
      clear BK620
      clear BK621
      clear HB
      have HO627:=n0_
      have HO632:=n1_
      have BK620:=n2_
      have BK621:=n3_
      have HB:=n4_
      clear n0_ n1_ n2_ n3_ n4_
      (try clear hb)
      (try clear hb2)
      (try clear hk)
      (try clear hi)
      refine hK.out _ _ ⟨(qab BK620.out 0).trans rfl,(qab BK620.out 1).trans rfl,(qab BK621.out 0).trans rfl,(qab BK621.out 1).trans rfl,(qab BK621.out 2).trans rfl⟩ (fun hHeld=>?_)
      clear hK K
      refine norm_ (a':=?_) ?_ ?_
      rotate_left
      ·show Act.put _ (some 24) _=_
       simp only[Act.put,List.setIfInBounds_toArray,List.set_cons_zero,List.set_cons_succ,qas,qat]
       rfl
      refine qaz (i:=5) (N:=some 6) (v:=?_) (a':=?_) #[true,true,true,true,true,true] rfl rfl (by kernel_rfl) (fun _ _ _ h=>h) (Or.inl ⟨by rfl,?_⟩) ?_ ?_
      rotate_left
      ·intro w'
       go_simp
       with_reducible rfl
      rotate_left
      ·simp only[Act.put,List.setIfInBounds_toArray,List.set_cons_zero,List.set_cons_succ,qas,qat]
       rfl
      refine done_ (by kernel_rfl) ?_
      have hcz113_0:w112.cell? ⟨gb620,0,none⟩=some (.int .i64 a0_0):=(qab BK620.out 0).trans rfl
      have hcz113_1:w112.cell? ⟨gb620,1,none⟩=some (.slice A0_1 l0_1.length c0_1):=(qab BK620.out 1).trans rfl
      have hfz113_0:=qaa BK620.out 0
      have hfz113_1:=qaa BK620.out 1
      try go_wp2_with(first|((with_reducible refine qai (f:=38) rfl ?_);refine qau (some 26) rfl rfl Try.func38 (by kernel_rfl) rfl #[.agg #[.int .i64 a0_0,.slice A0_1 l0_1.length c0_1]] rfl (by(try simp only[List.map_toArray,List.map_cons,List.map_nil]);first|done|rfl|(simp only[List.length_drop,List.length_take];rfl)) ?_;(with_reducible refine(laws_toStock.calls k a0_0 _ _ l0_1 t634 t635 _ ?side1 ?side2 A22.out).mono ?_);(case side1=>repeat(first|exact(Kd.C_below HR0_1.out HB.out)|(with_reducible refine Kd.C_alloc ?_ _)|(with_reducible refine Kd.C_drewN ?_ _)|(with_reducible refine Kd.C_drew ?_)));(case side2=>exact HC0_1.out);rintro e w114 ⟨v636,rfl,ho0,hb⟩;refine⟨_,rfl,?_⟩;have n0_:=qal.mk (Kd.R_elder' (za4 HO627) (Kd.R_base ho0) hb);have n1_:=qal.mk (Kd.R_below (za4 HO632) hb);have n2_:=qal.mk (Kd.R_lower (Kd.R_new' ho0 (Kd.R_lt (za4 HO627))) (qad (za3 HB GE620 GE621)));have n3_:=qal.mk (qac (g:=gb620) (o:=.cells #[.int .i64 a0_0,.slice A0_1 l0_1.length c0_1] 54 (0,0)) (za0 BK620) hb);have n4_:=qal.mk (qac (g:=gb621) (o:=.cells #[.int .i64 a1_0,.int .i64 a1_1,.slice A1_2 l1_2.length c1_2] 57 (0,0)) (za0 BK621) hb);have n5_:=qal.mk (qae (za3 HB GE620 GE621) hb);clear HO627;clear HO632;clear BK620;clear BK621;clear HB;have HO627:=n0_;have HO632:=n1_;have HO637:=n2_;have BK620:=n3_;have BK621:=n4_;have HB:=n5_;clear n0_ n1_ n2_ n3_ n4_ n5_;(try clear hb);(try clear hb2);(try clear hk);(try clear hi);(try clear ho0))|((with_reducible refine qak (N:=7) rfl ?_);refine qaj ?hg (N:=7) ?hd (cs:=#[.int .i64 0,.slice none 0 0]) (t:=36) ?hr ?_;(case hd=>rfl);(case hg=>rfl);(case hr=>first|(go_simp;done)|(go_simp;rfl));intro gb638 hg w115 hbox hb;have n0_:=qal.mk (Kd.R_below (za4 HO627) hb);have n1_:=qal.mk (Kd.R_below (za4 HO632) hb);have n2_:=qal.mk (Kd.R_below (za4 HO637) hb);have n3_:=qal.mk (qac (g:=gb620) (o:=.cells #[.int .i64 a0_0,.slice A0_1 l0_1.length c0_1] 54 (0,0)) (za0 BK620) hb);have n4_:=qal.mk (qac (g:=gb621) (o:=.cells #[.int .i64 a1_0,.int .i64 a1_1,.slice A1_2 l1_2.length c1_2] 57 (0,0)) (za0 BK621) hb);have n5_:=qal.mk (qae (za3 HB GE620 GE621) hb);have n6_:=qal.mk (hbox);have n7_:=qal.mk ((by rw[hg];exact(qad (za3 HB GE620 GE621)):w.heap.size≤gb638));have n8_:=qal.mk ((by rw[hg];exact(qad (za3 HB GE620 GE621)):w.heap.size≤gb638));have n9_:=qal.mk ((by rw[hg];exact Nat.ne_of_lt (qao (g:=gb620) (o:=.cells #[.int .i64 a0_0,.slice A0_1 l0_1.length c0_1] 54 (0,0)) (za0 BK620)):gb620≠gb638));have n10_:=qal.mk ((by rw[hg];exact Nat.ne_of_gt (qao (g:=gb620) (o:=.cells #[.int .i64 a0_0,.slice A0_1 l0_1.length c0_1] 54 (0,0)) (za0 BK620)):gb638≠gb620));have n11_:=qal.mk ((by rw[hg];exact Nat.ne_of_lt (qao (g:=gb621) (o:=.cells #[.int .i64 a1_0,.int .i64 a1_1,.slice A1_2 l1_2.length c1_2] 57 (0,0)) (za0 BK621)):gb621≠gb638));have n12_:=qal.mk ((by rw[hg];exact Nat.ne_of_gt (qao (g:=gb621) (o:=.cells #[.int .i64 a1_0,.int .i64 a1_1,.slice A1_2 l1_2.length c1_2] 57 (0,0)) (za0 BK621)):gb638≠gb621));clear HO627;clear HO632;clear HO637;clear BK620;clear BK621;clear HB;have HO627:=n0_;have HO632:=n1_;have HO637:=n2_;have BK620:=n3_;have BK621:=n4_;have HB:=n5_;have BK638:=n6_;have GW638:=n7_;have GE638:=n8_;have NB620_638:=n9_;have NB638_620:=n10_;have NB621_638:=n11_;have NB638_621:=n12_;clear n0_ n1_ n2_ n3_ n4_ n5_ n6_ n7_ n8_ n9_ n10_ n11_ n12_;clear hb hbox hg;have hnb116:=NB638_620.out;have hnc116:=NB620_638.out;have hnb117:=NB638_621.out;have hnc117:=NB621_638.out;have hcz118_0:w115.cell? ⟨gb638,0,none⟩=some (.int .i64 0):=(qab BK638.out 0).trans rfl;have hcz118_1:w115.cell? ⟨gb638,1,none⟩=some (.slice none 0 0):=(qab BK638.out 1).trans rfl;have hfz118_0:=qaa BK638.out 0;have hfz118_1:=qaa BK638.out 1;obtain⟨Ao119,co119,eo119⟩:=Kd.R_slice HO637.out;subst eo119;have hcz120_0:w115.cell? ⟨gb621,0,none⟩=some (.int .i64 a1_0):=(qab BK621.out 0).trans rfl;have hcz120_1:w115.cell? ⟨gb621,1,none⟩=some (.int .i64 a1_1):=(qab BK621.out 1).trans rfl;have hcz120_2:w115.cell? ⟨gb621,2,none⟩=some (.slice A1_2 l1_2.length c1_2):=(qab BK621.out 2).trans rfl;have hfz120_0:=qaa BK621.out 0;have hfz120_1:=qaa BK621.out 1;have hfz120_2:=qaa BK621.out 2)|((with_reducible refine qai (f:=39) rfl ?_);refine qau (some 28) rfl rfl Try.func39 (by kernel_rfl) rfl #[.agg #[.int .i64 a1_0,.int .i64 a1_1,.slice A1_2 l1_2.length c1_2]] rfl (by(try simp only[List.map_toArray,List.map_cons,List.map_nil]);first|done|rfl|(simp only[List.length_drop,List.length_take];rfl)) ?_;(with_reducible refine(laws_toRec.calls k a1_0 a1_1 _ _ l1_2 t639 t640 t641 _ ?side1 ?side2 A23.out).mono ?_);(case side1=>exact Kd.C_below HR1_2.out (za6 HB GE620 GE621 GE638));(case side2=>exact HC1_2.out);rintro e w121 ⟨v642,rfl,ho0,hb⟩;refine⟨_,rfl,?_⟩;have n0_:=qal.mk (Kd.R_below (by(with_reducible repeat(first|apply Kd.R_alloc|apply Kd.R_drewN|apply Kd.R_drew));exact(Kd.R_mono (Kd.R_far (p:=⟨gb638,1,none⟩) (Kd.R_far (p:=⟨gb638,0,none⟩) (Kd.R_types HO627.out BK638.out (by decide)) (fun _ hk=>hk.2) (.int .i64 t634)) (fun _ hk=>hk.2) (.slice Ao119 t635.length co119)) (fun _ h_=>h_.1))) hb);have n1_:=qal.mk (Kd.R_elder' (by(with_reducible repeat(first|apply Kd.R_alloc|apply Kd.R_drewN|apply Kd.R_drew));exact(Kd.R_mono (Kd.R_far (p:=⟨gb638,1,none⟩) (Kd.R_far (p:=⟨gb638,0,none⟩) (Kd.R_types HO632.out BK638.out (by decide)) (fun _ hk=>hk.2) (.int .i64 t634)) (fun _ hk=>hk.2) (.slice Ao119 t635.length co119)) (fun _ h_=>h_.1))) (Kd.R_base ho0) hb);have n2_:=qal.mk (Kd.R_below (by(with_reducible repeat(first|apply Kd.R_alloc|apply Kd.R_drewN|apply Kd.R_drew));exact(Kd.R_mono (Kd.R_far (p:=⟨gb638,1,none⟩) (Kd.R_far (p:=⟨gb638,0,none⟩) (Kd.R_types HO637.out BK638.out (by decide)) (fun _ hk=>hk.2) (.int .i64 t634)) (fun _ hk=>hk.2) (.slice Ao119 t635.length co119)) (fun _ h_=>h_.1))) hb);have n3_:=qal.mk (Kd.R_lower (Kd.R_new' ho0 (Kd.R_lt (by(with_reducible repeat(first|apply Kd.R_alloc|apply Kd.R_drewN|apply Kd.R_drew));exact(Kd.R_mono (Kd.R_far (p:=⟨gb638,1,none⟩) (Kd.R_far (p:=⟨gb638,0,none⟩) (Kd.R_types HO632.out BK638.out (by decide)) (fun _ hk=>hk.2) (.int .i64 t634)) (fun _ hk=>hk.2) (.slice Ao119 t635.length co119)) (fun _ h_=>h_.1))))) (qad (za6 HB GE620 GE621 GE638)));have n4_:=qal.mk (qac (g:=gb620) (o:=.cells #[.int .i64 a0_0,.slice A0_1 l0_1.length c0_1] 54 (0,0)) (za5 NB620_638 BK620) hb);have n5_:=qal.mk (qac (g:=gb621) (o:=.cells #[.int .i64 a1_0,.int .i64 a1_1,.slice A1_2 l1_2.length c1_2] 57 (0,0)) (za5 NB621_638 BK621) hb);have n6_:=qal.mk (qac (g:=gb638) (o:=.cells #[.int .i64 t634,.slice Ao119 t635.length co119] 36 (0,0)) (by(with_reducible repeat(first|refine qag ?_ _|refine qah ?_|refine qaf ?_ _));refine qan (cs:=#[.int .i64 t634,.slice none 0 0]) ?_ 1 _ rfl;(with_reducible repeat(first|refine qag ?_ _|refine qah ?_|refine qaf ?_ _));refine qan (cs:=#[.int .i64 0,.slice none 0 0]) ?_ 0 _ rfl;(with_reducible repeat(first|refine qag ?_ _|refine qah ?_|refine qaf ?_ _));exact BK638.out) hb);have n7_:=qal.mk (qae (za6 HB GE620 GE621 GE638) hb);clear HO627;clear HO632;clear HO637;clear BK620;clear BK621;clear BK638;clear HB;have HO627:=n0_;have HO632:=n1_;have HO637:=n2_;have HO643:=n3_;have BK620:=n4_;have BK621:=n5_;have BK638:=n6_;have HB:=n7_;clear n0_ n1_ n2_ n3_ n4_ n5_ n6_ n7_;(try clear hb);(try clear hb2);(try clear hk);(try clear hi);(try clear ho0))|((with_reducible refine qak (N:=8) rfl ?_);refine qaj ?hg (N:=8) ?hd (cs:=#[.int .i64 0,.int .i64 0,.slice none 0 0]) (t:=62) ?hr ?_;(case hd=>rfl);(case hg=>rfl);(case hr=>first|(go_simp;done)|(go_simp;rfl));intro gb644 hg w122 hbox hb;have n0_:=qal.mk (Kd.R_below (za4 HO627) hb);have n1_:=qal.mk (Kd.R_below (za4 HO632) hb);have n2_:=qal.mk (Kd.R_below (za4 HO637) hb);have n3_:=qal.mk (Kd.R_below (za4 HO643) hb);have n4_:=qal.mk (qac (g:=gb620) (o:=.cells #[.int .i64 a0_0,.slice A0_1 l0_1.length c0_1] 54 (0,0)) (za0 BK620) hb);have n5_:=qal.mk (qac (g:=gb621) (o:=.cells #[.int .i64 a1_0,.int .i64 a1_1,.slice A1_2 l1_2.length c1_2] 57 (0,0)) (za0 BK621) hb);have n6_:=qal.mk (qac (g:=gb638) (o:=.cells #[.int .i64 t634,.slice Ao119 t635.length co119] 36 (0,0)) (za0 BK638) hb);have n7_:=qal.mk (qae (za6 HB GE620 GE621 GE638) hb);have n8_:=qal.mk (hbox);have n9_:=qal.mk ((by rw[hg];exact(qad (za6 HB GE620 GE621 GE638)):w.heap.size≤gb644));have n10_:=qal.mk ((by rw[hg];exact(qad (za6 HB GE620 GE621 GE638)):w.heap.size≤gb644));have n11_:=qal.mk ((by rw[hg];exact Nat.ne_of_lt (qao (g:=gb620) (o:=.cells #[.int .i64 a0_0,.slice A0_1 l0_1.length c0_1] 54 (0,0)) (za0 BK620)):gb620≠gb644));have n12_:=qal.mk ((by rw[hg];exact Nat.ne_of_gt (qao (g:=gb620) (o:=.cells #[.int .i64 a0_0,.slice A0_1 l0_1.length c0_1] 54 (0,0)) (za0 BK620)):gb644≠gb620));have n13_:=qal.mk ((by rw[hg];exact Nat.ne_of_lt (qao (g:=gb621) (o:=.cells #[.int .i64 a1_0,.int .i64 a1_1,.slice A1_2 l1_2.length c1_2] 57 (0,0)) (za0 BK621)):gb621≠gb644));have n14_:=qal.mk ((by rw[hg];exact Nat.ne_of_gt (qao (g:=gb621) (o:=.cells #[.int .i64 a1_0,.int .i64 a1_1,.slice A1_2 l1_2.length c1_2] 57 (0,0)) (za0 BK621)):gb644≠gb621));have n15_:=qal.mk ((by rw[hg];exact Nat.ne_of_lt (qao (g:=gb638) (o:=.cells #[.int .i64 t634,.slice Ao119 t635.length co119] 36 (0,0)) (za0 BK638)):gb638≠gb644));have n16_:=qal.mk ((by rw[hg];exact Nat.ne_of_gt (qao (g:=gb638) (o:=.cells #[.int .i64 t634,.slice Ao119 t635.length co119] 36 (0,0)) (za0 BK638)):gb644≠gb638));clear HO627;clear HO632;clear HO637;clear HO643;clear BK620;clear BK621;clear BK638;clear HB;have HO627:=n0_;have HO632:=n1_;have HO637:=n2_;have HO643:=n3_;have BK620:=n4_;have BK621:=n5_;have BK638:=n6_;have HB:=n7_;have BK644:=n8_;have GW644:=n9_;have GE644:=n10_;have NB620_644:=n11_;have NB644_620:=n12_;have NB621_644:=n13_;have NB644_621:=n14_;have NB638_644:=n15_;have NB644_638:=n16_;clear n0_ n1_ n2_ n3_ n4_ n5_ n6_ n7_ n8_ n9_ n10_ n11_ n12_ n13_ n14_ n15_ n16_;clear hb hbox hg;have hnb123:=NB644_620.out;have hnc123:=NB620_644.out;have hnb124:=NB644_621.out;have hnc124:=NB621_644.out;have hnb125:=NB644_638.out;have hnc125:=NB638_644.out;have hcz126_0:w122.cell? ⟨gb644,0,none⟩=some (.int .i64 0):=(qab BK644.out 0).trans rfl;have hcz126_1:w122.cell? ⟨gb644,1,none⟩=some (.int .i64 0):=(qab BK644.out 1).trans rfl;have hcz126_2:w122.cell? ⟨gb644,2,none⟩=some (.slice none 0 0):=(qab BK644.out 2).trans rfl;have hfz126_0:=qaa BK644.out 0;have hfz126_1:=qaa BK644.out 1;have hfz126_2:=qaa BK644.out 2;obtain⟨Ao127,co127,eo127⟩:=Kd.R_slice HO643.out;subst eo127;have hcz128_0:w122.cell? ⟨gb638,0,none⟩=some (.int .i64 t634):=(qab BK638.out 0).trans rfl;have hcz128_1:w122.cell? ⟨gb638,1,none⟩=some (.slice Ao119 t635.length co119):=(qab BK638.out 1).trans rfl;have hfz128_0:=qaa BK638.out 0;have hfz128_1:=qaa BK638.out 1)|((with_reducible refine qai (f:=40) rfl ?_);refine qau (some 31) rfl rfl Try.func40 (by kernel_rfl) rfl #[.agg #[.int .i64 t634,.slice Ao119 t635.length co119],.agg #[.int .i64 t639,.int .i64 t640,.slice Ao127 t641.length co127]] rfl (by(try simp only[List.map_toArray,List.map_cons,List.map_nil]);first|done|rfl|(simp only[List.length_drop,List.length_take];rfl)) ?_;(with_reducible refine(impl_StockMay.calls k t634 _ _ t635 t639 t640 _ _ t641 t645 _ ?side1 ?side2 ?side3 ?side4 A24.out).mono ?_);(case side1=>refine(Kd.R_reads' (e:=46) (base:=w.heap.size) (ok:=fun k_=>(True∧some k_≠(.slice Ao110 t625.length co110:Value).ownBlock)) (n:=t635.length) (c:=co119) ?_).2.2;exact(by(with_reducible repeat(first|apply Kd.R_alloc|apply Kd.R_drewN|apply Kd.R_drew));exact(Kd.R_mono (Kd.R_far (p:=⟨gb644,2,none⟩) (Kd.R_far (p:=⟨gb644,1,none⟩) (Kd.R_far (p:=⟨gb644,0,none⟩) (Kd.R_types HO637.out BK644.out (by decide)) (fun _ hk=>hk.2) (.int .i64 t639)) (fun _ hk=>hk.2) (.int .i64 t640)) (fun _ hk=>hk.2) (.slice Ao127 t641.length co127)) (fun _ h_=>h_.1))));(case side2=>exact(Kd.R_reads' HO637.out).2.1);(case side3=>refine(Kd.R_reads' (e:=3) (base:=w.heap.size) (ok:=fun k_=>(True∧some k_≠(.slice Ao111 t630.length co111:Value).ownBlock)) (n:=t641.length) (c:=co127) ?_).2.2;exact(by(with_reducible repeat(first|apply Kd.R_alloc|apply Kd.R_drewN|apply Kd.R_drew));exact(Kd.R_mono (Kd.R_far (p:=⟨gb644,2,none⟩) (Kd.R_far (p:=⟨gb644,1,none⟩) (Kd.R_far (p:=⟨gb644,0,none⟩) (Kd.R_types HO643.out BK644.out (by decide)) (fun _ hk=>hk.2) (.int .i64 t639)) (fun _ hk=>hk.2) (.int .i64 t640)) (fun _ hk=>hk.2) (.slice Ao127 t641.length co127)) (fun _ h_=>h_.1))));(case side4=>exact(Kd.R_reads' HO643.out).2.1);rintro e w129 ⟨rfl,hb⟩;refine⟨_,rfl,?_⟩;have n0_:=qal.mk (Kd.R_below (by(with_reducible repeat(first|apply Kd.R_alloc|apply Kd.R_drewN|apply Kd.R_drew));exact(Kd.R_mono (Kd.R_far (p:=⟨gb644,2,none⟩) (Kd.R_far (p:=⟨gb644,1,none⟩) (Kd.R_far (p:=⟨gb644,0,none⟩) (Kd.R_types HO627.out BK644.out (by decide)) (fun _ hk=>hk.2) (.int .i64 t639)) (fun _ hk=>hk.2) (.int .i64 t640)) (fun _ hk=>hk.2) (.slice Ao127 t641.length co127)) (fun _ h_=>h_.1))) hb);have n1_:=qal.mk (Kd.R_below (by(with_reducible repeat(first|apply Kd.R_alloc|apply Kd.R_drewN|apply Kd.R_drew));exact(Kd.R_mono (Kd.R_far (p:=⟨gb644,2,none⟩) (Kd.R_far (p:=⟨gb644,1,none⟩) (Kd.R_far (p:=⟨gb644,0,none⟩) (Kd.R_types HO632.out BK644.out (by decide)) (fun _ hk=>hk.2) (.int .i64 t639)) (fun _ hk=>hk.2) (.int .i64 t640)) (fun _ hk=>hk.2) (.slice Ao127 t641.length co127)) (fun _ h_=>h_.1))) hb);have n2_:=qal.mk (Kd.R_below (by(with_reducible repeat(first|apply Kd.R_alloc|apply Kd.R_drewN|apply Kd.R_drew));exact(Kd.R_mono (Kd.R_far (p:=⟨gb644,2,none⟩) (Kd.R_far (p:=⟨gb644,1,none⟩) (Kd.R_far (p:=⟨gb644,0,none⟩) (Kd.R_types HO637.out BK644.out (by decide)) (fun _ hk=>hk.2) (.int .i64 t639)) (fun _ hk=>hk.2) (.int .i64 t640)) (fun _ hk=>hk.2) (.slice Ao127 t641.length co127)) (fun _ h_=>h_.1))) hb);have n3_:=qal.mk (Kd.R_below (by(with_reducible repeat(first|apply Kd.R_alloc|apply Kd.R_drewN|apply Kd.R_drew));exact(Kd.R_mono (Kd.R_far (p:=⟨gb644,2,none⟩) (Kd.R_far (p:=⟨gb644,1,none⟩) (Kd.R_far (p:=⟨gb644,0,none⟩) (Kd.R_types HO643.out BK644.out (by decide)) (fun _ hk=>hk.2) (.int .i64 t639)) (fun _ hk=>hk.2) (.int .i64 t640)) (fun _ hk=>hk.2) (.slice Ao127 t641.length co127)) (fun _ h_=>h_.1))) hb);have n4_:=qal.mk (qac (g:=gb620) (o:=.cells #[.int .i64 a0_0,.slice A0_1 l0_1.length c0_1] 54 (0,0)) (za7 NB620_644 BK620) hb);have n5_:=qal.mk (qac (g:=gb621) (o:=.cells #[.int .i64 a1_0,.int .i64 a1_1,.slice A1_2 l1_2.length c1_2] 57 (0,0)) (za7 NB621_644 BK621) hb);have n6_:=qal.mk (qac (g:=gb638) (o:=.cells #[.int .i64 t634,.slice Ao119 t635.length co119] 36 (0,0)) (za7 NB638_644 BK638) hb);have n7_:=qal.mk (qac (g:=gb644) (o:=.cells #[.int .i64 t639,.int .i64 t640,.slice Ao127 t641.length co127] 62 (0,0)) (by(with_reducible repeat(first|refine qag ?_ _|refine qah ?_|refine qaf ?_ _));refine qan (cs:=#[.int .i64 t639,.int .i64 t640,.slice none 0 0]) ?_ 2 _ rfl;(with_reducible repeat(first|refine qag ?_ _|refine qah ?_|refine qaf ?_ _));refine qan (cs:=#[.int .i64 t639,.int .i64 0,.slice none 0 0]) ?_ 1 _ rfl;(with_reducible repeat(first|refine qag ?_ _|refine qah ?_|refine qaf ?_ _));refine qan (cs:=#[.int .i64 0,.int .i64 0,.slice none 0 0]) ?_ 0 _ rfl;(with_reducible repeat(first|refine qag ?_ _|refine qah ?_|refine qaf ?_ _));exact BK644.out) hb);have n8_:=qal.mk (qae (za11 HB GE620 GE621 GE638 GE644) hb);clear HO627;clear HO632;clear HO637;clear HO643;clear BK620;clear BK621;clear BK638;clear BK644;clear HB;have HO627:=n0_;have HO632:=n1_;have HO637:=n2_;have HO643:=n3_;have BK620:=n4_;have BK621:=n5_;have BK638:=n6_;have BK644:=n7_;have HB:=n8_;clear n0_ n1_ n2_ n3_ n4_ n5_ n6_ n7_ n8_;(try clear hb);(try clear hb2);(try clear hk);(try clear hi)))
      have n0_:=qal.mk (Kd.R_drew HO627.out)
      have n1_:=qal.mk (Kd.R_drew HO632.out)
      have n2_:=qal.mk (Kd.R_drew HO637.out)
      have n3_:=qal.mk (Kd.R_drew HO643.out)
      have n4_:=qal.mk (qah BK620.out)
      have n5_:=qal.mk (qah BK621.out)
      have n6_:=qal.mk (qah BK638.out)
      have n7_:=qal.mk (qah BK644.out)
      have n8_:=qal.mk (qaq HB.out)
      clear HO627
      clear HO632
      clear HO637
      clear HO643
      clear BK620
      clear BK621
      clear BK638
      clear BK644
      clear HB
      have HO627:=n0_
      have HO632:=n1_
      have HO637:=n2_
      have HO643:=n3_
      have BK620:=n4_
      have BK621:=n5_
      have BK638:=n6_
      have BK644:=n7_
      have HB:=n8_
      clear n0_ n1_ n2_ n3_ n4_ n5_ n6_ n7_ n8_
      refine start_ (n:=5) (S:=fun w'=>w'.cell? ⟨gb638,0,none⟩=some (.int .i64 t634)∧w'.cell? ⟨gb638,1,none⟩=some (.slice Ao119 t635.length co119)∧w'.cell? ⟨gb620,0,none⟩=some (.int .i64 a0_0)∧w'.cell? ⟨gb620,1,none⟩=some (.slice A0_1 l0_1.length c0_1)) (ds:=[]) #[false,false,false,false,false] (by kernel_rfl) rfl rfl ⟨(qab BK638.out 0).trans rfl,(qab BK638.out 1).trans rfl,(qab BK620.out 0).trans rfl,(qab BK620.out 1).trans rfl⟩ (fun hHeld=>?_)
      generalize w129.drew=w130 at HO627 HO632 HO637 HO643 BK620 BK621 BK638 BK644 HB hHeld ⊢
      refine take_ (i:=0) (N:=some 35) (v:=?_) (a':=?_) #[true,false,false,false,false] rfl rfl (by kernel_rfl) (fun _ _ _ h=>h) (Or.inl ⟨by rfl,?_⟩) hHeld ?_ ?_
      rotate_left
      ·rintro w' ⟨s0,s1,s2,s3⟩
       go_simp
       with_reducible rfl
      rotate_left
      ·simp only[Act.put,List.setIfInBounds_toArray,List.set_cons_zero,List.set_cons_succ,qas,qat]
       rfl
      refine take_ (i:=1) (N:=some 36) (v:=?_) (a':=?_) #[true,true,false,false,false] rfl rfl (by kernel_rfl) (fun _ _ _ h=>h) (Or.inl ⟨by rfl,?_⟩) hHeld ?_ ?_
      rotate_left
      ·rintro w' ⟨s0,s1,s2,s3⟩
       go_simp
       with_reducible rfl
      rotate_left
      ·simp only[Act.put,List.setIfInBounds_toArray,List.set_cons_zero,List.set_cons_succ,qas,qat]
       rfl
      refine one_ (i:=2) (N:=some 37) #[true,true,true,false,false] rfl rfl (by kernel_rfl) (by decide) (fun K hK=>?_)
      refine goes_ Try.func38 (by kernel_rfl) rfl #[.agg #[.int .i64 a0_0,.slice A0_1 l0_1.length c0_1]] (by rfl) rfl rfl (by(try simp only[List.map_toArray,List.map_cons,List.map_nil]);first|done|rfl|(simp only[List.length_drop,List.length_take];rfl)) ?_
      with_reducible refine(laws_toStock.calls k a0_0 _ _ l0_1 t646 t647 _ ?side1 ?side2 A56.out).mono ?_
      (case side1=>repeat(first|exact(Kd.C_below HR0_1.out HB.out)|(with_reducible refine Kd.C_alloc ?_ _)|(with_reducible refine Kd.C_drewN ?_ _)|(with_reducible refine Kd.C_drew ?_)))
      (case side2=>exact HC0_1.out)
      rintro e w131 ⟨v648,rfl,ho0,hb⟩
      refine⟨_,rfl,?_⟩
      have n0_:=qal.mk (Kd.R_elder' (za4 HO627) (Kd.R_base ho0) hb)
      have n1_:=qal.mk (Kd.R_below (za4 HO632) hb)
      have n2_:=qal.mk (Kd.R_elder' (za4 HO637) (Kd.R_base ho0) hb)
      have n3_:=qal.mk (Kd.R_below (za4 HO643) hb)
      have n4_:=qal.mk (Kd.R_lower (Kd.R_new' (Kd.R_new' ho0 (Kd.R_lt (za4 HO627))) (Kd.R_lt (za4 HO637))) (qad (za11 HB GE620 GE621 GE638 GE644)))
      have n5_:=qal.mk (qac (g:=gb620) (o:=.cells #[.int .i64 a0_0,.slice A0_1 l0_1.length c0_1] 54 (0,0)) (za0 BK620) hb)
      have n6_:=qal.mk (qac (g:=gb621) (o:=.cells #[.int .i64 a1_0,.int .i64 a1_1,.slice A1_2 l1_2.length c1_2] 57 (0,0)) (za0 BK621) hb)
      have n7_:=qal.mk (qac (g:=gb638) (o:=.cells #[.int .i64 t634,.slice Ao119 t635.length co119] 36 (0,0)) (za0 BK638) hb)
      have n8_:=qal.mk (qac (g:=gb644) (o:=.cells #[.int .i64 t639,.int .i64 t640,.slice Ao127 t641.length co127] 62 (0,0)) (za0 BK644) hb)
      have n9_:=qal.mk (qae (za11 HB GE620 GE621 GE638 GE644) hb)
      clear HO627
      clear HO632
      clear HO637
      clear HO643
      clear BK620
      clear BK621
      clear BK638
      clear BK644
      clear HB
      have HO627:=n0_
      have HO632:=n1_
      have HO637:=n2_
      have HO643:=n3_
      have HO649:=n4_
      have BK620:=n5_
      have BK621:=n6_
      have BK638:=n7_
      have BK644:=n8_
      have HB:=n9_
      clear n0_ n1_ n2_ n3_ n4_ n5_ n6_ n7_ n8_ n9_
      (try clear hb)
      (try clear hb2)
      (try clear hk)
      (try clear hi)
      (try clear ho0)
      obtain⟨Ao132,co132,eo132⟩:=Kd.R_slice HO649.out
      (first|subst eo132|(injection eo132 with f1_ f2_ f3_;have f4_:=f1_.symm;have f5_:=f3_.symm;clear f1_ f2_ f3_;subst f4_;subst f5_))
      refine hK.out _ _ ⟨(qab BK638.out 0).trans rfl,(qab BK638.out 1).trans rfl,(qab BK620.out 0).trans rfl,(qab BK620.out 1).trans rfl⟩ (fun hHeld=>?_)
      clear hK K
      refine norm_ (a':=?_) ?_ ?_
      rotate_left
      ·show Act.put _ (some 37) _=_
       simp only[Act.put,List.setIfInBounds_toArray,List.set_cons_zero,List.set_cons_succ,qas,qat]
       rfl
      refine one_ (i:=3) (N:=some 38) #[true,true,true,true,false] rfl rfl (by kernel_rfl) (by decide) (fun K hK=>?_)
      refine goes_ Try.func41 (by kernel_rfl) rfl #[.agg #[.int .i64 t634,.slice Ao119 t635.length co119],.agg #[.int .i64 t646,.slice Ao132 t647.length co132]] (by rfl) rfl rfl (by(try simp only[List.map_toArray,List.map_cons,List.map_nil]);first|done|rfl|(simp only[List.length_drop,List.length_take];rfl)) ?_
      with_reducible refine(laws_eqStock.calls k t634 _ _ t635 t646 _ _ t647 true _ ?side1 ?side2 ?side3 ?side4 A57.out).mono ?_
      (case side1=>repeat(first|exact(Kd.R_reads' HO637.out).2.2|(with_reducible refine Kd.C_alloc ?_ _)|(with_reducible refine Kd.C_drewN ?_ _)|(with_reducible refine Kd.C_drew ?_)))
      (case side2=>exact(Kd.R_reads' HO637.out).2.1)
      (case side3=>repeat(first|exact(Kd.R_reads' HO649.out).2.2|(with_reducible refine Kd.C_alloc ?_ _)|(with_reducible refine Kd.C_drewN ?_ _)|(with_reducible refine Kd.C_drew ?_)))
      (case side4=>exact(Kd.R_reads' HO649.out).2.1)
      rintro e w133 ⟨rfl,hb⟩
      refine⟨_,rfl,?_⟩
      have n0_:=qal.mk (Kd.R_below (za4 HO627) hb)
      have n1_:=qal.mk (Kd.R_below (za4 HO632) hb)
      have n2_:=qal.mk (Kd.R_below (za4 HO637) hb)
      have n3_:=qal.mk (Kd.R_below (za4 HO643) hb)
      have n4_:=qal.mk (Kd.R_below (za4 HO649) hb)
      have n5_:=qal.mk (qac (g:=gb620) (o:=.cells #[.int .i64 a0_0,.slice A0_1 l0_1.length c0_1] 54 (0,0)) (za0 BK620) hb)
      have n6_:=qal.mk (qac (g:=gb621) (o:=.cells #[.int .i64 a1_0,.int .i64 a1_1,.slice A1_2 l1_2.length c1_2] 57 (0,0)) (za0 BK621) hb)
      have n7_:=qal.mk (qac (g:=gb638) (o:=.cells #[.int .i64 t634,.slice Ao119 t635.length co119] 36 (0,0)) (za0 BK638) hb)
      have n8_:=qal.mk (qac (g:=gb644) (o:=.cells #[.int .i64 t639,.int .i64 t640,.slice Ao127 t641.length co127] 62 (0,0)) (za0 BK644) hb)
      have n9_:=qal.mk (qae (za11 HB GE620 GE621 GE638 GE644) hb)
      clear HO627
      clear HO632
      clear HO637
      clear HO643
      clear HO649
      clear BK620
      clear BK621
      clear BK638
      clear BK644
      clear HB
      have HO627:=n0_
      have HO632:=n1_
      have HO637:=n2_
      have HO643:=n3_
      have HO649:=n4_
      have BK620:=n5_
      have BK621:=n6_
      have BK638:=n7_
      have BK644:=n8_
      have HB:=n9_
      clear n0_ n1_ n2_ n3_ n4_ n5_ n6_ n7_ n8_ n9_
      (try clear hb)
      (try clear hb2)
      (try clear hk)
      (try clear hi)
      refine hK.out _ _ ⟨(qab BK638.out 0).trans rfl,(qab BK638.out 1).trans rfl,(qab BK620.out 0).trans rfl,(qab BK620.out 1).trans rfl⟩ (fun hHeld=>?_)
      clear hK K
      refine norm_ (a':=?_) ?_ ?_
      rotate_left
      ·show Act.put _ (some 38) _=_
       simp only[Act.put,List.setIfInBounds_toArray,List.set_cons_zero,List.set_cons_succ,qas,qat]
       rfl
      refine qaz (i:=4) (N:=some 39) (v:=?_) (a':=?_) #[true,true,true,true,true] rfl rfl (by kernel_rfl) (fun _ _ _ h=>h) (Or.inl ⟨by rfl,?_⟩) ?_ ?_
      rotate_left
      ·intro w'
       go_simp
       with_reducible rfl
      rotate_left
      ·simp only[Act.put,List.setIfInBounds_toArray,List.set_cons_zero,List.set_cons_succ,qas,qat]
       rfl
      refine done_ (by kernel_rfl) ?_
      try go_wp2
      have n0_:=qal.mk (Kd.R_drew HO627.out)
      have n1_:=qal.mk (Kd.R_drew HO632.out)
      have n2_:=qal.mk (Kd.R_drew HO637.out)
      have n3_:=qal.mk (Kd.R_drew HO643.out)
      have n4_:=qal.mk (Kd.R_drew HO649.out)
      have n5_:=qal.mk (qah BK620.out)
      have n6_:=qal.mk (qah BK621.out)
      have n7_:=qal.mk (qah BK638.out)
      have n8_:=qal.mk (qah BK644.out)
      have n9_:=qal.mk (qaq HB.out)
      clear HO627
      clear HO632
      clear HO637
      clear HO643
      clear HO649
      clear BK620
      clear BK621
      clear BK638
      clear BK644
      clear HB
      have HO627:=n0_
      have HO632:=n1_
      have HO637:=n2_
      have HO643:=n3_
      have HO649:=n4_
      have BK620:=n5_
      have BK621:=n6_
      have BK638:=n7_
      have BK644:=n8_
      have HB:=n9_
      clear n0_ n1_ n2_ n3_ n4_ n5_ n6_ n7_ n8_ n9_
      refine start_ (n:=5) (S:=fun w'=>w'.cell? ⟨gb644,0,none⟩=some (.int .i64 t639)∧w'.cell? ⟨gb644,1,none⟩=some (.int .i64 t640)∧w'.cell? ⟨gb644,2,none⟩=some (.slice Ao127 t641.length co127)∧w'.cell? ⟨gb621,0,none⟩=some (.int .i64 a1_0)∧w'.cell? ⟨gb621,1,none⟩=some (.int .i64 a1_1)∧w'.cell? ⟨gb621,2,none⟩=some (.slice A1_2 l1_2.length c1_2)) (ds:=[]) #[false,false,false,false,false] (by kernel_rfl) rfl rfl ⟨(qab BK644.out 0).trans rfl,(qab BK644.out 1).trans rfl,(qab BK644.out 2).trans rfl,(qab BK621.out 0).trans rfl,(qab BK621.out 1).trans rfl,(qab BK621.out 2).trans rfl⟩ (fun hHeld=>?_)
      generalize w133.drew=w134 at HO627 HO632 HO637 HO643 HO649 BK620 BK621 BK638 BK644 HB hHeld ⊢
      refine take_ (i:=0) (N:=some 40) (v:=?_) (a':=?_) #[true,false,false,false,false] rfl rfl (by kernel_rfl) (fun _ _ _ h=>h) (Or.inl ⟨by rfl,?_⟩) hHeld ?_ ?_
      rotate_left
      ·rintro w' ⟨s0,s1,s2,s3,s4,s5⟩
       go_simp
       with_reducible rfl
      rotate_left
      ·simp only[Act.put,List.setIfInBounds_toArray,List.set_cons_zero,List.set_cons_succ,qas,qat]
       rfl
      refine take_ (i:=1) (N:=some 41) (v:=?_) (a':=?_) #[true,true,false,false,false] rfl rfl (by kernel_rfl) (fun _ _ _ h=>h) (Or.inl ⟨by rfl,?_⟩) hHeld ?_ ?_
      rotate_left
      ·rintro w' ⟨s0,s1,s2,s3,s4,s5⟩
       go_simp
       with_reducible rfl
      rotate_left
      ·simp only[Act.put,List.setIfInBounds_toArray,List.set_cons_zero,List.set_cons_succ,qas,qat]
       rfl
      refine one_ (i:=2) (N:=some 42) #[true,true,true,false,false] rfl rfl (by kernel_rfl) (by decide) (fun K hK=>?_)
      refine goes_ Try.func39 (by kernel_rfl) rfl #[.agg #[.int .i64 a1_0,.int .i64 a1_1,.slice A1_2 l1_2.length c1_2]] (by rfl) rfl rfl (by(try simp only[List.map_toArray,List.map_cons,List.map_nil]);first|done|rfl|(simp only[List.length_drop,List.length_take];rfl)) ?_
      with_reducible refine(laws_toRec.calls k a1_0 a1_1 _ _ l1_2 t651 t652 t653 _ ?side1 ?side2 A59.out).mono ?_
      (case side1=>repeat(first|exact(Kd.C_below HR1_2.out HB.out)|(with_reducible refine Kd.C_alloc ?_ _)|(with_reducible refine Kd.C_drewN ?_ _)|(with_reducible refine Kd.C_drew ?_)))
      (case side2=>exact HC1_2.out)
      rintro e w135 ⟨v654,rfl,ho0,hb⟩
      refine⟨_,rfl,?_⟩
      have n0_:=qal.mk (Kd.R_below (za4 HO627) hb)
      have n1_:=qal.mk (Kd.R_elder' (za4 HO632) (Kd.R_base ho0) hb)
      have n2_:=qal.mk (Kd.R_below (za4 HO637) hb)
      have n3_:=qal.mk (Kd.R_elder' (za4 HO643) (Kd.R_base ho0) hb)
      have n4_:=qal.mk (Kd.R_below (za4 HO649) hb)
      have n5_:=qal.mk (Kd.R_lower (Kd.R_new' (Kd.R_new' ho0 (Kd.R_lt (za4 HO632))) (Kd.R_lt (za4 HO643))) (qad (za11 HB GE620 GE621 GE638 GE644)))
      have n6_:=qal.mk (qac (g:=gb620) (o:=.cells #[.int .i64 a0_0,.slice A0_1 l0_1.length c0_1] 54 (0,0)) (za0 BK620) hb)
      have n7_:=qal.mk (qac (g:=gb621) (o:=.cells #[.int .i64 a1_0,.int .i64 a1_1,.slice A1_2 l1_2.length c1_2] 57 (0,0)) (za0 BK621) hb)
      have n8_:=qal.mk (qac (g:=gb638) (o:=.cells #[.int .i64 t634,.slice Ao119 t635.length co119] 36 (0,0)) (za0 BK638) hb)
      have n9_:=qal.mk (qac (g:=gb644) (o:=.cells #[.int .i64 t639,.int .i64 t640,.slice Ao127 t641.length co127] 62 (0,0)) (za0 BK644) hb)
      have n10_:=qal.mk (qae (za11 HB GE620 GE621 GE638 GE644) hb)
      clear HO627
      clear HO632
      clear HO637
      clear HO643
      clear HO649
      clear BK620
      clear BK621
      clear BK638
      clear BK644
      clear HB
      have HO627:=n0_
      have HO632:=n1_
      have HO637:=n2_
      have HO643:=n3_
      have HO649:=n4_
      have HO655:=n5_
      have BK620:=n6_
      have BK621:=n7_
      have BK638:=n8_
      have BK644:=n9_
      have HB:=n10_
      clear n0_ n1_ n2_ n3_ n4_ n5_ n6_ n7_ n8_ n9_ n10_
      (try clear hb)
      (try clear hb2)
      (try clear hk)
      (try clear hi)
      (try clear ho0)
      obtain⟨Ao136,co136,eo136⟩:=Kd.R_slice HO655.out
      (first|subst eo136|(injection eo136 with f1_ f2_ f3_;have f4_:=f1_.symm;have f5_:=f3_.symm;clear f1_ f2_ f3_;subst f4_;subst f5_))
      refine hK.out _ _ ⟨(qab BK644.out 0).trans rfl,(qab BK644.out 1).trans rfl,(qab BK644.out 2).trans rfl,(qab BK621.out 0).trans rfl,(qab BK621.out 1).trans rfl,(qab BK621.out 2).trans rfl⟩ (fun hHeld=>?_)
      clear hK K
      refine norm_ (a':=?_) ?_ ?_
      rotate_left
      ·show Act.put _ (some 42) _=_
       simp only[Act.put,List.setIfInBounds_toArray,List.set_cons_zero,List.set_cons_succ,qas,qat]
       rfl
      refine one_ (i:=3) (N:=some 43) #[true,true,true,true,false] rfl rfl (by kernel_rfl) (by decide) (fun K hK=>?_)
      refine goes_ Try.func42 (by kernel_rfl) rfl #[.agg #[.int .i64 t639,.int .i64 t640,.slice Ao127 t641.length co127],.agg #[.int .i64 t651,.int .i64 t652,.slice Ao136 t653.length co136]] (by rfl) rfl rfl (by(try simp only[List.map_toArray,List.map_cons,List.map_nil]);first|done|rfl|(simp only[List.length_drop,List.length_take];rfl)) ?_
      with_reducible refine(laws_eqRec.calls k t639 t640 _ _ t641 t651 t652 _ _ t653 false _ ?side1 ?side2 ?side3 ?side4 A60.out).mono ?_
      (case side1=>repeat(first|exact(Kd.R_reads' HO643.out).2.2|(with_reducible refine Kd.C_alloc ?_ _)|(with_reducible refine Kd.C_drewN ?_ _)|(with_reducible refine Kd.C_drew ?_)))
      (case side2=>exact(Kd.R_reads' HO643.out).2.1)
      (case side3=>repeat(first|exact(Kd.R_reads' HO655.out).2.2|(with_reducible refine Kd.C_alloc ?_ _)|(with_reducible refine Kd.C_drewN ?_ _)|(with_reducible refine Kd.C_drew ?_)))
      (case side4=>exact(Kd.R_reads' HO655.out).2.1)
      rintro e w137 ⟨rfl,hb⟩
      refine⟨_,rfl,?_⟩
      have n0_:=qal.mk (Kd.R_below (za4 HO627) hb)
      have n1_:=qal.mk (Kd.R_below (za4 HO632) hb)
      have n2_:=qal.mk (Kd.R_below (za4 HO637) hb)
      have n3_:=qal.mk (Kd.R_below (za4 HO643) hb)
      have n4_:=qal.mk (Kd.R_below (za4 HO649) hb)
      have n5_:=qal.mk (Kd.R_below (za4 HO655) hb)
      have n6_:=qal.mk (qac (g:=gb620) (o:=.cells #[.int .i64 a0_0,.slice A0_1 l0_1.length c0_1] 54 (0,0)) (za0 BK620) hb)
      have n7_:=qal.mk (qac (g:=gb621) (o:=.cells #[.int .i64 a1_0,.int .i64 a1_1,.slice A1_2 l1_2.length c1_2] 57 (0,0)) (za0 BK621) hb)
      have n8_:=qal.mk (qac (g:=gb638) (o:=.cells #[.int .i64 t634,.slice Ao119 t635.length co119] 36 (0,0)) (za0 BK638) hb)
      have n9_:=qal.mk (qac (g:=gb644) (o:=.cells #[.int .i64 t639,.int .i64 t640,.slice Ao127 t641.length co127] 62 (0,0)) (za0 BK644) hb)
      have n10_:=qal.mk (qae (za11 HB GE620 GE621 GE638 GE644) hb)
      clear HO627
      clear HO632
      clear HO637
      clear HO643
      clear HO649
      clear HO655
      clear BK620
      clear BK621
      clear BK638
      clear BK644
      clear HB
      have HO627:=n0_
      have HO632:=n1_
      have HO637:=n2_
      have HO643:=n3_
      have HO649:=n4_
      have HO655:=n5_
      have BK620:=n6_
      have BK621:=n7_
      have BK638:=n8_
      have BK644:=n9_
      have HB:=n10_
      clear n0_ n1_ n2_ n3_ n4_ n5_ n6_ n7_ n8_ n9_ n10_
      (try clear hb)
      (try clear hb2)
      (try clear hk)
      (try clear hi)
      refine hK.out _ _ ⟨(qab BK644.out 0).trans rfl,(qab BK644.out 1).trans rfl,(qab BK644.out 2).trans rfl,(qab BK621.out 0).trans rfl,(qab BK621.out 1).trans rfl,(qab BK621.out 2).trans rfl⟩ (fun hHeld=>?_)
      clear hK K
      refine norm_ (a':=?_) ?_ ?_
      rotate_left
      ·show Act.put _ (some 43) _=_
       simp only[Act.put,List.setIfInBounds_toArray,List.set_cons_zero,List.set_cons_succ,qas,qat]
       rfl
      refine qaz (i:=4) (N:=some 44) (v:=?_) (a':=?_) #[true,true,true,true,true] rfl rfl (by kernel_rfl) (fun _ _ _ h=>h) (Or.inl ⟨by rfl,?_⟩) ?_ ?_
      rotate_left
      ·intro w'
       go_simp
       with_reducible rfl
      rotate_left
      ·simp only[Act.put,List.setIfInBounds_toArray,List.set_cons_zero,List.set_cons_succ,qas,qat]
       rfl
      refine done_ (by kernel_rfl) ?_
      try go_wp2
      go_ret
      exact⟨za9,za11 HB GE620 GE621 GE638 GE644⟩
    ·replace c58:=Bool.eq_false_iff.mpr c58
     subst c58
     have H1:(some false)=some r:=by rw[if_neg (show ¬(false=true) by decide)] at H;exact H
     clear H
     have H:=H1
     clear H1
     obtain rfl:=Option.some.inj H
     go_enter Try.func8,Try.ntmps8
     try go_wp2_with(first|((with_reducible refine qak (N:=2) rfl ?_);refine qaj ?hg (N:=2) ?hd (cs:=#[.int .i64 a0_0,.slice A0_1 l0_1.length c0_1]) (t:=54) ?hr ?_;(case hd=>rfl);(case hg=>rfl);(case hr=>first|(go_simp;done)|(go_simp;rfl));intro gb620 hg w138 hbox hb;have n0_:=qal.mk (qae (za2 HB) hb);have n1_:=qal.mk (hbox);have n2_:=qal.mk ((by rw[hg];exact(qad (za2 HB)):w.heap.size≤gb620));have n3_:=qal.mk ((by rw[hg];exact(qad (za2 HB)):w.heap.size≤gb620));clear HB;have HB:=n0_;have BK620:=n1_;have GW620:=n2_;have GE620:=n3_;clear n0_ n1_ n2_ n3_;clear hb hbox hg)|((with_reducible refine qak (N:=3) rfl ?_);refine qaj ?hg (N:=3) ?hd (cs:=#[.int .i64 a1_0,.int .i64 a1_1,.slice A1_2 l1_2.length c1_2]) (t:=57) ?hr ?_;(case hd=>rfl);(case hg=>rfl);(case hr=>first|(go_simp;done)|(go_simp;rfl));intro gb621 hg w139 hbox hb;have n0_:=qal.mk (qac (g:=gb620) (o:=.cells #[.int .i64 a0_0,.slice A0_1 l0_1.length c0_1] 54 (0,0)) (za0 BK620) hb);have n1_:=qal.mk (qae (za1 HB GE620) hb);have n2_:=qal.mk (hbox);have n3_:=qal.mk ((by rw[hg];exact(qad (za1 HB GE620)):w.heap.size≤gb621));have n4_:=qal.mk ((by rw[hg];exact(qad (za1 HB GE620)):w.heap.size≤gb621));have n5_:=qal.mk ((by rw[hg];exact Nat.ne_of_lt (qao (g:=gb620) (o:=.cells #[.int .i64 a0_0,.slice A0_1 l0_1.length c0_1] 54 (0,0)) (za0 BK620)):gb620≠gb621));have n6_:=qal.mk ((by rw[hg];exact Nat.ne_of_gt (qao (g:=gb620) (o:=.cells #[.int .i64 a0_0,.slice A0_1 l0_1.length c0_1] 54 (0,0)) (za0 BK620)):gb621≠gb620));clear BK620;clear HB;have BK620:=n0_;have HB:=n1_;have BK621:=n2_;have GW621:=n3_;have GE621:=n4_;have NB620_621:=n5_;have NB621_620:=n6_;clear n0_ n1_ n2_ n3_ n4_ n5_ n6_;clear hb hbox hg;have hnb140:=NB620_621.out;have hnc140:=NB621_620.out;have hcz141_0:w139.cell? ⟨gb620,0,none⟩=some (.int .i64 a0_0):=(qab BK620.out 0).trans rfl;have hcz141_1:w139.cell? ⟨gb620,1,none⟩=some (.slice A0_1 l0_1.length c0_1):=(qab BK620.out 1).trans rfl;have hfz141_0:=qaa BK620.out 0;have hfz141_1:=qaa BK620.out 1)|((with_reducible refine qai (f:=35) rfl ?_);refine qau (some 12) rfl rfl Try.func35 (by kernel_rfl) rfl #[.agg #[.int .i64 a0_0,.slice A0_1 l0_1.length c0_1],.int .i64 1048576] rfl (by(try simp only[List.map_toArray,List.map_cons,List.map_nil]);first|done|rfl|(simp only[List.length_drop,List.length_take];rfl)) ?_;(with_reducible refine(laws_szStock.calls a0_0 _ _ l0_1 1048576 t622 _ ?side1 ?side2 A3.out).mono ?_);(case side1=>repeat(first|exact(Kd.C_below HR0_1.out HB.out)|(with_reducible refine Kd.C_alloc ?_ _)|(with_reducible refine Kd.C_drewN ?_ _)|(with_reducible refine Kd.C_drew ?_)));(case side2=>exact HC0_1.out);rintro e w142 ⟨rfl,hb⟩;refine⟨_,rfl,?_⟩;have n0_:=qal.mk (qac (g:=gb620) (o:=.cells #[.int .i64 a0_0,.slice A0_1 l0_1.length c0_1] 54 (0,0)) (za0 BK620) hb);have n1_:=qal.mk (qac (g:=gb621) (o:=.cells #[.int .i64 a1_0,.int .i64 a1_1,.slice A1_2 l1_2.length c1_2] 57 (0,0)) (za0 BK621) hb);have n2_:=qal.mk (qae (za3 HB GE620 GE621) hb);clear BK620;clear BK621;clear HB;have BK620:=n0_;have BK621:=n1_;have HB:=n2_;clear n0_ n1_ n2_;(try clear hb);(try clear hb2);(try clear hk);(try clear hi);have hcz143_0:w142.cell? ⟨gb621,0,none⟩=some (.int .i64 a1_0):=(qab BK621.out 0).trans rfl;have hcz143_1:w142.cell? ⟨gb621,1,none⟩=some (.int .i64 a1_1):=(qab BK621.out 1).trans rfl;have hcz143_2:w142.cell? ⟨gb621,2,none⟩=some (.slice A1_2 l1_2.length c1_2):=(qab BK621.out 2).trans rfl;have hfz143_0:=qaa BK621.out 0;have hfz143_1:=qaa BK621.out 1;have hfz143_2:=qaa BK621.out 2)|((with_reducible refine qai (f:=36) rfl ?_);refine qau (some 17) rfl rfl Try.func36 (by kernel_rfl) rfl #[.agg #[.int .i64 a1_0,.int .i64 a1_1,.slice A1_2 l1_2.length c1_2],.int .i64 t622] rfl (by(try simp only[List.map_toArray,List.map_cons,List.map_nil]);first|done|rfl|(simp only[List.length_drop,List.length_take];rfl)) ?_;(with_reducible refine(laws_szRec.calls a1_0 a1_1 _ _ l1_2 t622 t623 _ ?side1 ?side2 A10.out).mono ?_);(case side1=>repeat(first|exact(Kd.C_below HR1_2.out HB.out)|(with_reducible refine Kd.C_alloc ?_ _)|(with_reducible refine Kd.C_drewN ?_ _)|(with_reducible refine Kd.C_drew ?_)));(case side2=>exact HC1_2.out);rintro e w144 ⟨rfl,hb⟩;refine⟨_,rfl,?_⟩;have n0_:=qal.mk (qac (g:=gb620) (o:=.cells #[.int .i64 a0_0,.slice A0_1 l0_1.length c0_1] 54 (0,0)) (za0 BK620) hb);have n1_:=qal.mk (qac (g:=gb621) (o:=.cells #[.int .i64 a1_0,.int .i64 a1_1,.slice A1_2 l1_2.length c1_2] 57 (0,0)) (za0 BK621) hb);have n2_:=qal.mk (qae (za3 HB GE620 GE621) hb);clear BK620;clear BK621;clear HB;have BK620:=n0_;have BK621:=n1_;have HB:=n2_;clear n0_ n1_ n2_;(try clear hb);(try clear hb2);(try clear hk);(try clear hi)))
     have n0_:=qal.mk (qah BK620.out)
     have n1_:=qal.mk (qah BK621.out)
     have n2_:=qal.mk (qaq HB.out)
     clear BK620
     clear BK621
     clear HB
     have BK620:=n0_
     have BK621:=n1_
     have HB:=n2_
     clear n0_ n1_ n2_
     refine start_ (n:=6) (S:=fun w'=>w'.cell? ⟨gb620,0,none⟩=some (.int .i64 a0_0)∧w'.cell? ⟨gb620,1,none⟩=some (.slice A0_1 l0_1.length c0_1)∧w'.cell? ⟨gb621,0,none⟩=some (.int .i64 a1_0)∧w'.cell? ⟨gb621,1,none⟩=some (.int .i64 a1_1)∧w'.cell? ⟨gb621,2,none⟩=some (.slice A1_2 l1_2.length c1_2)) (ds:=[]) #[false,false,false,false,false,false] (by kernel_rfl) rfl rfl ⟨(qab BK620.out 0).trans rfl,(qab BK620.out 1).trans rfl,(qab BK621.out 0).trans rfl,(qab BK621.out 1).trans rfl,(qab BK621.out 2).trans rfl⟩ (fun hHeld=>?_)
     generalize w144.drew=w145 at BK620 BK621 HB hHeld ⊢
     refine take_ (i:=0) (N:=some 20) (v:=?_) (a':=?_) #[true,false,false,false,false,false] rfl rfl (by kernel_rfl) (fun _ _ _ h=>h) (Or.inl ⟨by rfl,?_⟩) hHeld ?_ ?_
     rotate_left
     ·rintro w' ⟨s0,s1,s2,s3,s4⟩
      go_simp
      with_reducible rfl
     rotate_left
     ·simp only[Act.put,List.setIfInBounds_toArray,List.set_cons_zero,List.set_cons_succ,qas,qat]
      rfl
     refine take_ (i:=2) (N:=some 22) (v:=?_) (a':=?_) #[true,false,true,false,false,false] rfl rfl (by kernel_rfl) (fun _ _ _ h=>h) (Or.inl ⟨by rfl,?_⟩) hHeld ?_ ?_
     rotate_left
     ·rintro w' ⟨s0,s1,s2,s3,s4⟩
      go_simp
      with_reducible rfl
     rotate_left
     ·simp only[Act.put,List.setIfInBounds_toArray,List.set_cons_zero,List.set_cons_succ,qas,qat]
      rfl
     refine one_ (i:=1) (N:=some 21) #[true,true,true,false,false,false] rfl rfl (by kernel_rfl) (by decide) (fun K hK=>?_)
     refine goes_ Try.func38 (by kernel_rfl) rfl #[.agg #[.int .i64 a0_0,.slice A0_1 l0_1.length c0_1]] (by rfl) rfl rfl (by(try simp only[List.map_toArray,List.map_cons,List.map_nil]);first|done|rfl|(simp only[List.length_drop,List.length_take];rfl)) ?_
     with_reducible refine(laws_toStock.calls k a0_0 _ _ l0_1 t624 t625 _ ?side1 ?side2 A19.out).mono ?_
     (case side1=>repeat(first|exact(Kd.C_below HR0_1.out HB.out)|(with_reducible refine Kd.C_alloc ?_ _)|(with_reducible refine Kd.C_drewN ?_ _)|(with_reducible refine Kd.C_drew ?_)))
     (case side2=>exact HC0_1.out)
     rintro e w146 ⟨v626,rfl,ho0,hb⟩
     refine⟨_,rfl,?_⟩
     have n0_:=qal.mk (Kd.R_lower ho0 (qad (za3 HB GE620 GE621)))
     have n1_:=qal.mk (qac (g:=gb620) (o:=.cells #[.int .i64 a0_0,.slice A0_1 l0_1.length c0_1] 54 (0,0)) (za0 BK620) hb)
     have n2_:=qal.mk (qac (g:=gb621) (o:=.cells #[.int .i64 a1_0,.int .i64 a1_1,.slice A1_2 l1_2.length c1_2] 57 (0,0)) (za0 BK621) hb)
     have n3_:=qal.mk (qae (za3 HB GE620 GE621) hb)
     clear BK620
     clear BK621
     clear HB
     have HO627:=n0_
     have BK620:=n1_
     have BK621:=n2_
     have HB:=n3_
     clear n0_ n1_ n2_ n3_
     (try clear hb)
     (try clear hb2)
     (try clear hk)
     (try clear hi)
     (try clear ho0)
     refine hK.out _ _ ⟨(qab BK620.out 0).trans rfl,(qab BK620.out 1).trans rfl,(qab BK621.out 0).trans rfl,(qab BK621.out 1).trans rfl,(qab BK621.out 2).trans rfl⟩ (fun hHeld=>?_)
     clear hK K
     refine norm_ (a':=?_) ?_ ?_
     rotate_left
     ·show Act.put _ (some 21) _=_
      simp only[Act.put,List.setIfInBounds_toArray,List.set_cons_zero,List.set_cons_succ,qas,qat]
      rfl
     refine one_ (i:=3) (N:=some 23) #[true,true,true,true,false,false] rfl rfl (by kernel_rfl) (by decide) (fun K hK=>?_)
     refine goes_ Try.func39 (by kernel_rfl) rfl #[.agg #[.int .i64 a1_0,.int .i64 a1_1,.slice A1_2 l1_2.length c1_2]] (by rfl) rfl rfl (by(try simp only[List.map_toArray,List.map_cons,List.map_nil]);first|done|rfl|(simp only[List.length_drop,List.length_take];rfl)) ?_
     with_reducible refine(laws_toRec.calls k a1_0 a1_1 _ _ l1_2 t628 t629 t630 _ ?side1 ?side2 A20.out).mono ?_
     (case side1=>repeat(first|exact(Kd.C_below HR1_2.out HB.out)|(with_reducible refine Kd.C_alloc ?_ _)|(with_reducible refine Kd.C_drewN ?_ _)|(with_reducible refine Kd.C_drew ?_)))
     (case side2=>exact HC1_2.out)
     rintro e w147 ⟨v631,rfl,ho0,hb⟩
     refine⟨_,rfl,?_⟩
     have n0_:=qal.mk (Kd.R_below (za4 HO627) hb)
     have n1_:=qal.mk (Kd.R_lower ho0 (qad (za3 HB GE620 GE621)))
     have n2_:=qal.mk (qac (g:=gb620) (o:=.cells #[.int .i64 a0_0,.slice A0_1 l0_1.length c0_1] 54 (0,0)) (za0 BK620) hb)
     have n3_:=qal.mk (qac (g:=gb621) (o:=.cells #[.int .i64 a1_0,.int .i64 a1_1,.slice A1_2 l1_2.length c1_2] 57 (0,0)) (za0 BK621) hb)
     have n4_:=qal.mk (qae (za3 HB GE620 GE621) hb)
     clear HO627
     clear BK620
     clear BK621
     clear HB
     have HO627:=n0_
     have HO632:=n1_
     have BK620:=n2_
     have BK621:=n3_
     have HB:=n4_
     clear n0_ n1_ n2_ n3_ n4_
     (try clear hb)
     (try clear hb2)
     (try clear hk)
     (try clear hi)
     (try clear ho0)
     obtain⟨Ao148,co148,eo148⟩:=Kd.R_slice HO627.out
     (first|subst eo148|(injection eo148 with f1_ f2_ f3_;have f4_:=f1_.symm;have f5_:=f3_.symm;clear f1_ f2_ f3_;subst f4_;subst f5_))
     obtain⟨Ao149,co149,eo149⟩:=Kd.R_slice HO632.out
     (first|subst eo149|(injection eo149 with f1_ f2_ f3_;have f4_:=f1_.symm;have f5_:=f3_.symm;clear f1_ f2_ f3_;subst f4_;subst f5_))
     refine hK.out _ _ ⟨(qab BK620.out 0).trans rfl,(qab BK620.out 1).trans rfl,(qab BK621.out 0).trans rfl,(qab BK621.out 1).trans rfl,(qab BK621.out 2).trans rfl⟩ (fun hHeld=>?_)
     clear hK K
     refine norm_ (a':=?_) ?_ ?_
     rotate_left
     ·show Act.put _ (some 23) _=_
      simp only[Act.put,List.setIfInBounds_toArray,List.set_cons_zero,List.set_cons_succ,qas,qat]
      rfl
     refine one_ (i:=4) (N:=some 24) #[true,true,true,true,true,false] rfl rfl (by kernel_rfl) (by decide) (fun K hK=>?_)
     refine goes_ Try.func37 (by kernel_rfl) rfl #[.agg #[.int .i64 t624,.slice Ao148 t625.length co148],.agg #[.int .i64 t628,.int .i64 t629,.slice Ao149 t630.length co149]] (by rfl) rfl rfl (by(try simp only[List.map_toArray,List.map_cons,List.map_nil]);first|done|rfl|(simp only[List.length_drop,List.length_take];rfl)) ?_
     with_reducible refine(spec_StockMay.calls k t624 _ _ t625 t628 t629 _ _ t630 t633 _ ?side1 ?side2 ?side3 ?side4 A21.out).mono ?_
     (case side1=>repeat(first|exact(Kd.R_reads' HO627.out).2.2|(with_reducible refine Kd.C_alloc ?_ _)|(with_reducible refine Kd.C_drewN ?_ _)|(with_reducible refine Kd.C_drew ?_)))
     (case side2=>exact(Kd.R_reads' HO627.out).2.1)
     (case side3=>repeat(first|exact(Kd.R_reads' HO632.out).2.2|(with_reducible refine Kd.C_alloc ?_ _)|(with_reducible refine Kd.C_drewN ?_ _)|(with_reducible refine Kd.C_drew ?_)))
     (case side4=>exact(Kd.R_reads' HO632.out).2.1)
     rintro e w150 ⟨rfl,hb⟩
     refine⟨_,rfl,?_⟩
     have n0_:=qal.mk (Kd.R_below (za4 HO627) hb)
     have n1_:=qal.mk (Kd.R_below (za4 HO632) hb)
     have n2_:=qal.mk (qac (g:=gb620) (o:=.cells #[.int .i64 a0_0,.slice A0_1 l0_1.length c0_1] 54 (0,0)) (za0 BK620) hb)
     have n3_:=qal.mk (qac (g:=gb621) (o:=.cells #[.int .i64 a1_0,.int .i64 a1_1,.slice A1_2 l1_2.length c1_2] 57 (0,0)) (za0 BK621) hb)
     have n4_:=qal.mk (qae (za3 HB GE620 GE621) hb)
     clear HO627
     clear HO632
     clear BK620
     clear BK621
     clear HB
     have HO627:=n0_
     have HO632:=n1_
     have BK620:=n2_
     have BK621:=n3_
     have HB:=n4_
     clear n0_ n1_ n2_ n3_ n4_
     (try clear hb)
     (try clear hb2)
     (try clear hk)
     (try clear hi)
     refine hK.out _ _ ⟨(qab BK620.out 0).trans rfl,(qab BK620.out 1).trans rfl,(qab BK621.out 0).trans rfl,(qab BK621.out 1).trans rfl,(qab BK621.out 2).trans rfl⟩ (fun hHeld=>?_)
     clear hK K
     refine norm_ (a':=?_) ?_ ?_
     rotate_left
     ·show Act.put _ (some 24) _=_
      simp only[Act.put,List.setIfInBounds_toArray,List.set_cons_zero,List.set_cons_succ,qas,qat]
      rfl
     refine qaz (i:=5) (N:=some 6) (v:=?_) (a':=?_) #[true,true,true,true,true,true] rfl rfl (by kernel_rfl) (fun _ _ _ h=>h) (Or.inl ⟨by rfl,?_⟩) ?_ ?_
     rotate_left
     ·intro w'
      go_simp
      with_reducible rfl
     rotate_left
     ·simp only[Act.put,List.setIfInBounds_toArray,List.set_cons_zero,List.set_cons_succ,qas,qat]
      rfl
     refine done_ (by kernel_rfl) ?_
     have hcz151_0:w150.cell? ⟨gb620,0,none⟩=some (.int .i64 a0_0):=(qab BK620.out 0).trans rfl
     have hcz151_1:w150.cell? ⟨gb620,1,none⟩=some (.slice A0_1 l0_1.length c0_1):=(qab BK620.out 1).trans rfl
     have hfz151_0:=qaa BK620.out 0
     have hfz151_1:=qaa BK620.out 1
     try go_wp2_with(first|((with_reducible refine qai (f:=38) rfl ?_);refine qau (some 26) rfl rfl Try.func38 (by kernel_rfl) rfl #[.agg #[.int .i64 a0_0,.slice A0_1 l0_1.length c0_1]] rfl (by(try simp only[List.map_toArray,List.map_cons,List.map_nil]);first|done|rfl|(simp only[List.length_drop,List.length_take];rfl)) ?_;(with_reducible refine(laws_toStock.calls k a0_0 _ _ l0_1 t634 t635 _ ?side1 ?side2 A22.out).mono ?_);(case side1=>repeat(first|exact(Kd.C_below HR0_1.out HB.out)|(with_reducible refine Kd.C_alloc ?_ _)|(with_reducible refine Kd.C_drewN ?_ _)|(with_reducible refine Kd.C_drew ?_)));(case side2=>exact HC0_1.out);rintro e w152 ⟨v636,rfl,ho0,hb⟩;refine⟨_,rfl,?_⟩;have n0_:=qal.mk (Kd.R_elder' (za4 HO627) (Kd.R_base ho0) hb);have n1_:=qal.mk (Kd.R_below (za4 HO632) hb);have n2_:=qal.mk (Kd.R_lower (Kd.R_new' ho0 (Kd.R_lt (za4 HO627))) (qad (za3 HB GE620 GE621)));have n3_:=qal.mk (qac (g:=gb620) (o:=.cells #[.int .i64 a0_0,.slice A0_1 l0_1.length c0_1] 54 (0,0)) (za0 BK620) hb);have n4_:=qal.mk (qac (g:=gb621) (o:=.cells #[.int .i64 a1_0,.int .i64 a1_1,.slice A1_2 l1_2.length c1_2] 57 (0,0)) (za0 BK621) hb);have n5_:=qal.mk (qae (za3 HB GE620 GE621) hb);clear HO627;clear HO632;clear BK620;clear BK621;clear HB;have HO627:=n0_;have HO632:=n1_;have HO637:=n2_;have BK620:=n3_;have BK621:=n4_;have HB:=n5_;clear n0_ n1_ n2_ n3_ n4_ n5_;(try clear hb);(try clear hb2);(try clear hk);(try clear hi);(try clear ho0))|((with_reducible refine qak (N:=7) rfl ?_);refine qaj ?hg (N:=7) ?hd (cs:=#[.int .i64 0,.slice none 0 0]) (t:=36) ?hr ?_;(case hd=>rfl);(case hg=>rfl);(case hr=>first|(go_simp;done)|(go_simp;rfl));intro gb638 hg w153 hbox hb;have n0_:=qal.mk (Kd.R_below (za4 HO627) hb);have n1_:=qal.mk (Kd.R_below (za4 HO632) hb);have n2_:=qal.mk (Kd.R_below (za4 HO637) hb);have n3_:=qal.mk (qac (g:=gb620) (o:=.cells #[.int .i64 a0_0,.slice A0_1 l0_1.length c0_1] 54 (0,0)) (za0 BK620) hb);have n4_:=qal.mk (qac (g:=gb621) (o:=.cells #[.int .i64 a1_0,.int .i64 a1_1,.slice A1_2 l1_2.length c1_2] 57 (0,0)) (za0 BK621) hb);have n5_:=qal.mk (qae (za3 HB GE620 GE621) hb);have n6_:=qal.mk (hbox);have n7_:=qal.mk ((by rw[hg];exact(qad (za3 HB GE620 GE621)):w.heap.size≤gb638));have n8_:=qal.mk ((by rw[hg];exact(qad (za3 HB GE620 GE621)):w.heap.size≤gb638));have n9_:=qal.mk ((by rw[hg];exact Nat.ne_of_lt (qao (g:=gb620) (o:=.cells #[.int .i64 a0_0,.slice A0_1 l0_1.length c0_1] 54 (0,0)) (za0 BK620)):gb620≠gb638));have n10_:=qal.mk ((by rw[hg];exact Nat.ne_of_gt (qao (g:=gb620) (o:=.cells #[.int .i64 a0_0,.slice A0_1 l0_1.length c0_1] 54 (0,0)) (za0 BK620)):gb638≠gb620));have n11_:=qal.mk ((by rw[hg];exact Nat.ne_of_lt (qao (g:=gb621) (o:=.cells #[.int .i64 a1_0,.int .i64 a1_1,.slice A1_2 l1_2.length c1_2] 57 (0,0)) (za0 BK621)):gb621≠gb638));have n12_:=qal.mk ((by rw[hg];exact Nat.ne_of_gt (qao (g:=gb621) (o:=.cells #[.int .i64 a1_0,.int .i64 a1_1,.slice A1_2 l1_2.length c1_2] 57 (0,0)) (za0 BK621)):gb638≠gb621));clear HO627;clear HO632;clear HO637;clear BK620;clear BK621;clear HB;have HO627:=n0_;have HO632:=n1_;have HO637:=n2_;have BK620:=n3_;have BK621:=n4_;have HB:=n5_;have BK638:=n6_;have GW638:=n7_;have GE638:=n8_;have NB620_638:=n9_;have NB638_620:=n10_;have NB621_638:=n11_;have NB638_621:=n12_;clear n0_ n1_ n2_ n3_ n4_ n5_ n6_ n7_ n8_ n9_ n10_ n11_ n12_;clear hb hbox hg;have hnb154:=NB638_620.out;have hnc154:=NB620_638.out;have hnb155:=NB638_621.out;have hnc155:=NB621_638.out;have hcz156_0:w153.cell? ⟨gb638,0,none⟩=some (.int .i64 0):=(qab BK638.out 0).trans rfl;have hcz156_1:w153.cell? ⟨gb638,1,none⟩=some (.slice none 0 0):=(qab BK638.out 1).trans rfl;have hfz156_0:=qaa BK638.out 0;have hfz156_1:=qaa BK638.out 1;obtain⟨Ao157,co157,eo157⟩:=Kd.R_slice HO637.out;subst eo157;have hcz158_0:w153.cell? ⟨gb621,0,none⟩=some (.int .i64 a1_0):=(qab BK621.out 0).trans rfl;have hcz158_1:w153.cell? ⟨gb621,1,none⟩=some (.int .i64 a1_1):=(qab BK621.out 1).trans rfl;have hcz158_2:w153.cell? ⟨gb621,2,none⟩=some (.slice A1_2 l1_2.length c1_2):=(qab BK621.out 2).trans rfl;have hfz158_0:=qaa BK621.out 0;have hfz158_1:=qaa BK621.out 1;have hfz158_2:=qaa BK621.out 2)|((with_reducible refine qai (f:=39) rfl ?_);refine qau (some 28) rfl rfl Try.func39 (by kernel_rfl) rfl #[.agg #[.int .i64 a1_0,.int .i64 a1_1,.slice A1_2 l1_2.length c1_2]] rfl (by(try simp only[List.map_toArray,List.map_cons,List.map_nil]);first|done|rfl|(simp only[List.length_drop,List.length_take];rfl)) ?_;(with_reducible refine(laws_toRec.calls k a1_0 a1_1 _ _ l1_2 t639 t640 t641 _ ?side1 ?side2 A23.out).mono ?_);(case side1=>exact Kd.C_below HR1_2.out (za6 HB GE620 GE621 GE638));(case side2=>exact HC1_2.out);rintro e w159 ⟨v642,rfl,ho0,hb⟩;refine⟨_,rfl,?_⟩;have n0_:=qal.mk (Kd.R_below (by(with_reducible repeat(first|apply Kd.R_alloc|apply Kd.R_drewN|apply Kd.R_drew));exact(Kd.R_mono (Kd.R_far (p:=⟨gb638,1,none⟩) (Kd.R_far (p:=⟨gb638,0,none⟩) (Kd.R_types HO627.out BK638.out (by decide)) (fun _ hk=>hk.2) (.int .i64 t634)) (fun _ hk=>hk.2) (.slice Ao157 t635.length co157)) (fun _ h_=>h_.1))) hb);have n1_:=qal.mk (Kd.R_elder' (by(with_reducible repeat(first|apply Kd.R_alloc|apply Kd.R_drewN|apply Kd.R_drew));exact(Kd.R_mono (Kd.R_far (p:=⟨gb638,1,none⟩) (Kd.R_far (p:=⟨gb638,0,none⟩) (Kd.R_types HO632.out BK638.out (by decide)) (fun _ hk=>hk.2) (.int .i64 t634)) (fun _ hk=>hk.2) (.slice Ao157 t635.length co157)) (fun _ h_=>h_.1))) (Kd.R_base ho0) hb);have n2_:=qal.mk (Kd.R_below (by(with_reducible repeat(first|apply Kd.R_alloc|apply Kd.R_drewN|apply Kd.R_drew));exact(Kd.R_mono (Kd.R_far (p:=⟨gb638,1,none⟩) (Kd.R_far (p:=⟨gb638,0,none⟩) (Kd.R_types HO637.out BK638.out (by decide)) (fun _ hk=>hk.2) (.int .i64 t634)) (fun _ hk=>hk.2) (.slice Ao157 t635.length co157)) (fun _ h_=>h_.1))) hb);have n3_:=qal.mk (Kd.R_lower (Kd.R_new' ho0 (Kd.R_lt (by(with_reducible repeat(first|apply Kd.R_alloc|apply Kd.R_drewN|apply Kd.R_drew));exact(Kd.R_mono (Kd.R_far (p:=⟨gb638,1,none⟩) (Kd.R_far (p:=⟨gb638,0,none⟩) (Kd.R_types HO632.out BK638.out (by decide)) (fun _ hk=>hk.2) (.int .i64 t634)) (fun _ hk=>hk.2) (.slice Ao157 t635.length co157)) (fun _ h_=>h_.1))))) (qad (za6 HB GE620 GE621 GE638)));have n4_:=qal.mk (qac (g:=gb620) (o:=.cells #[.int .i64 a0_0,.slice A0_1 l0_1.length c0_1] 54 (0,0)) (za5 NB620_638 BK620) hb);have n5_:=qal.mk (qac (g:=gb621) (o:=.cells #[.int .i64 a1_0,.int .i64 a1_1,.slice A1_2 l1_2.length c1_2] 57 (0,0)) (za5 NB621_638 BK621) hb);have n6_:=qal.mk (qac (g:=gb638) (o:=.cells #[.int .i64 t634,.slice Ao157 t635.length co157] 36 (0,0)) (by(with_reducible repeat(first|refine qag ?_ _|refine qah ?_|refine qaf ?_ _));refine qan (cs:=#[.int .i64 t634,.slice none 0 0]) ?_ 1 _ rfl;(with_reducible repeat(first|refine qag ?_ _|refine qah ?_|refine qaf ?_ _));refine qan (cs:=#[.int .i64 0,.slice none 0 0]) ?_ 0 _ rfl;(with_reducible repeat(first|refine qag ?_ _|refine qah ?_|refine qaf ?_ _));exact BK638.out) hb);have n7_:=qal.mk (qae (za6 HB GE620 GE621 GE638) hb);clear HO627;clear HO632;clear HO637;clear BK620;clear BK621;clear BK638;clear HB;have HO627:=n0_;have HO632:=n1_;have HO637:=n2_;have HO643:=n3_;have BK620:=n4_;have BK621:=n5_;have BK638:=n6_;have HB:=n7_;clear n0_ n1_ n2_ n3_ n4_ n5_ n6_ n7_;(try clear hb);(try clear hb2);(try clear hk);(try clear hi);(try clear ho0))|((with_reducible refine qak (N:=8) rfl ?_);refine qaj ?hg (N:=8) ?hd (cs:=#[.int .i64 0,.int .i64 0,.slice none 0 0]) (t:=62) ?hr ?_;(case hd=>rfl);(case hg=>rfl);(case hr=>first|(go_simp;done)|(go_simp;rfl));intro gb644 hg w160 hbox hb;have n0_:=qal.mk (Kd.R_below (za4 HO627) hb);have n1_:=qal.mk (Kd.R_below (za4 HO632) hb);have n2_:=qal.mk (Kd.R_below (za4 HO637) hb);have n3_:=qal.mk (Kd.R_below (za4 HO643) hb);have n4_:=qal.mk (qac (g:=gb620) (o:=.cells #[.int .i64 a0_0,.slice A0_1 l0_1.length c0_1] 54 (0,0)) (za0 BK620) hb);have n5_:=qal.mk (qac (g:=gb621) (o:=.cells #[.int .i64 a1_0,.int .i64 a1_1,.slice A1_2 l1_2.length c1_2] 57 (0,0)) (za0 BK621) hb);have n6_:=qal.mk (qac (g:=gb638) (o:=.cells #[.int .i64 t634,.slice Ao157 t635.length co157] 36 (0,0)) (za0 BK638) hb);have n7_:=qal.mk (qae (za6 HB GE620 GE621 GE638) hb);have n8_:=qal.mk (hbox);have n9_:=qal.mk ((by rw[hg];exact(qad (za6 HB GE620 GE621 GE638)):w.heap.size≤gb644));have n10_:=qal.mk ((by rw[hg];exact(qad (za6 HB GE620 GE621 GE638)):w.heap.size≤gb644));have n11_:=qal.mk ((by rw[hg];exact Nat.ne_of_lt (qao (g:=gb620) (o:=.cells #[.int .i64 a0_0,.slice A0_1 l0_1.length c0_1] 54 (0,0)) (za0 BK620)):gb620≠gb644));have n12_:=qal.mk ((by rw[hg];exact Nat.ne_of_gt (qao (g:=gb620) (o:=.cells #[.int .i64 a0_0,.slice A0_1 l0_1.length c0_1] 54 (0,0)) (za0 BK620)):gb644≠gb620));have n13_:=qal.mk ((by rw[hg];exact Nat.ne_of_lt (qao (g:=gb621) (o:=.cells #[.int .i64 a1_0,.int .i64 a1_1,.slice A1_2 l1_2.length c1_2] 57 (0,0)) (za0 BK621)):gb621≠gb644));have n14_:=qal.mk ((by rw[hg];exact Nat.ne_of_gt (qao (g:=gb621) (o:=.cells #[.int .i64 a1_0,.int .i64 a1_1,.slice A1_2 l1_2.length c1_2] 57 (0,0)) (za0 BK621)):gb644≠gb621));have n15_:=qal.mk ((by rw[hg];exact Nat.ne_of_lt (qao (g:=gb638) (o:=.cells #[.int .i64 t634,.slice Ao157 t635.length co157] 36 (0,0)) (za0 BK638)):gb638≠gb644));have n16_:=qal.mk ((by rw[hg];exact Nat.ne_of_gt (qao (g:=gb638) (o:=.cells #[.int .i64 t634,.slice Ao157 t635.length co157] 36 (0,0)) (za0 BK638)):gb644≠gb638));clear HO627;clear HO632;clear HO637;clear HO643;clear BK620;clear BK621;clear BK638;clear HB;have HO627:=n0_;have HO632:=n1_;have HO637:=n2_;have HO643:=n3_;have BK620:=n4_;have BK621:=n5_;have BK638:=n6_;have HB:=n7_;have BK644:=n8_;have GW644:=n9_;have GE644:=n10_;have NB620_644:=n11_;have NB644_620:=n12_;have NB621_644:=n13_;have NB644_621:=n14_;have NB638_644:=n15_;have NB644_638:=n16_;clear n0_ n1_ n2_ n3_ n4_ n5_ n6_ n7_ n8_ n9_ n10_ n11_ n12_ n13_ n14_ n15_ n16_;clear hb hbox hg;have hnb161:=NB644_620.out;have hnc161:=NB620_644.out;have hnb162:=NB644_621.out;have hnc162:=NB621_644.out;have hnb163:=NB644_638.out;have hnc163:=NB638_644.out;have hcz164_0:w160.cell? ⟨gb644,0,none⟩=some (.int .i64 0):=(qab BK644.out 0).trans rfl;have hcz164_1:w160.cell? ⟨gb644,1,none⟩=some (.int .i64 0):=(qab BK644.out 1).trans rfl;have hcz164_2:w160.cell? ⟨gb644,2,none⟩=some (.slice none 0 0):=(qab BK644.out 2).trans rfl;have hfz164_0:=qaa BK644.out 0;have hfz164_1:=qaa BK644.out 1;have hfz164_2:=qaa BK644.out 2;obtain⟨Ao165,co165,eo165⟩:=Kd.R_slice HO643.out;subst eo165;have hcz166_0:w160.cell? ⟨gb638,0,none⟩=some (.int .i64 t634):=(qab BK638.out 0).trans rfl;have hcz166_1:w160.cell? ⟨gb638,1,none⟩=some (.slice Ao157 t635.length co157):=(qab BK638.out 1).trans rfl;have hfz166_0:=qaa BK638.out 0;have hfz166_1:=qaa BK638.out 1)|((with_reducible refine qai (f:=40) rfl ?_);refine qau (some 31) rfl rfl Try.func40 (by kernel_rfl) rfl #[.agg #[.int .i64 t634,.slice Ao157 t635.length co157],.agg #[.int .i64 t639,.int .i64 t640,.slice Ao165 t641.length co165]] rfl (by(try simp only[List.map_toArray,List.map_cons,List.map_nil]);first|done|rfl|(simp only[List.length_drop,List.length_take];rfl)) ?_;(with_reducible refine(impl_StockMay.calls k t634 _ _ t635 t639 t640 _ _ t641 t645 _ ?side1 ?side2 ?side3 ?side4 A24.out).mono ?_);(case side1=>refine(Kd.R_reads' (e:=46) (base:=w.heap.size) (ok:=fun k_=>(True∧some k_≠(.slice Ao148 t625.length co148:Value).ownBlock)) (n:=t635.length) (c:=co157) ?_).2.2;exact(by(with_reducible repeat(first|apply Kd.R_alloc|apply Kd.R_drewN|apply Kd.R_drew));exact(Kd.R_mono (Kd.R_far (p:=⟨gb644,2,none⟩) (Kd.R_far (p:=⟨gb644,1,none⟩) (Kd.R_far (p:=⟨gb644,0,none⟩) (Kd.R_types HO637.out BK644.out (by decide)) (fun _ hk=>hk.2) (.int .i64 t639)) (fun _ hk=>hk.2) (.int .i64 t640)) (fun _ hk=>hk.2) (.slice Ao165 t641.length co165)) (fun _ h_=>h_.1))));(case side2=>exact(Kd.R_reads' HO637.out).2.1);(case side3=>refine(Kd.R_reads' (e:=3) (base:=w.heap.size) (ok:=fun k_=>(True∧some k_≠(.slice Ao149 t630.length co149:Value).ownBlock)) (n:=t641.length) (c:=co165) ?_).2.2;exact(by(with_reducible repeat(first|apply Kd.R_alloc|apply Kd.R_drewN|apply Kd.R_drew));exact(Kd.R_mono (Kd.R_far (p:=⟨gb644,2,none⟩) (Kd.R_far (p:=⟨gb644,1,none⟩) (Kd.R_far (p:=⟨gb644,0,none⟩) (Kd.R_types HO643.out BK644.out (by decide)) (fun _ hk=>hk.2) (.int .i64 t639)) (fun _ hk=>hk.2) (.int .i64 t640)) (fun _ hk=>hk.2) (.slice Ao165 t641.length co165)) (fun _ h_=>h_.1))));(case side4=>exact(Kd.R_reads' HO643.out).2.1);rintro e w167 ⟨rfl,hb⟩;refine⟨_,rfl,?_⟩;have n0_:=qal.mk (Kd.R_below (by(with_reducible repeat(first|apply Kd.R_alloc|apply Kd.R_drewN|apply Kd.R_drew));exact(Kd.R_mono (Kd.R_far (p:=⟨gb644,2,none⟩) (Kd.R_far (p:=⟨gb644,1,none⟩) (Kd.R_far (p:=⟨gb644,0,none⟩) (Kd.R_types HO627.out BK644.out (by decide)) (fun _ hk=>hk.2) (.int .i64 t639)) (fun _ hk=>hk.2) (.int .i64 t640)) (fun _ hk=>hk.2) (.slice Ao165 t641.length co165)) (fun _ h_=>h_.1))) hb);have n1_:=qal.mk (Kd.R_below (by(with_reducible repeat(first|apply Kd.R_alloc|apply Kd.R_drewN|apply Kd.R_drew));exact(Kd.R_mono (Kd.R_far (p:=⟨gb644,2,none⟩) (Kd.R_far (p:=⟨gb644,1,none⟩) (Kd.R_far (p:=⟨gb644,0,none⟩) (Kd.R_types HO632.out BK644.out (by decide)) (fun _ hk=>hk.2) (.int .i64 t639)) (fun _ hk=>hk.2) (.int .i64 t640)) (fun _ hk=>hk.2) (.slice Ao165 t641.length co165)) (fun _ h_=>h_.1))) hb);have n2_:=qal.mk (Kd.R_below (by(with_reducible repeat(first|apply Kd.R_alloc|apply Kd.R_drewN|apply Kd.R_drew));exact(Kd.R_mono (Kd.R_far (p:=⟨gb644,2,none⟩) (Kd.R_far (p:=⟨gb644,1,none⟩) (Kd.R_far (p:=⟨gb644,0,none⟩) (Kd.R_types HO637.out BK644.out (by decide)) (fun _ hk=>hk.2) (.int .i64 t639)) (fun _ hk=>hk.2) (.int .i64 t640)) (fun _ hk=>hk.2) (.slice Ao165 t641.length co165)) (fun _ h_=>h_.1))) hb);have n3_:=qal.mk (Kd.R_below (by(with_reducible repeat(first|apply Kd.R_alloc|apply Kd.R_drewN|apply Kd.R_drew));exact(Kd.R_mono (Kd.R_far (p:=⟨gb644,2,none⟩) (Kd.R_far (p:=⟨gb644,1,none⟩) (Kd.R_far (p:=⟨gb644,0,none⟩) (Kd.R_types HO643.out BK644.out (by decide)) (fun _ hk=>hk.2) (.int .i64 t639)) (fun _ hk=>hk.2) (.int .i64 t640)) (fun _ hk=>hk.2) (.slice Ao165 t641.length co165)) (fun _ h_=>h_.1))) hb);have n4_:=qal.mk (qac (g:=gb620) (o:=.cells #[.int .i64 a0_0,.slice A0_1 l0_1.length c0_1] 54 (0,0)) (za7 NB620_644 BK620) hb);have n5_:=qal.mk (qac (g:=gb621) (o:=.cells #[.int .i64 a1_0,.int .i64 a1_1,.slice A1_2 l1_2.length c1_2] 57 (0,0)) (za7 NB621_644 BK621) hb);have n6_:=qal.mk (qac (g:=gb638) (o:=.cells #[.int .i64 t634,.slice Ao157 t635.length co157] 36 (0,0)) (za7 NB638_644 BK638) hb);have n7_:=qal.mk (qac (g:=gb644) (o:=.cells #[.int .i64 t639,.int .i64 t640,.slice Ao165 t641.length co165] 62 (0,0)) (by(with_reducible repeat(first|refine qag ?_ _|refine qah ?_|refine qaf ?_ _));refine qan (cs:=#[.int .i64 t639,.int .i64 t640,.slice none 0 0]) ?_ 2 _ rfl;(with_reducible repeat(first|refine qag ?_ _|refine qah ?_|refine qaf ?_ _));refine qan (cs:=#[.int .i64 t639,.int .i64 0,.slice none 0 0]) ?_ 1 _ rfl;(with_reducible repeat(first|refine qag ?_ _|refine qah ?_|refine qaf ?_ _));refine qan (cs:=#[.int .i64 0,.int .i64 0,.slice none 0 0]) ?_ 0 _ rfl;(with_reducible repeat(first|refine qag ?_ _|refine qah ?_|refine qaf ?_ _));exact BK644.out) hb);have n8_:=qal.mk (qae (za11 HB GE620 GE621 GE638 GE644) hb);clear HO627;clear HO632;clear HO637;clear HO643;clear BK620;clear BK621;clear BK638;clear BK644;clear HB;have HO627:=n0_;have HO632:=n1_;have HO637:=n2_;have HO643:=n3_;have BK620:=n4_;have BK621:=n5_;have BK638:=n6_;have BK644:=n7_;have HB:=n8_;clear n0_ n1_ n2_ n3_ n4_ n5_ n6_ n7_ n8_;(try clear hb);(try clear hb2);(try clear hk);(try clear hi)))
     have n0_:=qal.mk (Kd.R_drew HO627.out)
     have n1_:=qal.mk (Kd.R_drew HO632.out)
     have n2_:=qal.mk (Kd.R_drew HO637.out)
     have n3_:=qal.mk (Kd.R_drew HO643.out)
     have n4_:=qal.mk (qah BK620.out)
     have n5_:=qal.mk (qah BK621.out)
     have n6_:=qal.mk (qah BK638.out)
     have n7_:=qal.mk (qah BK644.out)
     have n8_:=qal.mk (qaq HB.out)
     clear HO627
     clear HO632
     clear HO637
     clear HO643
     clear BK620
     clear BK621
     clear BK638
     clear BK644
     clear HB
     have HO627:=n0_
     have HO632:=n1_
     have HO637:=n2_
     have HO643:=n3_
     have BK620:=n4_
     have BK621:=n5_
     have BK638:=n6_
     have BK644:=n7_
     have HB:=n8_
     clear n0_ n1_ n2_ n3_ n4_ n5_ n6_ n7_ n8_
     refine start_ (n:=5) (S:=fun w'=>w'.cell? ⟨gb638,0,none⟩=some (.int .i64 t634)∧w'.cell? ⟨gb638,1,none⟩=some (.slice Ao157 t635.length co157)∧w'.cell? ⟨gb620,0,none⟩=some (.int .i64 a0_0)∧w'.cell? ⟨gb620,1,none⟩=some (.slice A0_1 l0_1.length c0_1)) (ds:=[]) #[false,false,false,false,false] (by kernel_rfl) rfl rfl ⟨(qab BK638.out 0).trans rfl,(qab BK638.out 1).trans rfl,(qab BK620.out 0).trans rfl,(qab BK620.out 1).trans rfl⟩ (fun hHeld=>?_)
     generalize w167.drew=w168 at HO627 HO632 HO637 HO643 BK620 BK621 BK638 BK644 HB hHeld ⊢
     refine take_ (i:=0) (N:=some 35) (v:=?_) (a':=?_) #[true,false,false,false,false] rfl rfl (by kernel_rfl) (fun _ _ _ h=>h) (Or.inl ⟨by rfl,?_⟩) hHeld ?_ ?_
     rotate_left
     ·rintro w' ⟨s0,s1,s2,s3⟩
      go_simp
      with_reducible rfl
     rotate_left
     ·simp only[Act.put,List.setIfInBounds_toArray,List.set_cons_zero,List.set_cons_succ,qas,qat]
      rfl
     refine take_ (i:=1) (N:=some 36) (v:=?_) (a':=?_) #[true,true,false,false,false] rfl rfl (by kernel_rfl) (fun _ _ _ h=>h) (Or.inl ⟨by rfl,?_⟩) hHeld ?_ ?_
     rotate_left
     ·rintro w' ⟨s0,s1,s2,s3⟩
      go_simp
      with_reducible rfl
     rotate_left
     ·simp only[Act.put,List.setIfInBounds_toArray,List.set_cons_zero,List.set_cons_succ,qas,qat]
      rfl
     refine one_ (i:=2) (N:=some 37) #[true,true,true,false,false] rfl rfl (by kernel_rfl) (by decide) (fun K hK=>?_)
     refine goes_ Try.func38 (by kernel_rfl) rfl #[.agg #[.int .i64 a0_0,.slice A0_1 l0_1.length c0_1]] (by rfl) rfl rfl (by(try simp only[List.map_toArray,List.map_cons,List.map_nil]);first|done|rfl|(simp only[List.length_drop,List.length_take];rfl)) ?_
     with_reducible refine(laws_toStock.calls k a0_0 _ _ l0_1 t646 t647 _ ?side1 ?side2 A56.out).mono ?_
     (case side1=>repeat(first|exact(Kd.C_below HR0_1.out HB.out)|(with_reducible refine Kd.C_alloc ?_ _)|(with_reducible refine Kd.C_drewN ?_ _)|(with_reducible refine Kd.C_drew ?_)))
     (case side2=>exact HC0_1.out)
     rintro e w169 ⟨v648,rfl,ho0,hb⟩
     refine⟨_,rfl,?_⟩
     have n0_:=qal.mk (Kd.R_elder' (za4 HO627) (Kd.R_base ho0) hb)
     have n1_:=qal.mk (Kd.R_below (za4 HO632) hb)
     have n2_:=qal.mk (Kd.R_elder' (za4 HO637) (Kd.R_base ho0) hb)
     have n3_:=qal.mk (Kd.R_below (za4 HO643) hb)
     have n4_:=qal.mk (Kd.R_lower (Kd.R_new' (Kd.R_new' ho0 (Kd.R_lt (za4 HO627))) (Kd.R_lt (za4 HO637))) (qad (za11 HB GE620 GE621 GE638 GE644)))
     have n5_:=qal.mk (qac (g:=gb620) (o:=.cells #[.int .i64 a0_0,.slice A0_1 l0_1.length c0_1] 54 (0,0)) (za0 BK620) hb)
     have n6_:=qal.mk (qac (g:=gb621) (o:=.cells #[.int .i64 a1_0,.int .i64 a1_1,.slice A1_2 l1_2.length c1_2] 57 (0,0)) (za0 BK621) hb)
     have n7_:=qal.mk (qac (g:=gb638) (o:=.cells #[.int .i64 t634,.slice Ao157 t635.length co157] 36 (0,0)) (za0 BK638) hb)
     have n8_:=qal.mk (qac (g:=gb644) (o:=.cells #[.int .i64 t639,.int .i64 t640,.slice Ao165 t641.length co165] 62 (0,0)) (za0 BK644) hb)
     have n9_:=qal.mk (qae (za11 HB GE620 GE621 GE638 GE644) hb)
     clear HO627
     clear HO632
     clear HO637
     clear HO643
     clear BK620
     clear BK621
     clear BK638
     clear BK644
     clear HB
     have HO627:=n0_
     have HO632:=n1_
     have HO637:=n2_
     have HO643:=n3_
     have HO649:=n4_
     have BK620:=n5_
     have BK621:=n6_
     have BK638:=n7_
     have BK644:=n8_
     have HB:=n9_
     clear n0_ n1_ n2_ n3_ n4_ n5_ n6_ n7_ n8_ n9_
     (try clear hb)
     (try clear hb2)
     (try clear hk)
     (try clear hi)
     (try clear ho0)
     obtain⟨Ao170,co170,eo170⟩:=Kd.R_slice HO649.out
     (first|subst eo170|(injection eo170 with f1_ f2_ f3_;have f4_:=f1_.symm;have f5_:=f3_.symm;clear f1_ f2_ f3_;subst f4_;subst f5_))
     refine hK.out _ _ ⟨(qab BK638.out 0).trans rfl,(qab BK638.out 1).trans rfl,(qab BK620.out 0).trans rfl,(qab BK620.out 1).trans rfl⟩ (fun hHeld=>?_)
     clear hK K
     refine norm_ (a':=?_) ?_ ?_
     rotate_left
     ·show Act.put _ (some 37) _=_
      simp only[Act.put,List.setIfInBounds_toArray,List.set_cons_zero,List.set_cons_succ,qas,qat]
      rfl
     refine one_ (i:=3) (N:=some 38) #[true,true,true,true,false] rfl rfl (by kernel_rfl) (by decide) (fun K hK=>?_)
     refine goes_ Try.func41 (by kernel_rfl) rfl #[.agg #[.int .i64 t634,.slice Ao157 t635.length co157],.agg #[.int .i64 t646,.slice Ao170 t647.length co170]] (by rfl) rfl rfl (by(try simp only[List.map_toArray,List.map_cons,List.map_nil]);first|done|rfl|(simp only[List.length_drop,List.length_take];rfl)) ?_
     with_reducible refine(laws_eqStock.calls k t634 _ _ t635 t646 _ _ t647 false _ ?side1 ?side2 ?side3 ?side4 A57.out).mono ?_
     (case side1=>repeat(first|exact(Kd.R_reads' HO637.out).2.2|(with_reducible refine Kd.C_alloc ?_ _)|(with_reducible refine Kd.C_drewN ?_ _)|(with_reducible refine Kd.C_drew ?_)))
     (case side2=>exact(Kd.R_reads' HO637.out).2.1)
     (case side3=>repeat(first|exact(Kd.R_reads' HO649.out).2.2|(with_reducible refine Kd.C_alloc ?_ _)|(with_reducible refine Kd.C_drewN ?_ _)|(with_reducible refine Kd.C_drew ?_)))
     (case side4=>exact(Kd.R_reads' HO649.out).2.1)
     rintro e w171 ⟨rfl,hb⟩
     refine⟨_,rfl,?_⟩
     have n0_:=qal.mk (Kd.R_below (za4 HO627) hb)
     have n1_:=qal.mk (Kd.R_below (za4 HO632) hb)
     have n2_:=qal.mk (Kd.R_below (za4 HO637) hb)
     have n3_:=qal.mk (Kd.R_below (za4 HO643) hb)
     have n4_:=qal.mk (Kd.R_below (za4 HO649) hb)
     have n5_:=qal.mk (qac (g:=gb620) (o:=.cells #[.int .i64 a0_0,.slice A0_1 l0_1.length c0_1] 54 (0,0)) (za0 BK620) hb)
     have n6_:=qal.mk (qac (g:=gb621) (o:=.cells #[.int .i64 a1_0,.int .i64 a1_1,.slice A1_2 l1_2.length c1_2] 57 (0,0)) (za0 BK621) hb)
     have n7_:=qal.mk (qac (g:=gb638) (o:=.cells #[.int .i64 t634,.slice Ao157 t635.length co157] 36 (0,0)) (za0 BK638) hb)
     have n8_:=qal.mk (qac (g:=gb644) (o:=.cells #[.int .i64 t639,.int .i64 t640,.slice Ao165 t641.length co165] 62 (0,0)) (za0 BK644) hb)
     have n9_:=qal.mk (qae (za11 HB GE620 GE621 GE638 GE644) hb)
     clear HO627
     clear HO632
     clear HO637
     clear HO643
     clear HO649
     clear BK620
     clear BK621
     clear BK638
     clear BK644
     clear HB
     have HO627:=n0_
     have HO632:=n1_
     have HO637:=n2_
     have HO643:=n3_
     have HO649:=n4_
     have BK620:=n5_
     have BK621:=n6_
     have BK638:=n7_
     have BK644:=n8_
     have HB:=n9_
     clear n0_ n1_ n2_ n3_ n4_ n5_ n6_ n7_ n8_ n9_
     (try clear hb)
     (try clear hb2)
     (try clear hk)
     (try clear hi)
     refine hK.out _ _ ⟨(qab BK638.out 0).trans rfl,(qab BK638.out 1).trans rfl,(qab BK620.out 0).trans rfl,(qab BK620.out 1).trans rfl⟩ (fun hHeld=>?_)
     clear hK K
     refine norm_ (a':=?_) ?_ ?_
     rotate_left
     ·show Act.put _ (some 38) _=_
      simp only[Act.put,List.setIfInBounds_toArray,List.set_cons_zero,List.set_cons_succ,qas,qat]
      rfl
     refine qaz (i:=4) (N:=some 39) (v:=?_) (a':=?_) #[true,true,true,true,true] rfl rfl (by kernel_rfl) (fun _ _ _ h=>h) (Or.inl ⟨by rfl,?_⟩) ?_ ?_
     rotate_left
     ·intro w'
      go_simp
      with_reducible rfl
     rotate_left
     ·simp only[Act.put,List.setIfInBounds_toArray,List.set_cons_zero,List.set_cons_succ,qas,qat]
      rfl
     refine done_ (by kernel_rfl) ?_
     try go_wp2
     go_ret
     exact⟨za9,za11 HB GE620 GE621 GE638 GE644⟩
end Go.Proofs.Ytjccnaklodbbfaa.Print
