-- Written by squeeze.py, a program of this session, out of what print.sh and myprint.py had printed: cut to what is used, narrowed. Not trusted, Lean checks it.
import Derived.Test.YtjccnaklodbbfaaZK
import Derived.Test.YtjccnaklodbbfaaZl0
import Derived.Test.YtjccnaklodbbfaaZl1
import Derived.Test.YtjccnaklodbbfaaZm0
namespace Go.Proofs.Ytjccnaklodbbfaa.Print
open Go.RowKit Go.Proofs.YtjccnaklodbbfaaW.PrintWords Go.Proofs.YtjccnaklodbbfaaW.PrintLast Go.Proofs.YtjccnaklodbbfaaW.PrintMore
attribute [local go_sem] max2_int min2_int max_two min_two max_three min_three max_four min_four
set_option linter.unusedVariables false
set_option linter.unusedSimpArgs false
def spec_StockMay.f (k:Nat) (a0_0:Int) (l0_1:List (S46)) (a1_0:Int) (a1_1:Int) (l1_2:List Int):Option (Bool):=(spec_StockOk.f k a0_0 l0_1).bind fun t311=>(if t311=true then((spec_RecOk.f k a1_0 a1_1 l1_2).bind fun t312=>(if t312=true then((spec_l2May.f k a0_0 l0_1 a1_0 a1_1 l1_2).bind fun t313=>(some t313)) else(some false))) else(some false))
theorem spec_StockMay.mono:∀a0 a1 a2 a3 a4 k,LeO (spec_StockMay.f k a0 a1 a2 a3 a4) (spec_StockMay.f (k+1) a0 a1 a2 a3 a4):=by
 intro a0 a1 a2 a3 a4 k
 unfold spec_StockMay.f
 repeat' first
   |(with_reducible exact spec_RecOk.mono _ _ _ _)
   |(with_reducible exact spec_StockOk.mono _ _ _)
   |(with_reducible exact spec_l2May.mono _ _ _ _ _ _)
   |(with_reducible exact LeO.refl _)
   |(with_reducible exact LeO.none _)
   |(with_reducible refine LeO.ite ?_ ?_)
   |(with_reducible refine LeO.bind ?_ (fun _=>?_))
   |exact spec_RecOk.mono _ _ _ _
   |exact spec_StockOk.mono _ _ _
   |exact spec_l2May.mono _ _ _ _ _ _
   |exact LeO.none _
   |refine LeO.ite ?_ ?_
   |refine LeO.bind ?_ (fun _=>?_)
set_option maxHeartbeats 8000000 in
set_option maxRecDepth 100000 in
theorem spec_StockMay.calls (k:Nat) (a0_0:Int) (A0_1:Option Addr) (c0_1:Nat) (l0_1:List (S46)) (a1_0:Int) (a1_1:Int) (A1_2:Option Addr) (c1_2:Nat) (l1_2:List Int) (r:Bool) (w:World) (hr0_1:Kd.C k46 w A0_1 l0_1.length l0_1) (hc0_1:l0_1.length≤c0_1) (hr1_2:Kd.C (Kd.int .i64) w A1_2 l1_2.length l1_2) (hc1_2:l1_2.length≤c1_2) (h:spec_StockMay.f k a0_0 l0_1 a1_0 a1_1 l1_2=some r) :
  Calls Try.prog 37 #[.agg #[.int .i64 a0_0,.slice A0_1 l0_1.length c0_1],.agg #[.int .i64 a1_0,.int .i64 a1_1,.slice A1_2 l1_2.length c1_2]] w fun e w'=>e=.returned (.bool r)∧Below w.heap.size w w':=by
 have hu36:=Try.underlying36
 have hu62:=Try.underlying62
 have HR0_1:=qal.mk hr0_1
 have HC0_1:=qal.mk hc0_1
 clear hr0_1 hc0_1
 have HR1_2:=qal.mk hr1_2
 have HC1_2:=qal.mk hc1_2
 clear hr1_2 hc1_2
 have HB:=qal.mk (Below.refl w.heap.size w)
 have H:((spec_StockOk.f k a0_0 l0_1).bind fun t311=>(if t311=true then((spec_RecOk.f k a1_0 a1_1 l1_2).bind fun t312=>(if t312=true then((spec_l2May.f k a0_0 l0_1 a1_0 a1_1 l1_2).bind fun t313=>(some t313)) else(some false))) else(some false)))=some r:=h
 clear h
 replace H:=Option.bind_eq_some_iff.mp H
 obtain⟨t311,A30,H⟩:=H
 replace H:(if t311=true then((spec_RecOk.f k a1_0 a1_1 l1_2).bind fun t312=>(if t312=true then((spec_l2May.f k a0_0 l0_1 a1_0 a1_1 l1_2).bind fun t313=>(some t313)) else(some false))) else(some false))=some r:=H
 have A3:=qal.mk A30
 clear A30
 by_cases c4:t311=true
 ·subst c4
  have H1:((spec_RecOk.f k a1_0 a1_1 l1_2).bind fun t312=>(if t312=true then((spec_l2May.f k a0_0 l0_1 a1_0 a1_1 l1_2).bind fun t313=>(some t313)) else(some false)))=some r:=by rw[if_pos rfl] at H;exact H
  clear H
  have H:=H1
  clear H1
  replace H:=Option.bind_eq_some_iff.mp H
  obtain⟨t312,A50,H⟩:=H
  replace H:(if t312=true then((spec_l2May.f k a0_0 l0_1 a1_0 a1_1 l1_2).bind fun t313=>(some t313)) else(some false))=some r:=H
  have A5:=qal.mk A50
  clear A50
  by_cases c6:t312=true
  ·subst c6
   have H1:((spec_l2May.f k a0_0 l0_1 a1_0 a1_1 l1_2).bind fun t313=>(some t313))=some r:=by rw[if_pos rfl] at H;exact H
   clear H
   have H:=H1
   clear H1
   replace H:=Option.bind_eq_some_iff.mp H
   obtain⟨t313,A70,H⟩:=H
   replace H:(some t313)=some r:=H
   have A7:=qal.mk A70
   clear A70
   obtain rfl:=Option.some.inj H
   go_enter Try.func37,Try.ntmps37
   go_wp2_with(first|((with_reducible refine qak (N:=2) rfl ?_);refine qaj ?hg (N:=2) ?hd (cs:=#[.int .i64 a0_0,.slice A0_1 l0_1.length c0_1]) (t:=36) ?hr ?_;(case hd=>rfl);(case hg=>rfl);(case hr=>first|(go_simp;done)|(go_simp;rfl));intro gb309 hg w8 hbox hb;have n0_:=qal.mk (qae (za2 HB) hb);have n1_:=qal.mk (hbox);have n2_:=qal.mk ((by rw[hg];exact(qad (za2 HB)):w.heap.size≤gb309));have n3_:=qal.mk ((by rw[hg];exact(qad (za2 HB)):w.heap.size≤gb309));clear HB;have HB:=n0_;have BK309:=n1_;have GW309:=n2_;have GE309:=n3_;clear n0_ n1_ n2_ n3_;clear hb hbox hg)|((with_reducible refine qak (N:=3) rfl ?_);refine qaj ?hg (N:=3) ?hd (cs:=#[.int .i64 a1_0,.int .i64 a1_1,.slice A1_2 l1_2.length c1_2]) (t:=62) ?hr ?_;(case hd=>rfl);(case hg=>rfl);(case hr=>first|(go_simp;done)|(go_simp;rfl));intro gb310 hg w9 hbox hb;have n0_:=qal.mk (qac (g:=gb309) (o:=.cells #[.int .i64 a0_0,.slice A0_1 l0_1.length c0_1] 36 (0,0)) (za0 BK309) hb);have n1_:=qal.mk (qae (za1 HB GE309) hb);have n2_:=qal.mk (hbox);have n3_:=qal.mk ((by rw[hg];exact(qad (za1 HB GE309)):w.heap.size≤gb310));have n4_:=qal.mk ((by rw[hg];exact(qad (za1 HB GE309)):w.heap.size≤gb310));have n5_:=qal.mk ((by rw[hg];exact Nat.ne_of_lt (qao (g:=gb309) (o:=.cells #[.int .i64 a0_0,.slice A0_1 l0_1.length c0_1] 36 (0,0)) (za0 BK309)):gb309≠gb310));have n6_:=qal.mk ((by rw[hg];exact Nat.ne_of_gt (qao (g:=gb309) (o:=.cells #[.int .i64 a0_0,.slice A0_1 l0_1.length c0_1] 36 (0,0)) (za0 BK309)):gb310≠gb309));clear BK309;clear HB;have BK309:=n0_;have HB:=n1_;have BK310:=n2_;have GW310:=n3_;have GE310:=n4_;have NB309_310:=n5_;have NB310_309:=n6_;clear n0_ n1_ n2_ n3_ n4_ n5_ n6_;clear hb hbox hg;have hnb10:=NB309_310.out;have hnc10:=NB310_309.out;have hcz11_0:w9.cell? ⟨gb309,0,none⟩=some (.int .i64 a0_0):=(qab BK309.out 0).trans rfl;have hcz11_1:w9.cell? ⟨gb309,1,none⟩=some (.slice A0_1 l0_1.length c0_1):=(qab BK309.out 1).trans rfl;have hfz11_0:=qaa BK309.out 0;have hfz11_1:=qaa BK309.out 1)|((with_reducible refine qai (f:=28) rfl ?_);refine qau (some 6) rfl rfl Try.func28 (by kernel_rfl) rfl #[.agg #[.int .i64 a0_0,.slice A0_1 l0_1.length c0_1]] rfl (by(try simp only[List.map_toArray,List.map_cons,List.map_nil]);first|done|rfl|(simp only[List.length_drop,List.length_take];rfl)) ?_;(with_reducible refine(spec_StockOk.calls k a0_0 _ _ l0_1 true _ ?side1 ?side2 A3.out).mono ?_);(case side1=>repeat(first|exact(Kd.C_below HR0_1.out HB.out)|(with_reducible refine Kd.C_alloc ?_ _)|(with_reducible refine Kd.C_drewN ?_ _)|(with_reducible refine Kd.C_drew ?_)));(case side2=>exact HC0_1.out);rintro e w12 ⟨rfl,hb⟩;refine⟨_,rfl,?_⟩;have n0_:=qal.mk (qac (g:=gb309) (o:=.cells #[.int .i64 a0_0,.slice A0_1 l0_1.length c0_1] 36 (0,0)) (za0 BK309) hb);have n1_:=qal.mk (qac (g:=gb310) (o:=.cells #[.int .i64 a1_0,.int .i64 a1_1,.slice A1_2 l1_2.length c1_2] 62 (0,0)) (za0 BK310) hb);have n2_:=qal.mk (qae (za3 HB GE309 GE310) hb);clear BK309;clear BK310;clear HB;have BK309:=n0_;have BK310:=n1_;have HB:=n2_;clear n0_ n1_ n2_;(try clear hb);(try clear hb2);(try clear hk);(try clear hi);have hcz13_0:w12.cell? ⟨gb310,0,none⟩=some (.int .i64 a1_0):=(qab BK310.out 0).trans rfl;have hcz13_1:w12.cell? ⟨gb310,1,none⟩=some (.int .i64 a1_1):=(qab BK310.out 1).trans rfl;have hcz13_2:w12.cell? ⟨gb310,2,none⟩=some (.slice A1_2 l1_2.length c1_2):=(qab BK310.out 2).trans rfl;have hfz13_0:=qaa BK310.out 0;have hfz13_1:=qaa BK310.out 1;have hfz13_2:=qaa BK310.out 2)|(go_at_call 44;(with_reducible refine(spec_RecOk.calls k a1_0 a1_1 _ _ l1_2 true _ ?side1 ?side2 A5.out).mono ?_);(case side1=>repeat(first|exact(Kd.C_below HR1_2.out HB.out)|(with_reducible refine Kd.C_alloc ?_ _)|(with_reducible refine Kd.C_drewN ?_ _)|(with_reducible refine Kd.C_drew ?_)));(case side2=>exact HC1_2.out);rintro e w14 ⟨rfl,hb⟩;have n0_:=qal.mk (qac (g:=gb309) (o:=.cells #[.int .i64 a0_0,.slice A0_1 l0_1.length c0_1] 36 (0,0)) (za0 BK309) hb);have n1_:=qal.mk (qac (g:=gb310) (o:=.cells #[.int .i64 a1_0,.int .i64 a1_1,.slice A1_2 l1_2.length c1_2] 62 (0,0)) (za0 BK310) hb);have n2_:=qal.mk (qae (za3 HB GE309 GE310) hb);clear BK309;clear BK310;clear HB;have BK309:=n0_;have BK310:=n1_;have HB:=n2_;clear n0_ n1_ n2_;(try clear hb);(try clear hb2);(try clear hk);(try clear hi);have hcz15_0:w14.cell? ⟨gb309,0,none⟩=some (.int .i64 a0_0):=(qab BK309.out 0).trans rfl;have hcz15_1:w14.cell? ⟨gb309,1,none⟩=some (.slice A0_1 l0_1.length c0_1):=(qab BK309.out 1).trans rfl;have hfz15_0:=qaa BK309.out 0;have hfz15_1:=qaa BK309.out 1;have hcz16_0:w14.cell? ⟨gb310,0,none⟩=some (.int .i64 a1_0):=(qab BK310.out 0).trans rfl;have hcz16_1:w14.cell? ⟨gb310,1,none⟩=some (.int .i64 a1_1):=(qab BK310.out 1).trans rfl;have hcz16_2:w14.cell? ⟨gb310,2,none⟩=some (.slice A1_2 l1_2.length c1_2):=(qab BK310.out 2).trans rfl;have hfz16_0:=qaa BK310.out 0;have hfz16_1:=qaa BK310.out 1;have hfz16_2:=qaa BK310.out 2)|(go_at_call 79;(with_reducible refine(spec_l2May.calls k a0_0 _ _ l0_1 a1_0 a1_1 _ _ l1_2 t313 _ ?side1 ?side2 ?side3 ?side4 A7.out).mono ?_);(case side1=>repeat(first|exact(Kd.C_below HR0_1.out HB.out)|(with_reducible refine Kd.C_alloc ?_ _)|(with_reducible refine Kd.C_drewN ?_ _)|(with_reducible refine Kd.C_drew ?_)));(case side2=>exact HC0_1.out);(case side3=>repeat(first|exact(Kd.C_below HR1_2.out HB.out)|(with_reducible refine Kd.C_alloc ?_ _)|(with_reducible refine Kd.C_drewN ?_ _)|(with_reducible refine Kd.C_drew ?_)));(case side4=>exact HC1_2.out);rintro e w17 ⟨rfl,hb⟩;have n0_:=qal.mk (qac (g:=gb309) (o:=.cells #[.int .i64 a0_0,.slice A0_1 l0_1.length c0_1] 36 (0,0)) (za0 BK309) hb);have n1_:=qal.mk (qac (g:=gb310) (o:=.cells #[.int .i64 a1_0,.int .i64 a1_1,.slice A1_2 l1_2.length c1_2] 62 (0,0)) (za0 BK310) hb);have n2_:=qal.mk (qae (za3 HB GE309 GE310) hb);clear BK309;clear BK310;clear HB;have BK309:=n0_;have BK310:=n1_;have HB:=n2_;clear n0_ n1_ n2_;(try clear hb);(try clear hb2);(try clear hk);(try clear hi)))
   go_ret
   exact⟨za9,za3 HB GE309 GE310⟩
  ·replace c6:=Bool.eq_false_iff.mpr c6
   subst c6
   have H1:(some false)=some r:=by rw[if_neg (show ¬(false=true) by decide)] at H;exact H
   clear H
   have H:=H1
   clear H1
   obtain rfl:=Option.some.inj H
   go_enter Try.func37,Try.ntmps37
   go_wp2_with(first|((with_reducible refine qak (N:=2) rfl ?_);refine qaj ?hg (N:=2) ?hd (cs:=#[.int .i64 a0_0,.slice A0_1 l0_1.length c0_1]) (t:=36) ?hr ?_;(case hd=>rfl);(case hg=>rfl);(case hr=>first|(go_simp;done)|(go_simp;rfl));intro gb309 hg w18 hbox hb;have n0_:=qal.mk (qae (za2 HB) hb);have n1_:=qal.mk (hbox);have n2_:=qal.mk ((by rw[hg];exact(qad (za2 HB)):w.heap.size≤gb309));have n3_:=qal.mk ((by rw[hg];exact(qad (za2 HB)):w.heap.size≤gb309));clear HB;have HB:=n0_;have BK309:=n1_;have GW309:=n2_;have GE309:=n3_;clear n0_ n1_ n2_ n3_;clear hb hbox hg)|((with_reducible refine qak (N:=3) rfl ?_);refine qaj ?hg (N:=3) ?hd (cs:=#[.int .i64 a1_0,.int .i64 a1_1,.slice A1_2 l1_2.length c1_2]) (t:=62) ?hr ?_;(case hd=>rfl);(case hg=>rfl);(case hr=>first|(go_simp;done)|(go_simp;rfl));intro gb310 hg w19 hbox hb;have n0_:=qal.mk (qac (g:=gb309) (o:=.cells #[.int .i64 a0_0,.slice A0_1 l0_1.length c0_1] 36 (0,0)) (za0 BK309) hb);have n1_:=qal.mk (qae (za1 HB GE309) hb);have n2_:=qal.mk (hbox);have n3_:=qal.mk ((by rw[hg];exact(qad (za1 HB GE309)):w.heap.size≤gb310));have n4_:=qal.mk ((by rw[hg];exact(qad (za1 HB GE309)):w.heap.size≤gb310));have n5_:=qal.mk ((by rw[hg];exact Nat.ne_of_lt (qao (g:=gb309) (o:=.cells #[.int .i64 a0_0,.slice A0_1 l0_1.length c0_1] 36 (0,0)) (za0 BK309)):gb309≠gb310));have n6_:=qal.mk ((by rw[hg];exact Nat.ne_of_gt (qao (g:=gb309) (o:=.cells #[.int .i64 a0_0,.slice A0_1 l0_1.length c0_1] 36 (0,0)) (za0 BK309)):gb310≠gb309));clear BK309;clear HB;have BK309:=n0_;have HB:=n1_;have BK310:=n2_;have GW310:=n3_;have GE310:=n4_;have NB309_310:=n5_;have NB310_309:=n6_;clear n0_ n1_ n2_ n3_ n4_ n5_ n6_;clear hb hbox hg;have hnb20:=NB309_310.out;have hnc20:=NB310_309.out;have hcz21_0:w19.cell? ⟨gb309,0,none⟩=some (.int .i64 a0_0):=(qab BK309.out 0).trans rfl;have hcz21_1:w19.cell? ⟨gb309,1,none⟩=some (.slice A0_1 l0_1.length c0_1):=(qab BK309.out 1).trans rfl;have hfz21_0:=qaa BK309.out 0;have hfz21_1:=qaa BK309.out 1)|((with_reducible refine qai (f:=28) rfl ?_);refine qau (some 6) rfl rfl Try.func28 (by kernel_rfl) rfl #[.agg #[.int .i64 a0_0,.slice A0_1 l0_1.length c0_1]] rfl (by(try simp only[List.map_toArray,List.map_cons,List.map_nil]);first|done|rfl|(simp only[List.length_drop,List.length_take];rfl)) ?_;(with_reducible refine(spec_StockOk.calls k a0_0 _ _ l0_1 true _ ?side1 ?side2 A3.out).mono ?_);(case side1=>repeat(first|exact(Kd.C_below HR0_1.out HB.out)|(with_reducible refine Kd.C_alloc ?_ _)|(with_reducible refine Kd.C_drewN ?_ _)|(with_reducible refine Kd.C_drew ?_)));(case side2=>exact HC0_1.out);rintro e w22 ⟨rfl,hb⟩;refine⟨_,rfl,?_⟩;have n0_:=qal.mk (qac (g:=gb309) (o:=.cells #[.int .i64 a0_0,.slice A0_1 l0_1.length c0_1] 36 (0,0)) (za0 BK309) hb);have n1_:=qal.mk (qac (g:=gb310) (o:=.cells #[.int .i64 a1_0,.int .i64 a1_1,.slice A1_2 l1_2.length c1_2] 62 (0,0)) (za0 BK310) hb);have n2_:=qal.mk (qae (za3 HB GE309 GE310) hb);clear BK309;clear BK310;clear HB;have BK309:=n0_;have BK310:=n1_;have HB:=n2_;clear n0_ n1_ n2_;(try clear hb);(try clear hb2);(try clear hk);(try clear hi);have hcz23_0:w22.cell? ⟨gb310,0,none⟩=some (.int .i64 a1_0):=(qab BK310.out 0).trans rfl;have hcz23_1:w22.cell? ⟨gb310,1,none⟩=some (.int .i64 a1_1):=(qab BK310.out 1).trans rfl;have hcz23_2:w22.cell? ⟨gb310,2,none⟩=some (.slice A1_2 l1_2.length c1_2):=(qab BK310.out 2).trans rfl;have hfz23_0:=qaa BK310.out 0;have hfz23_1:=qaa BK310.out 1;have hfz23_2:=qaa BK310.out 2)|(go_at_call 44;(with_reducible refine(spec_RecOk.calls k a1_0 a1_1 _ _ l1_2 false _ ?side1 ?side2 A5.out).mono ?_);(case side1=>repeat(first|exact(Kd.C_below HR1_2.out HB.out)|(with_reducible refine Kd.C_alloc ?_ _)|(with_reducible refine Kd.C_drewN ?_ _)|(with_reducible refine Kd.C_drew ?_)));(case side2=>exact HC1_2.out);rintro e w24 ⟨rfl,hb⟩;have n0_:=qal.mk (qac (g:=gb309) (o:=.cells #[.int .i64 a0_0,.slice A0_1 l0_1.length c0_1] 36 (0,0)) (za0 BK309) hb);have n1_:=qal.mk (qac (g:=gb310) (o:=.cells #[.int .i64 a1_0,.int .i64 a1_1,.slice A1_2 l1_2.length c1_2] 62 (0,0)) (za0 BK310) hb);have n2_:=qal.mk (qae (za3 HB GE309 GE310) hb);clear BK309;clear BK310;clear HB;have BK309:=n0_;have BK310:=n1_;have HB:=n2_;clear n0_ n1_ n2_;(try clear hb);(try clear hb2);(try clear hk);(try clear hi)))
   go_ret
   exact⟨za9,za3 HB GE309 GE310⟩
 ·replace c4:=Bool.eq_false_iff.mpr c4
  subst c4
  have H1:(some false)=some r:=by rw[if_neg (show ¬(false=true) by decide)] at H;exact H
  clear H
  have H:=H1
  clear H1
  obtain rfl:=Option.some.inj H
  go_enter Try.func37,Try.ntmps37
  go_wp2_with(first|((with_reducible refine qak (N:=2) rfl ?_);refine qaj ?hg (N:=2) ?hd (cs:=#[.int .i64 a0_0,.slice A0_1 l0_1.length c0_1]) (t:=36) ?hr ?_;(case hd=>rfl);(case hg=>rfl);(case hr=>first|(go_simp;done)|(go_simp;rfl));intro gb309 hg w25 hbox hb;have n0_:=qal.mk (qae (za2 HB) hb);have n1_:=qal.mk (hbox);have n2_:=qal.mk ((by rw[hg];exact(qad (za2 HB)):w.heap.size≤gb309));have n3_:=qal.mk ((by rw[hg];exact(qad (za2 HB)):w.heap.size≤gb309));clear HB;have HB:=n0_;have BK309:=n1_;have GW309:=n2_;have GE309:=n3_;clear n0_ n1_ n2_ n3_;clear hb hbox hg)|((with_reducible refine qak (N:=3) rfl ?_);refine qaj ?hg (N:=3) ?hd (cs:=#[.int .i64 a1_0,.int .i64 a1_1,.slice A1_2 l1_2.length c1_2]) (t:=62) ?hr ?_;(case hd=>rfl);(case hg=>rfl);(case hr=>first|(go_simp;done)|(go_simp;rfl));intro gb310 hg w26 hbox hb;have n0_:=qal.mk (qac (g:=gb309) (o:=.cells #[.int .i64 a0_0,.slice A0_1 l0_1.length c0_1] 36 (0,0)) (za0 BK309) hb);have n1_:=qal.mk (qae (za1 HB GE309) hb);have n2_:=qal.mk (hbox);have n3_:=qal.mk ((by rw[hg];exact(qad (za1 HB GE309)):w.heap.size≤gb310));have n4_:=qal.mk ((by rw[hg];exact(qad (za1 HB GE309)):w.heap.size≤gb310));have n5_:=qal.mk ((by rw[hg];exact Nat.ne_of_lt (qao (g:=gb309) (o:=.cells #[.int .i64 a0_0,.slice A0_1 l0_1.length c0_1] 36 (0,0)) (za0 BK309)):gb309≠gb310));have n6_:=qal.mk ((by rw[hg];exact Nat.ne_of_gt (qao (g:=gb309) (o:=.cells #[.int .i64 a0_0,.slice A0_1 l0_1.length c0_1] 36 (0,0)) (za0 BK309)):gb310≠gb309));clear BK309;clear HB;have BK309:=n0_;have HB:=n1_;have BK310:=n2_;have GW310:=n3_;have GE310:=n4_;have NB309_310:=n5_;have NB310_309:=n6_;clear n0_ n1_ n2_ n3_ n4_ n5_ n6_;clear hb hbox hg;have hnb27:=NB309_310.out;have hnc27:=NB310_309.out;have hcz28_0:w26.cell? ⟨gb309,0,none⟩=some (.int .i64 a0_0):=(qab BK309.out 0).trans rfl;have hcz28_1:w26.cell? ⟨gb309,1,none⟩=some (.slice A0_1 l0_1.length c0_1):=(qab BK309.out 1).trans rfl;have hfz28_0:=qaa BK309.out 0;have hfz28_1:=qaa BK309.out 1)|((with_reducible refine qai (f:=28) rfl ?_);refine qau (some 6) rfl rfl Try.func28 (by kernel_rfl) rfl #[.agg #[.int .i64 a0_0,.slice A0_1 l0_1.length c0_1]] rfl (by(try simp only[List.map_toArray,List.map_cons,List.map_nil]);first|done|rfl|(simp only[List.length_drop,List.length_take];rfl)) ?_;(with_reducible refine(spec_StockOk.calls k a0_0 _ _ l0_1 false _ ?side1 ?side2 A3.out).mono ?_);(case side1=>repeat(first|exact(Kd.C_below HR0_1.out HB.out)|(with_reducible refine Kd.C_alloc ?_ _)|(with_reducible refine Kd.C_drewN ?_ _)|(with_reducible refine Kd.C_drew ?_)));(case side2=>exact HC0_1.out);rintro e w29 ⟨rfl,hb⟩;refine⟨_,rfl,?_⟩;have n0_:=qal.mk (qac (g:=gb309) (o:=.cells #[.int .i64 a0_0,.slice A0_1 l0_1.length c0_1] 36 (0,0)) (za0 BK309) hb);have n1_:=qal.mk (qac (g:=gb310) (o:=.cells #[.int .i64 a1_0,.int .i64 a1_1,.slice A1_2 l1_2.length c1_2] 62 (0,0)) (za0 BK310) hb);have n2_:=qal.mk (qae (za3 HB GE309 GE310) hb);clear BK309;clear BK310;clear HB;have BK309:=n0_;have BK310:=n1_;have HB:=n2_;clear n0_ n1_ n2_;(try clear hb);(try clear hb2);(try clear hk);(try clear hi)))
  go_ret
  exact⟨za9,za3 HB GE309 GE310⟩
end Go.Proofs.Ytjccnaklodbbfaa.Print
