-- Written by squeeze.py, a program of this session, out of what print.sh and myprint.py had printed: cut to what is used, narrowed. Not trusted, Lean checks it.
import Derived.Test.YtjccnaklodbbfaaZK
import Derived.Test.YtjccnaklodbbfaaZb0
import Derived.Test.YtjccnaklodbbfaaZd0
import Derived.Test.YtjccnaklodbbfaaZh2
import Derived.Test.YtjccnaklodbbfaaZj0
import Derived.Test.YtjccnaklodbbfaaZq1
namespace Go.Proofs.Ytjccnaklodbbfaa.Print
open Go.RowKit Go.Proofs.YtjccnaklodbbfaaW.PrintWords Go.Proofs.YtjccnaklodbbfaaW.PrintLast Go.Proofs.YtjccnaklodbbfaaW.PrintMore
attribute [local go_sem] max2_int min2_int max_two min_two max_three min_three max_four min_four
set_option linter.unusedVariables false
set_option linter.unusedSimpArgs false
def laws_lnHouse.f (k:Nat) (a0_0:Int) (a0_1:Bool) (a0_2:Int) (l0_3:List (S62)) (a0_4:Int) (a1_0:Int) (a1_1:Bool) (a1_2:Int) (l1_3:List (S62)) (a1_4:Int):Option (Bool):=if a0_0=a1_0 then(if(a0_1 == a1_1)=true then(if a0_2=a1_2 then((laws_lnLog.f k l0_3 a0_4 l1_3 a1_4).bind fun t517=>(some t517)) else(some false)) else(some false)) else(some false)
theorem laws_lnHouse.mono:∀a0 a1 a2 a3 a4 a5 a6 a7 a8 a9 k,LeO (laws_lnHouse.f k a0 a1 a2 a3 a4 a5 a6 a7 a8 a9) (laws_lnHouse.f (k+1) a0 a1 a2 a3 a4 a5 a6 a7 a8 a9):=by
 intro a0 a1 a2 a3 a4 a5 a6 a7 a8 a9 k
 unfold laws_lnHouse.f
 repeat' first
   |(with_reducible exact laws_lnLog.mono _ _ _ _ _)
   |(with_reducible exact LeO.refl _)
   |(with_reducible exact LeO.none _)
   |(with_reducible refine LeO.ite ?_ ?_)
   |(with_reducible refine LeO.bind ?_ (fun _=>?_))
   |exact laws_lnLog.mono _ _ _ _ _
   |exact LeO.none _
   |refine LeO.ite ?_ ?_
   |refine LeO.bind ?_ (fun _=>?_)
set_option maxHeartbeats 8000000 in
set_option maxRecDepth 100000 in
theorem laws_lnHouse.calls (k:Nat) (a0_0:Int) (a0_1:Bool) (a0_2:Int) (A0_3:Option Addr) (c0_3:Nat) (l0_3:List (S62)) (a0_4:Int) (a1_0:Int) (a1_1:Bool) (a1_2:Int) (A1_3:Option Addr) (c1_3:Nat) (l1_3:List (S62)) (a1_4:Int) (r:Bool) (w:World) (hr0_3:Kd.C k62 w A0_3 l0_3.length l0_3) (hc0_3:l0_3.length≤c0_3) (hr1_3:Kd.C k62 w A1_3 l1_3.length l1_3) (hc1_3:l1_3.length≤c1_3) (h:laws_lnHouse.f k a0_0 a0_1 a0_2 l0_3 a0_4 a1_0 a1_1 a1_2 l1_3 a1_4=some r) :
  Calls Try.prog 32 #[.agg #[.int .i64 a0_0,.bool a0_1,.int .i64 a0_2,.slice A0_3 l0_3.length c0_3,.int .i64 a0_4],.agg #[.int .i64 a1_0,.bool a1_1,.int .i64 a1_2,.slice A1_3 l1_3.length c1_3,.int .i64 a1_4]] w fun e w'=>e=.returned (.bool r)∧Below w.heap.size w w':=by
 have hu26:=Try.underlying26
 have hu24:=Try.underlying24
 have HR0_3:=qal.mk hr0_3
 have HC0_3:=qal.mk hc0_3
 clear hr0_3 hc0_3
 have HR1_3:=qal.mk hr1_3
 have HC1_3:=qal.mk hc1_3
 clear hr1_3 hc1_3
 have HB:=qal.mk (Below.refl w.heap.size w)
 have H:(if a0_0=a1_0 then(if(a0_1 == a1_1)=true then(if a0_2=a1_2 then((laws_lnLog.f k l0_3 a0_4 l1_3 a1_4).bind fun t517=>(some t517)) else(some false)) else(some false)) else(some false))=some r:=h
 clear h
 by_cases c3:a0_0=a1_0
 ·rw[if_pos c3] at H
  have c3b0:(a0_0 == a1_0)=true:=beq_iff_eq.mpr c3
  have c3b1:(a0_0 != a1_0)=false:=bne_eq_false_iff_eq.mpr c3
  clear c3
  by_cases c4:(a0_1 == a1_1)=true
  ·rw[if_pos c4] at H
   have c4b0:(a0_1 == a1_1)=true:=c4
   (try(have c4b1:decide (a0_1=a1_1)=true:=by simpa using c4))
   (try(have c4b2:(a0_1 == a1_1)=true:=by simpa using c4))
   clear c4
   by_cases c5:a0_2=a1_2
   ·rw[if_pos c5] at H
    have c5b0:(a0_2 == a1_2)=true:=beq_iff_eq.mpr c5
    have c5b1:(a0_2 != a1_2)=false:=bne_eq_false_iff_eq.mpr c5
    clear c5
    replace H:=Option.bind_eq_some_iff.mp H
    obtain⟨t517,A60,H⟩:=H
    replace H:(some t517)=some r:=H
    have A6:=qal.mk A60
    clear A60
    obtain rfl:=Option.some.inj H
    go_enter Try.func32,Try.ntmps32
    go_wp2_with(first|((with_reducible refine qak (N:=2) rfl ?_);refine qaj ?hg (N:=2) ?hd (cs:=#[.int .i64 a0_0,.bool a0_1,.int .i64 a0_2,.slice A0_3 l0_3.length c0_3,.int .i64 a0_4]) (t:=26) ?hr ?_;(case hd=>rfl);(case hg=>rfl);(case hr=>first|(go_simp;done)|(go_simp;rfl));intro gb515 hg w7 hbox hb;have n0_:=qal.mk (qae (za2 HB) hb);have n1_:=qal.mk (hbox);have n2_:=qal.mk ((by rw[hg];exact(qad (za2 HB)):w.heap.size≤gb515));have n3_:=qal.mk ((by rw[hg];exact(qad (za2 HB)):w.heap.size≤gb515));clear HB;have HB:=n0_;have BK515:=n1_;have GW515:=n2_;have GE515:=n3_;clear n0_ n1_ n2_ n3_;clear hb hbox hg)|((with_reducible refine qak (N:=3) rfl ?_);refine qaj ?hg (N:=3) ?hd (cs:=#[.int .i64 a1_0,.bool a1_1,.int .i64 a1_2,.slice A1_3 l1_3.length c1_3,.int .i64 a1_4]) (t:=26) ?hr ?_;(case hd=>rfl);(case hg=>rfl);(case hr=>first|(go_simp;done)|(go_simp;rfl));intro gb516 hg w8 hbox hb;have n0_:=qal.mk (qac (g:=gb515) (o:=.cells #[.int .i64 a0_0,.bool a0_1,.int .i64 a0_2,.slice A0_3 l0_3.length c0_3,.int .i64 a0_4] 26 (0,0)) (za0 BK515) hb);have n1_:=qal.mk (qae (za1 HB GE515) hb);have n2_:=qal.mk (hbox);have n3_:=qal.mk ((by rw[hg];exact(qad (za1 HB GE515)):w.heap.size≤gb516));have n4_:=qal.mk ((by rw[hg];exact(qad (za1 HB GE515)):w.heap.size≤gb516));have n5_:=qal.mk ((by rw[hg];exact Nat.ne_of_lt (qao (g:=gb515) (o:=.cells #[.int .i64 a0_0,.bool a0_1,.int .i64 a0_2,.slice A0_3 l0_3.length c0_3,.int .i64 a0_4] 26 (0,0)) (za0 BK515)):gb515≠gb516));have n6_:=qal.mk ((by rw[hg];exact Nat.ne_of_gt (qao (g:=gb515) (o:=.cells #[.int .i64 a0_0,.bool a0_1,.int .i64 a0_2,.slice A0_3 l0_3.length c0_3,.int .i64 a0_4] 26 (0,0)) (za0 BK515)):gb516≠gb515));clear BK515;clear HB;have BK515:=n0_;have HB:=n1_;have BK516:=n2_;have GW516:=n3_;have GE516:=n4_;have NB515_516:=n5_;have NB516_515:=n6_;clear n0_ n1_ n2_ n3_ n4_ n5_ n6_;clear hb hbox hg;have hnb9:=NB515_516.out;have hnc9:=NB516_515.out;have hcz10_0:w8.cell? ⟨gb515,0,none⟩=some (.int .i64 a0_0):=(qab BK515.out 0).trans rfl;have hcz10_1:w8.cell? ⟨gb515,1,none⟩=some (.bool a0_1):=(qab BK515.out 1).trans rfl;have hcz10_2:w8.cell? ⟨gb515,2,none⟩=some (.int .i64 a0_2):=(qab BK515.out 2).trans rfl;have hcz10_3:w8.cell? ⟨gb515,3,none⟩=some (.slice A0_3 l0_3.length c0_3):=(qab BK515.out 3).trans rfl;have hcz10_4:w8.cell? ⟨gb515,4,none⟩=some (.int .i64 a0_4):=(qab BK515.out 4).trans rfl;have hfz10_0:=qaa BK515.out 0;have hfz10_1:=qaa BK515.out 1;have hfz10_2:=qaa BK515.out 2;have hfz10_3:=qaa BK515.out 3;have hfz10_4:=qaa BK515.out 4;have hcz11_0:w8.cell? ⟨gb516,0,none⟩=some (.int .i64 a1_0):=(qab BK516.out 0).trans rfl;have hcz11_1:w8.cell? ⟨gb516,1,none⟩=some (.bool a1_1):=(qab BK516.out 1).trans rfl;have hcz11_2:w8.cell? ⟨gb516,2,none⟩=some (.int .i64 a1_2):=(qab BK516.out 2).trans rfl;have hcz11_3:w8.cell? ⟨gb516,3,none⟩=some (.slice A1_3 l1_3.length c1_3):=(qab BK516.out 3).trans rfl;have hcz11_4:w8.cell? ⟨gb516,4,none⟩=some (.int .i64 a1_4):=(qab BK516.out 4).trans rfl;have hfz11_0:=qaa BK516.out 0;have hfz11_1:=qaa BK516.out 1;have hfz11_2:=qaa BK516.out 2;have hfz11_3:=qaa BK516.out 3;have hfz11_4:=qaa BK516.out 4)|(go_at_call 74;(with_reducible refine(laws_lnLog.calls k _ _ l0_3 a0_4 _ _ l1_3 a1_4 t517 _ ?side1 ?side2 ?side3 ?side4 A6.out).mono ?_);(case side1=>repeat(first|exact(Kd.C_below HR0_3.out HB.out)|(with_reducible refine Kd.C_alloc ?_ _)|(with_reducible refine Kd.C_drewN ?_ _)|(with_reducible refine Kd.C_drew ?_)));(case side2=>exact HC0_3.out);(case side3=>repeat(first|exact(Kd.C_below HR1_3.out HB.out)|(with_reducible refine Kd.C_alloc ?_ _)|(with_reducible refine Kd.C_drewN ?_ _)|(with_reducible refine Kd.C_drew ?_)));(case side4=>exact HC1_3.out);rintro e w12 ⟨rfl,hb⟩;have n0_:=qal.mk (qac (g:=gb515) (o:=.cells #[.int .i64 a0_0,.bool a0_1,.int .i64 a0_2,.slice A0_3 l0_3.length c0_3,.int .i64 a0_4] 26 (0,0)) (za0 BK515) hb);have n1_:=qal.mk (qac (g:=gb516) (o:=.cells #[.int .i64 a1_0,.bool a1_1,.int .i64 a1_2,.slice A1_3 l1_3.length c1_3,.int .i64 a1_4] 26 (0,0)) (za0 BK516) hb);have n2_:=qal.mk (qae (za3 HB GE515 GE516) hb);clear BK515;clear BK516;clear HB;have BK515:=n0_;have BK516:=n1_;have HB:=n2_;clear n0_ n1_ n2_;(try clear hb);(try clear hb2);(try clear hk);(try clear hi)))
    go_ret
    exact⟨za9,za3 HB GE515 GE516⟩
   ·rw[if_neg c5] at H
    have c5b0:(a0_2 == a1_2)=false:=beq_eq_false_iff_ne.mpr c5
    have c5b1:(a0_2 != a1_2)=true:=bne_iff_ne.mpr c5
    obtain rfl:=Option.some.inj H
    go_enter Try.func32,Try.ntmps32
    go_wp2_with(first|((with_reducible refine qak (N:=2) rfl ?_);refine qaj ?hg (N:=2) ?hd (cs:=#[.int .i64 a0_0,.bool a0_1,.int .i64 a0_2,.slice A0_3 l0_3.length c0_3,.int .i64 a0_4]) (t:=26) ?hr ?_;(case hd=>rfl);(case hg=>rfl);(case hr=>first|(go_simp;done)|(go_simp;rfl));intro gb515 hg w13 hbox hb;have n0_:=qal.mk (qae (za2 HB) hb);have n1_:=qal.mk (hbox);have n2_:=qal.mk ((by rw[hg];exact(qad (za2 HB)):w.heap.size≤gb515));have n3_:=qal.mk ((by rw[hg];exact(qad (za2 HB)):w.heap.size≤gb515));clear HB;have HB:=n0_;have BK515:=n1_;have GW515:=n2_;have GE515:=n3_;clear n0_ n1_ n2_ n3_;clear hb hbox hg)|((with_reducible refine qak (N:=3) rfl ?_);refine qaj ?hg (N:=3) ?hd (cs:=#[.int .i64 a1_0,.bool a1_1,.int .i64 a1_2,.slice A1_3 l1_3.length c1_3,.int .i64 a1_4]) (t:=26) ?hr ?_;(case hd=>rfl);(case hg=>rfl);(case hr=>first|(go_simp;done)|(go_simp;rfl));intro gb516 hg w14 hbox hb;have n0_:=qal.mk (qac (g:=gb515) (o:=.cells #[.int .i64 a0_0,.bool a0_1,.int .i64 a0_2,.slice A0_3 l0_3.length c0_3,.int .i64 a0_4] 26 (0,0)) (za0 BK515) hb);have n1_:=qal.mk (qae (za1 HB GE515) hb);have n2_:=qal.mk (hbox);have n3_:=qal.mk ((by rw[hg];exact(qad (za1 HB GE515)):w.heap.size≤gb516));have n4_:=qal.mk ((by rw[hg];exact(qad (za1 HB GE515)):w.heap.size≤gb516));have n5_:=qal.mk ((by rw[hg];exact Nat.ne_of_lt (qao (g:=gb515) (o:=.cells #[.int .i64 a0_0,.bool a0_1,.int .i64 a0_2,.slice A0_3 l0_3.length c0_3,.int .i64 a0_4] 26 (0,0)) (za0 BK515)):gb515≠gb516));have n6_:=qal.mk ((by rw[hg];exact Nat.ne_of_gt (qao (g:=gb515) (o:=.cells #[.int .i64 a0_0,.bool a0_1,.int .i64 a0_2,.slice A0_3 l0_3.length c0_3,.int .i64 a0_4] 26 (0,0)) (za0 BK515)):gb516≠gb515));clear BK515;clear HB;have BK515:=n0_;have HB:=n1_;have BK516:=n2_;have GW516:=n3_;have GE516:=n4_;have NB515_516:=n5_;have NB516_515:=n6_;clear n0_ n1_ n2_ n3_ n4_ n5_ n6_;clear hb hbox hg;have hnb15:=NB515_516.out;have hnc15:=NB516_515.out;have hcz16_0:w14.cell? ⟨gb515,0,none⟩=some (.int .i64 a0_0):=(qab BK515.out 0).trans rfl;have hcz16_1:w14.cell? ⟨gb515,1,none⟩=some (.bool a0_1):=(qab BK515.out 1).trans rfl;have hcz16_2:w14.cell? ⟨gb515,2,none⟩=some (.int .i64 a0_2):=(qab BK515.out 2).trans rfl;have hcz16_3:w14.cell? ⟨gb515,3,none⟩=some (.slice A0_3 l0_3.length c0_3):=(qab BK515.out 3).trans rfl;have hcz16_4:w14.cell? ⟨gb515,4,none⟩=some (.int .i64 a0_4):=(qab BK515.out 4).trans rfl;have hfz16_0:=qaa BK515.out 0;have hfz16_1:=qaa BK515.out 1;have hfz16_2:=qaa BK515.out 2;have hfz16_3:=qaa BK515.out 3;have hfz16_4:=qaa BK515.out 4;have hcz17_0:w14.cell? ⟨gb516,0,none⟩=some (.int .i64 a1_0):=(qab BK516.out 0).trans rfl;have hcz17_1:w14.cell? ⟨gb516,1,none⟩=some (.bool a1_1):=(qab BK516.out 1).trans rfl;have hcz17_2:w14.cell? ⟨gb516,2,none⟩=some (.int .i64 a1_2):=(qab BK516.out 2).trans rfl;have hcz17_3:w14.cell? ⟨gb516,3,none⟩=some (.slice A1_3 l1_3.length c1_3):=(qab BK516.out 3).trans rfl;have hcz17_4:w14.cell? ⟨gb516,4,none⟩=some (.int .i64 a1_4):=(qab BK516.out 4).trans rfl;have hfz17_0:=qaa BK516.out 0;have hfz17_1:=qaa BK516.out 1;have hfz17_2:=qaa BK516.out 2;have hfz17_3:=qaa BK516.out 3;have hfz17_4:=qaa BK516.out 4))
    go_ret
    exact⟨za9,za3 HB GE515 GE516⟩
  ·rw[if_neg c4] at H
   have c4b0:(a0_1 == a1_1)=false:=by simpa using c4
   (try(have c4b1:decide (a0_1=a1_1)=false:=by simpa using c4))
   (try(have c4b2:(a0_1 == a1_1)=false:=by simpa using c4))
   (try(have c4b3:¬(a0_1=a1_1):=by simpa using c4))
   clear c4
   obtain rfl:=Option.some.inj H
   go_enter Try.func32,Try.ntmps32
   go_wp2_with(first|((with_reducible refine qak (N:=2) rfl ?_);refine qaj ?hg (N:=2) ?hd (cs:=#[.int .i64 a0_0,.bool a0_1,.int .i64 a0_2,.slice A0_3 l0_3.length c0_3,.int .i64 a0_4]) (t:=26) ?hr ?_;(case hd=>rfl);(case hg=>rfl);(case hr=>first|(go_simp;done)|(go_simp;rfl));intro gb515 hg w18 hbox hb;have n0_:=qal.mk (qae (za2 HB) hb);have n1_:=qal.mk (hbox);have n2_:=qal.mk ((by rw[hg];exact(qad (za2 HB)):w.heap.size≤gb515));have n3_:=qal.mk ((by rw[hg];exact(qad (za2 HB)):w.heap.size≤gb515));clear HB;have HB:=n0_;have BK515:=n1_;have GW515:=n2_;have GE515:=n3_;clear n0_ n1_ n2_ n3_;clear hb hbox hg)|((with_reducible refine qak (N:=3) rfl ?_);refine qaj ?hg (N:=3) ?hd (cs:=#[.int .i64 a1_0,.bool a1_1,.int .i64 a1_2,.slice A1_3 l1_3.length c1_3,.int .i64 a1_4]) (t:=26) ?hr ?_;(case hd=>rfl);(case hg=>rfl);(case hr=>first|(go_simp;done)|(go_simp;rfl));intro gb516 hg w19 hbox hb;have n0_:=qal.mk (qac (g:=gb515) (o:=.cells #[.int .i64 a0_0,.bool a0_1,.int .i64 a0_2,.slice A0_3 l0_3.length c0_3,.int .i64 a0_4] 26 (0,0)) (za0 BK515) hb);have n1_:=qal.mk (qae (za1 HB GE515) hb);have n2_:=qal.mk (hbox);have n3_:=qal.mk ((by rw[hg];exact(qad (za1 HB GE515)):w.heap.size≤gb516));have n4_:=qal.mk ((by rw[hg];exact(qad (za1 HB GE515)):w.heap.size≤gb516));have n5_:=qal.mk ((by rw[hg];exact Nat.ne_of_lt (qao (g:=gb515) (o:=.cells #[.int .i64 a0_0,.bool a0_1,.int .i64 a0_2,.slice A0_3 l0_3.length c0_3,.int .i64 a0_4] 26 (0,0)) (za0 BK515)):gb515≠gb516));have n6_:=qal.mk ((by rw[hg];exact Nat.ne_of_gt (qao (g:=gb515) (o:=.cells #[.int .i64 a0_0,.bool a0_1,.int .i64 a0_2,.slice A0_3 l0_3.length c0_3,.int .i64 a0_4] 26 (0,0)) (za0 BK515)):gb516≠gb515));clear BK515;clear HB;have BK515:=n0_;have HB:=n1_;have BK516:=n2_;have GW516:=n3_;have GE516:=n4_;have NB515_516:=n5_;have NB516_515:=n6_;clear n0_ n1_ n2_ n3_ n4_ n5_ n6_;clear hb hbox hg;have hnb20:=NB515_516.out;have hnc20:=NB516_515.out;have hcz21_0:w19.cell? ⟨gb515,0,none⟩=some (.int .i64 a0_0):=(qab BK515.out 0).trans rfl;have hcz21_1:w19.cell? ⟨gb515,1,none⟩=some (.bool a0_1):=(qab BK515.out 1).trans rfl;have hcz21_2:w19.cell? ⟨gb515,2,none⟩=some (.int .i64 a0_2):=(qab BK515.out 2).trans rfl;have hcz21_3:w19.cell? ⟨gb515,3,none⟩=some (.slice A0_3 l0_3.length c0_3):=(qab BK515.out 3).trans rfl;have hcz21_4:w19.cell? ⟨gb515,4,none⟩=some (.int .i64 a0_4):=(qab BK515.out 4).trans rfl;have hfz21_0:=qaa BK515.out 0;have hfz21_1:=qaa BK515.out 1;have hfz21_2:=qaa BK515.out 2;have hfz21_3:=qaa BK515.out 3;have hfz21_4:=qaa BK515.out 4;have hcz22_0:w19.cell? ⟨gb516,0,none⟩=some (.int .i64 a1_0):=(qab BK516.out 0).trans rfl;have hcz22_1:w19.cell? ⟨gb516,1,none⟩=some (.bool a1_1):=(qab BK516.out 1).trans rfl;have hcz22_2:w19.cell? ⟨gb516,2,none⟩=some (.int .i64 a1_2):=(qab BK516.out 2).trans rfl;have hcz22_3:w19.cell? ⟨gb516,3,none⟩=some (.slice A1_3 l1_3.length c1_3):=(qab BK516.out 3).trans rfl;have hcz22_4:w19.cell? ⟨gb516,4,none⟩=some (.int .i64 a1_4):=(qab BK516.out 4).trans rfl;have hfz22_0:=qaa BK516.out 0;have hfz22_1:=qaa BK516.out 1;have hfz22_2:=qaa BK516.out 2;have hfz22_3:=qaa BK516.out 3;have hfz22_4:=qaa BK516.out 4))
   go_ret
   exact⟨za9,za3 HB GE515 GE516⟩
 ·rw[if_neg c3] at H
  have c3b0:(a0_0 == a1_0)=false:=beq_eq_false_iff_ne.mpr c3
  have c3b1:(a0_0 != a1_0)=true:=bne_iff_ne.mpr c3
  obtain rfl:=Option.some.inj H
  go_enter Try.func32,Try.ntmps32
  go_wp2_with(first|((with_reducible refine qak (N:=2) rfl ?_);refine qaj ?hg (N:=2) ?hd (cs:=#[.int .i64 a0_0,.bool a0_1,.int .i64 a0_2,.slice A0_3 l0_3.length c0_3,.int .i64 a0_4]) (t:=26) ?hr ?_;(case hd=>rfl);(case hg=>rfl);(case hr=>first|(go_simp;done)|(go_simp;rfl));intro gb515 hg w23 hbox hb;have n0_:=qal.mk (qae (za2 HB) hb);have n1_:=qal.mk (hbox);have n2_:=qal.mk ((by rw[hg];exact(qad (za2 HB)):w.heap.size≤gb515));have n3_:=qal.mk ((by rw[hg];exact(qad (za2 HB)):w.heap.size≤gb515));clear HB;have HB:=n0_;have BK515:=n1_;have GW515:=n2_;have GE515:=n3_;clear n0_ n1_ n2_ n3_;clear hb hbox hg)|((with_reducible refine qak (N:=3) rfl ?_);refine qaj ?hg (N:=3) ?hd (cs:=#[.int .i64 a1_0,.bool a1_1,.int .i64 a1_2,.slice A1_3 l1_3.length c1_3,.int .i64 a1_4]) (t:=26) ?hr ?_;(case hd=>rfl);(case hg=>rfl);(case hr=>first|(go_simp;done)|(go_simp;rfl));intro gb516 hg w24 hbox hb;have n0_:=qal.mk (qac (g:=gb515) (o:=.cells #[.int .i64 a0_0,.bool a0_1,.int .i64 a0_2,.slice A0_3 l0_3.length c0_3,.int .i64 a0_4] 26 (0,0)) (za0 BK515) hb);have n1_:=qal.mk (qae (za1 HB GE515) hb);have n2_:=qal.mk (hbox);have n3_:=qal.mk ((by rw[hg];exact(qad (za1 HB GE515)):w.heap.size≤gb516));have n4_:=qal.mk ((by rw[hg];exact(qad (za1 HB GE515)):w.heap.size≤gb516));have n5_:=qal.mk ((by rw[hg];exact Nat.ne_of_lt (qao (g:=gb515) (o:=.cells #[.int .i64 a0_0,.bool a0_1,.int .i64 a0_2,.slice A0_3 l0_3.length c0_3,.int .i64 a0_4] 26 (0,0)) (za0 BK515)):gb515≠gb516));have n6_:=qal.mk ((by rw[hg];exact Nat.ne_of_gt (qao (g:=gb515) (o:=.cells #[.int .i64 a0_0,.bool a0_1,.int .i64 a0_2,.slice A0_3 l0_3.length c0_3,.int .i64 a0_4] 26 (0,0)) (za0 BK515)):gb516≠gb515));clear BK515;clear HB;have BK515:=n0_;have HB:=n1_;have BK516:=n2_;have GW516:=n3_;have GE516:=n4_;have NB515_516:=n5_;have NB516_515:=n6_;clear n0_ n1_ n2_ n3_ n4_ n5_ n6_;clear hb hbox hg;have hnb25:=NB515_516.out;have hnc25:=NB516_515.out;have hcz26_0:w24.cell? ⟨gb515,0,none⟩=some (.int .i64 a0_0):=(qab BK515.out 0).trans rfl;have hcz26_1:w24.cell? ⟨gb515,1,none⟩=some (.bool a0_1):=(qab BK515.out 1).trans rfl;have hcz26_2:w24.cell? ⟨gb515,2,none⟩=some (.int .i64 a0_2):=(qab BK515.out 2).trans rfl;have hcz26_3:w24.cell? ⟨gb515,3,none⟩=some (.slice A0_3 l0_3.length c0_3):=(qab BK515.out 3).trans rfl;have hcz26_4:w24.cell? ⟨gb515,4,none⟩=some (.int .i64 a0_4):=(qab BK515.out 4).trans rfl;have hfz26_0:=qaa BK515.out 0;have hfz26_1:=qaa BK515.out 1;have hfz26_2:=qaa BK515.out 2;have hfz26_3:=qaa BK515.out 3;have hfz26_4:=qaa BK515.out 4;have hcz27_0:w24.cell? ⟨gb516,0,none⟩=some (.int .i64 a1_0):=(qab BK516.out 0).trans rfl;have hcz27_1:w24.cell? ⟨gb516,1,none⟩=some (.bool a1_1):=(qab BK516.out 1).trans rfl;have hcz27_2:w24.cell? ⟨gb516,2,none⟩=some (.int .i64 a1_2):=(qab BK516.out 2).trans rfl;have hcz27_3:w24.cell? ⟨gb516,3,none⟩=some (.slice A1_3 l1_3.length c1_3):=(qab BK516.out 3).trans rfl;have hcz27_4:w24.cell? ⟨gb516,4,none⟩=some (.int .i64 a1_4):=(qab BK516.out 4).trans rfl;have hfz27_0:=qaa BK516.out 0;have hfz27_1:=qaa BK516.out 1;have hfz27_2:=qaa BK516.out 2;have hfz27_3:=qaa BK516.out 3;have hfz27_4:=qaa BK516.out 4))
  go_ret
  exact⟨za9,za3 HB GE515 GE516⟩
def impl_LogOk_1.f (a0_0:Int) (a0_1:Int) (l0_2:List Int):Option (Bool):=(impl_RecOk.f a0_0 a0_1 l0_2).bind fun t519=>(some (!t519))
set_option maxHeartbeats 8000000 in
set_option maxRecDepth 100000 in
theorem impl_LogOk_1.calls (a0_0:Int) (a0_1:Int) (A0_2:Option Addr) (c0_2:Nat) (l0_2:List Int) (r:Bool) (w:World) (hr0_2:Kd.C (Kd.int .i64) w A0_2 l0_2.length l0_2) (hc0_2:l0_2.length≤c0_2) (h:impl_LogOk_1.f a0_0 a0_1 l0_2=some r) :
  Calls Try.prog 109 #[.agg #[.int .i64 a0_0,.int .i64 a0_1,.slice A0_2 l0_2.length c0_2]] w fun e w'=>e=.returned (.bool r)∧Below w.heap.size w w':=by
 have hu62:=Try.underlying62
 have HR0_2:=qal.mk hr0_2
 have HC0_2:=qal.mk hc0_2
 clear hr0_2 hc0_2
 have HB:=qal.mk (Below.refl w.heap.size w)
 have H:((impl_RecOk.f a0_0 a0_1 l0_2).bind fun t519=>(some (!t519)))=some r:=h
 clear h
 replace H:=Option.bind_eq_some_iff.mp H
 obtain⟨t519,A20,H⟩:=H
 replace H:(some (!t519))=some r:=H
 have A2:=qal.mk A20
 clear A20
 obtain rfl:=Option.some.inj H
 go_enter Try.func109,Try.ntmps109
 go_wp2_with(first|((with_reducible refine qak (N:=1) rfl ?_);refine qaj ?hg (N:=1) ?hd (cs:=#[.int .i64 a0_0,.int .i64 a0_1,.slice A0_2 l0_2.length c0_2]) (t:=62) ?hr ?_;(case hd=>rfl);(case hg=>rfl);(case hr=>first|(go_simp;done)|(go_simp;rfl));intro gb518 hg w3 hbox hb;have n0_:=qal.mk (qae (za2 HB) hb);have n1_:=qal.mk (hbox);have n2_:=qal.mk ((by rw[hg];exact(qad (za2 HB)):w.heap.size≤gb518));have n3_:=qal.mk ((by rw[hg];exact(qad (za2 HB)):w.heap.size≤gb518));clear HB;have HB:=n0_;have BK518:=n1_;have GW518:=n2_;have GE518:=n3_;clear n0_ n1_ n2_ n3_;clear hb hbox hg;have hcz4_0:w3.cell? ⟨gb518,0,none⟩=some (.int .i64 a0_0):=(qab BK518.out 0).trans rfl;have hcz4_1:w3.cell? ⟨gb518,1,none⟩=some (.int .i64 a0_1):=(qab BK518.out 1).trans rfl;have hcz4_2:w3.cell? ⟨gb518,2,none⟩=some (.slice A0_2 l0_2.length c0_2):=(qab BK518.out 2).trans rfl;have hfz4_0:=qaa BK518.out 0;have hfz4_1:=qaa BK518.out 1;have hfz4_2:=qaa BK518.out 2)|((with_reducible refine qai (f:=82) rfl ?_);refine qau (some 4) rfl rfl Try.func82 (by kernel_rfl) rfl #[.agg #[.int .i64 a0_0,.int .i64 a0_1,.slice A0_2 l0_2.length c0_2]] rfl (by(try simp only[List.map_toArray,List.map_cons,List.map_nil]);first|done|rfl|(simp only[List.length_drop,List.length_take];rfl)) ?_;(with_reducible refine(impl_RecOk.calls a0_0 a0_1 _ _ l0_2 t519 _ ?side1 ?side2 A2.out).mono ?_);(case side1=>repeat(first|exact(Kd.C_below HR0_2.out HB.out)|(with_reducible refine Kd.C_alloc ?_ _)|(with_reducible refine Kd.C_drewN ?_ _)|(with_reducible refine Kd.C_drew ?_)));(case side2=>exact HC0_2.out);rintro e w5 ⟨rfl,hb⟩;refine⟨_,rfl,?_⟩;have n0_:=qal.mk (qac (g:=gb518) (o:=.cells #[.int .i64 a0_0,.int .i64 a0_1,.slice A0_2 l0_2.length c0_2] 62 (0,0)) (za0 BK518) hb);have n1_:=qal.mk (qae (za1 HB GE518) hb);clear BK518;clear HB;have BK518:=n0_;have HB:=n1_;clear n0_ n1_;(try clear hb);(try clear hb2);(try clear hk);(try clear hi)))
 go_ret
 exact⟨za9,za1 HB GE518⟩
theorem drop_cons_T62 {l:List S62} {k:Nat} (h:k<l.length):l.drop k=rd_T62 l (k:Int) :: l.drop (k+1):=by
 rw[List.drop_eq_getElem_cons h]
 simp[rd_T62,List.getD_eq_getElem?_getD,List.getElem?_eq_getElem h]
set_option maxHeartbeats 4000000 in
set_option maxRecDepth 100000 in
theorem idx_T62 (p:S62→Option Bool) (g:Nat) (A_:Option Addr) (c_:Nat) (l0:List S62) (r:Bool) (w:World) (hr0:Kd.C k62 w A_ l0.length l0) (hc0:l0.length≤c_)
  (eg:∀args w,(callFunc g args).run Try.prog w=.ok (.enter g args) w)
  (hg:∀(W:World) (x:S62) (A2:Option Addr) (c2:Nat) (b:Bool),Kd.C (Kd.int .i64) W A2 (x.f2).length (x.f2)→(x.f2).length≤c2→p x=some b→Calls Try.prog g #[.agg #[.int .i64 (x.f0),.int .i64 (x.f1),.slice A2 (x.f2).length c2]] W fun e w'=>e=.returned (.bool b)∧Below W.heap.size W w') (h:anyO p l0=some r) :
  Calls Try.prog 127 #[.slice A_ l0.length c_,.func (.func g) #[] #[]] w (IdxB r w):=by
 have HR:=qal.mk hr0
 have HG:=qal.mk hg
 have HH:=qal.mk h
 clear hr0 hc0 hg h
 have hbig:l0.length≤9223372036854775807:=by
  have:=HR.out
  exact this.2.1
 go_enter Try.func127,Try.ntmps127
 go_wp2
 go_loopg [5,8] l0.length (fun gg _ s8 wr=>∃kk:Nat,kk≤l0.length∧l0.length - kk≤gg∧s8=.int .i64 kk∧qal (Below w.heap.size w wr)∧qal (anyO p (l0.drop kk)=some r))
 case atStart=>exact⟨0,Nat.zero_le _,by omega,rfl,⟨Below.refl _ _⟩,HH⟩
 case round=>
  obtain⟨kk,hkk,hg',rfl,BW,B⟩:=hrel
  clear HH
  by_cases hlt:kk<l0.length
  ·have hltz:(kk:Int)<(l0.length:Int):=by omega
   obtain⟨ad,A2,c2,e0,hx0,hx1,hx2,hl2,hi2⟩:=at_T62 HR.out (kk:Int) (by omega) hltz
   cases e0
   rw[Int.toNat_natCast] at hx0
   rw[Int.toNat_natCast] at hx1
   rw[Int.toNat_natCast] at hx2
   replace hx0:=(BW.out.cell (World.block_lt_of_cell? w _ hx0)).trans hx0
   replace hx1:=(BW.out.cell (World.block_lt_of_cell? w _ hx1)).trans hx1
   replace hx2:=(BW.out.cell (World.block_lt_of_cell? w _ hx2)).trans hx2
   have HI2:=qal.mk hi2
   have HL2:=qal.mk hl2
   clear hi2 hl2
   have B':=B.out
   rw[drop_cons_T62 hlt] at B'
   obtain⟨b,hb,hb'⟩:=anyO_cons B'
   clear B B'
   generalize rd_T62 l0 (kk:Int)=x at *
   have HB:=qal.mk hb
   clear hb
   rcases hb' with⟨rfl,rfl⟩|⟨rfl,hb'⟩
   ·have hcall:=HG.out wr x _ _ true (Kd.C_below HI2.out BW.out) HL2.out HB.out
    go_wp2_with(go_at_fn g;refine hcall.mono ?_;rintro e w' ⟨rfl,hbl⟩)
    go_ret
    exact⟨kk,rfl,by simp,qae BW.out hbl⟩
   ·have B2:=qal.mk hb'
    clear hb'
    have hcall:=HG.out wr x _ _ false (Kd.C_below HI2.out BW.out) HL2.out HB.out
    go_wp2_with(go_at_fn g;refine hcall.mono ?_;rintro e w' ⟨rfl,hbl⟩)
    go_roundg (l0.length - (kk+1))
    case measure=>omega
    case rel=>exact⟨kk+1,by omega,by omega,by go_num,⟨qae BW.out hbl⟩,B2⟩
  ·have hltz:¬(kk:Int)<(l0.length:Int):=by omega
   have B':=B.out
   rw[List.drop_eq_nil_of_le (by omega)] at B'
   have hr:false=r:=by injection B'
   subst hr
   clear B'
   go_wp2
   go_ret
   exact⟨-1,rfl,by decide,BW.out⟩
set_option maxHeartbeats 4000000 in
theorem contains_T62 (p:S62→Option Bool) (g:Nat) (A_:Option Addr) (c_:Nat) (l0:List S62) (r:Bool) (w:World) (hr0:Kd.C k62 w A_ l0.length l0) (hc0:l0.length≤c_)
  (eg:∀args w,(callFunc g args).run Try.prog w=.ok (.enter g args) w)
  (hg:∀(W:World) (x:S62) (A2:Option Addr) (c2:Nat) (b:Bool),Kd.C (Kd.int .i64) W A2 (x.f2).length (x.f2)→(x.f2).length≤c2→p x=some b→Calls Try.prog g #[.agg #[.int .i64 (x.f0),.int .i64 (x.f1),.slice A2 (x.f2).length c2]] W fun e w'=>e=.returned (.bool b)∧Below W.heap.size W w') (h:anyO p l0=some r) :
  Calls Try.prog 110 #[.slice A_ l0.length c_,.func (.func g) #[] #[]] w fun e w'=>e=.returned (.bool r)∧Below w.heap.size w w':=by
 have hI:=fun W=>idx_T62 p g A_ c_ l0 r W
 have HR:=qal.mk hr0
 have HG:=qal.mk hg
 have HH:=qal.mk h
 have HC:=qal.mk hc0
 clear hr0 hc0 hg h
 go_enter Try.func110,Try.ntmps110
 go_wp2_with(go_at_call 127;refine(hI _ HR.out HC.out eg HG.out HH.out).mono ?_;rintro e w' ⟨i,rfl,hi,hb⟩)
 go_ret
 exact⟨by rw[←hi];rfl,hb⟩
def impl_LogOk.f (l0_0:List (S62)) (a0_1:Int):Option (Bool):=if(l0_0.length:Int)≤40 then((impl_in.f a0_1 0 (l0_0.length:Int)).bind fun t=>if t=true then((anyO (fun x:S62=>impl_LogOk_1.f x.f0 x.f1 x.f2) l0_0).bind fun a=>some (!a)) else some false) else some false
set_option maxHeartbeats 8000000 in
set_option maxRecDepth 100000 in
theorem impl_LogOk.calls (A0_0:Option Addr) (c0_0:Nat) (l0_0:List (S62)) (a0_1:Int) (r:Bool) (w:World) (hr0_0:Kd.C k62 w A0_0 l0_0.length l0_0) (hc0_0:l0_0.length≤c0_0) (h:impl_LogOk.f l0_0 a0_1=some r) :
  Calls Try.prog 75 #[.agg #[.slice A0_0 l0_0.length c0_0,.int .i64 a0_1]] w fun e w'=>e=.returned (.bool r)∧Below w.heap.size w w':=by
 have HR:=qal.mk hr0_0
 have HC:=qal.mk hc0_0
 have c1:=fun(W:World) (r':Bool) (hr:Kd.C k62 W A0_0 l0_0.length l0_0) (h:anyO (fun x:S62=>impl_LogOk_1.f x.f0 x.f1 x.f2) l0_0=some r')=>contains_T62 (fun x:S62=>impl_LogOk_1.f x.f0 x.f1 x.f2) 109 A0_0 c0_0 l0_0 r' W hr HC.out (enters_of Try.func109 (by kernel_rfl) rfl) (fun W x A c b h1 h2 hb=>(impl_LogOk_1.calls x.f0 x.f1 A c x.f2 b W h1 h2 hb).mono fun e w' ⟨he,hd⟩=>⟨he,hd⟩) h
 have C1:=qal.mk c1
 clear hr0_0 hc0_0 c1
 unfold impl_LogOk.f at h
 by_cases h3:(l0_0.length:Int)≤40
 ·rw[if_pos h3] at h
  have h3b:decide ((l0_0.length:Int)≤40)=true:=decide_eq_true h3
  have h3c:decide (l0_0.length≤40)=true:=decide_eq_true (by omega)
  clear h3
  obtain⟨t,ht,h⟩:=Option.bind_eq_some_iff.mp h
  have HT:=qal.mk ht
  clear ht
  cases t with
  |false=>
   rw[if_neg (by decide)] at h
   injection h with h
   subst h
   go_enter Try.func75,Try.ntmps75
   go_wp2_with(go_at_call 60;refine(impl_in.calls _ _ _ false _ HT.out).mono ?_;rintro e w' ⟨rfl,⟨nd,rfl⟩⟩)
   go_ret
   exact⟨rfl,qap (qar (Below.refl _ _) _) _⟩
  |true=>
   rw[if_pos rfl] at h
   obtain⟨a,ha,h⟩:=Option.bind_eq_some_iff.mp h
   injection h with h
   subst h
   have HA:=qal.mk ha
   clear ha
   go_enter Try.func75,Try.ntmps75
   go_wp2_with(first|(go_at_call 60;refine(impl_in.calls _ _ _ true _ HT.out).mono ?_;rintro e w' ⟨rfl,⟨nd,rfl⟩⟩)|(go_at_call 110;refine(C1.out _ a ?side1 HA.out).mono ?_;(case side1=>repeat(first|exact HR.out|(with_reducible refine Kd.C_alloc ?_ _)|(with_reducible refine Kd.C_drewN ?_ _)|(with_reducible refine Kd.C_drew ?_)));rintro e w' ⟨rfl,hb⟩))
   go_ret
   exact⟨rfl,qae (qap (qar (Below.refl _ _) _) _) hb⟩
 ·rw[if_neg h3] at h
  injection h with h
  subst h
  have h3b:decide ((l0_0.length:Int)≤40)=false:=decide_eq_false h3
  have h3c:decide (l0_0.length≤40)=false:=decide_eq_false (by omega)
  clear h3
  go_enter Try.func75,Try.ntmps75
  go_wp2
  go_ret
  exact⟨rfl,qar (Below.refl _ _) _⟩
def impl_HouseOk.f (k:Nat) (a0_0:Int) (a0_1:Bool) (a0_2:Int) (l0_3:List (S62)) (a0_4:Int):Option (Bool):=(impl_isHouse.f a0_0).bind fun t521=>(if t521=true then((impl_LogOk.f l0_3 a0_4).bind fun t522=>(if t522=true then((impl_StockOf.f k a0_2 l0_3).bind fun bt523=>(some bt523.2.2)) else(some false))) else(some false))
theorem impl_HouseOk.mono:∀a0 a1 a2 a3 a4 k,LeO (impl_HouseOk.f k a0 a1 a2 a3 a4) (impl_HouseOk.f (k+1) a0 a1 a2 a3 a4):=by
 intro a0 a1 a2 a3 a4 k
 unfold impl_HouseOk.f
 repeat' first
   |(with_reducible exact impl_StockOf.mono _ _ _)
   |(with_reducible exact LeO.refl _)
   |(with_reducible exact LeO.none _)
   |(with_reducible refine LeO.ite ?_ ?_)
   |(with_reducible refine LeO.bind ?_ (fun _=>?_))
   |exact impl_StockOf.mono _ _ _
   |exact LeO.none _
   |refine LeO.ite ?_ ?_
   |refine LeO.bind ?_ (fun _=>?_)
set_option maxHeartbeats 8000000 in
set_option maxRecDepth 100000 in
theorem impl_HouseOk.calls (k:Nat) (a0_0:Int) (a0_1:Bool) (a0_2:Int) (A0_3:Option Addr) (c0_3:Nat) (l0_3:List (S62)) (a0_4:Int) (r:Bool) (w:World) (hr0_3:Kd.C k62 w A0_3 l0_3.length l0_3) (hc0_3:l0_3.length≤c0_3) (h:impl_HouseOk.f k a0_0 a0_1 a0_2 l0_3 a0_4=some r) :
  Calls Try.prog 33 #[.agg #[.int .i64 a0_0,.bool a0_1,.int .i64 a0_2,.slice A0_3 l0_3.length c0_3,.int .i64 a0_4]] w fun e w'=>e=.returned (.bool r)∧Below w.heap.size w w':=by
 have hu26:=Try.underlying26
 have hu24:=Try.underlying24
 have hu36:=Try.underlying36
 have HR0_3:=qal.mk hr0_3
 have HC0_3:=qal.mk hc0_3
 clear hr0_3 hc0_3
 have HB:=qal.mk (Below.refl w.heap.size w)
 have H:((impl_isHouse.f a0_0).bind fun t521=>(if t521=true then((impl_LogOk.f l0_3 a0_4).bind fun t522=>(if t522=true then((impl_StockOf.f k a0_2 l0_3).bind fun bt523=>(some bt523.2.2)) else(some false))) else(some false)))=some r:=h
 clear h
 replace H:=Option.bind_eq_some_iff.mp H
 obtain⟨t521,A20,H⟩:=H
 replace H:(if t521=true then((impl_LogOk.f l0_3 a0_4).bind fun t522=>(if t522=true then((impl_StockOf.f k a0_2 l0_3).bind fun bt523=>(some bt523.2.2)) else(some false))) else(some false))=some r:=H
 have A2:=qal.mk A20
 clear A20
 by_cases c3:t521=true
 ·subst c3
  have H1:((impl_LogOk.f l0_3 a0_4).bind fun t522=>(if t522=true then((impl_StockOf.f k a0_2 l0_3).bind fun bt523=>(some bt523.2.2)) else(some false)))=some r:=by rw[if_pos rfl] at H;exact H
  clear H
  have H:=H1
  clear H1
  replace H:=Option.bind_eq_some_iff.mp H
  obtain⟨t522,A40,H⟩:=H
  replace H:(if t522=true then((impl_StockOf.f k a0_2 l0_3).bind fun bt523=>(some bt523.2.2)) else(some false))=some r:=H
  have A4:=qal.mk A40
  clear A40
  by_cases c5:t522=true
  ·subst c5
   have H1:((impl_StockOf.f k a0_2 l0_3).bind fun bt523=>(some bt523.2.2))=some r:=by rw[if_pos rfl] at H;exact H
   clear H
   have H:=H1
   clear H1
   replace H:=Option.bind_eq_some_iff.mp H
   obtain⟨⟨t523,t524,t527⟩,A60,H⟩:=H
   replace H:(some t527)=some r:=H
   have A6:=qal.mk A60
   clear A60
   obtain rfl:=Option.some.inj H
   go_enter Try.func33,Try.ntmps33
   go_wp2_with(first|((with_reducible refine qak (N:=1) rfl ?_);refine qaj ?hg (N:=1) ?hd (cs:=#[.int .i64 a0_0,.bool a0_1,.int .i64 a0_2,.slice A0_3 l0_3.length c0_3,.int .i64 a0_4]) (t:=26) ?hr ?_;(case hd=>rfl);(case hg=>rfl);(case hr=>first|(go_simp;done)|(go_simp;rfl));intro gb520 hg w7 hbox hb;have n0_:=qal.mk (qae (za2 HB) hb);have n1_:=qal.mk (hbox);have n2_:=qal.mk ((by rw[hg];exact(qad (za2 HB)):w.heap.size≤gb520));have n3_:=qal.mk ((by rw[hg];exact(qad (za2 HB)):w.heap.size≤gb520));clear HB;have HB:=n0_;have BK520:=n1_;have GW520:=n2_;have GE520:=n3_;clear n0_ n1_ n2_ n3_;clear hb hbox hg;have hcz8_0:w7.cell? ⟨gb520,0,none⟩=some (.int .i64 a0_0):=(qab BK520.out 0).trans rfl;have hcz8_1:w7.cell? ⟨gb520,1,none⟩=some (.bool a0_1):=(qab BK520.out 1).trans rfl;have hcz8_2:w7.cell? ⟨gb520,2,none⟩=some (.int .i64 a0_2):=(qab BK520.out 2).trans rfl;have hcz8_3:w7.cell? ⟨gb520,3,none⟩=some (.slice A0_3 l0_3.length c0_3):=(qab BK520.out 3).trans rfl;have hcz8_4:w7.cell? ⟨gb520,4,none⟩=some (.int .i64 a0_4):=(qab BK520.out 4).trans rfl;have hfz8_0:=qaa BK520.out 0;have hfz8_1:=qaa BK520.out 1;have hfz8_2:=qaa BK520.out 2;have hfz8_3:=qaa BK520.out 3;have hfz8_4:=qaa BK520.out 4)|((with_reducible refine qai (f:=59) rfl ?_);refine qau (some 7) rfl rfl Try.func59 (by kernel_rfl) rfl #[.int .i64 a0_0] rfl (by(try simp only[List.map_toArray,List.map_cons,List.map_nil]);first|done|rfl|(simp only[List.length_drop,List.length_take];rfl)) ?_;(with_reducible refine(impl_isHouse.calls a0_0 true _ A2.out).mono ?_);rintro e w' ⟨rfl,⟨nd,rfl⟩⟩;refine⟨_,rfl,?_⟩;(try(rw[drewN_self w7];generalize hq_:World.drewN w7 _=w7;have n0_:qal (w7.heap[gb520]?=some (.cells #[.int .i64 a0_0,.bool a0_1,.int .i64 a0_2,.slice A0_3 l0_3.length c0_3,.int .i64 a0_4] 26 (0,0))):=⟨by rw[←hq_];exact(za0 BK520)⟩;have n1_:qal (Below w.heap.size w w7):=⟨by rw[←hq_];exact(za1 HB GE520)⟩;clear BK520 HB hq_;have BK520:=n0_;have HB:=n1_;clear n0_ n1_;have hczugb520_0:w7.cell? ⟨gb520,0,none⟩=some _:=(qab BK520.out 0).trans rfl;have hfzugb520_0:=qaa BK520.out 0;have hczugb520_1:w7.cell? ⟨gb520,1,none⟩=some _:=(qab BK520.out 1).trans rfl;have hfzugb520_1:=qaa BK520.out 1;have hczugb520_2:w7.cell? ⟨gb520,2,none⟩=some _:=(qab BK520.out 2).trans rfl;have hfzugb520_2:=qaa BK520.out 2;have hczugb520_3:w7.cell? ⟨gb520,3,none⟩=some _:=(qab BK520.out 3).trans rfl;have hfzugb520_3:=qaa BK520.out 3;have hczugb520_4:w7.cell? ⟨gb520,4,none⟩=some _:=(qab BK520.out 4).trans rfl;have hfzugb520_4:=qaa BK520.out 4)))|(go_at_call 75;(with_reducible refine(impl_LogOk.calls _ _ l0_3 a0_4 true _ ?side1 ?side2 A4.out).mono ?_);(case side1=>repeat(first|exact(Kd.C_below HR0_3.out HB.out)|(with_reducible refine Kd.C_alloc ?_ _)|(with_reducible refine Kd.C_drewN ?_ _)|(with_reducible refine Kd.C_drew ?_)));(case side2=>exact HC0_3.out);rintro e w9 ⟨rfl,hb⟩;have n0_:=qal.mk (qac (g:=gb520) (o:=.cells #[.int .i64 a0_0,.bool a0_1,.int .i64 a0_2,.slice A0_3 l0_3.length c0_3,.int .i64 a0_4] 26 (0,0)) (za0 BK520) hb);have n1_:=qal.mk (qae (za1 HB GE520) hb);clear BK520;clear HB;have BK520:=n0_;have HB:=n1_;clear n0_ n1_;(try clear hb);(try clear hb2);(try clear hk);(try clear hi);have hcz10_0:w9.cell? ⟨gb520,0,none⟩=some (.int .i64 a0_0):=(qab BK520.out 0).trans rfl;have hcz10_1:w9.cell? ⟨gb520,1,none⟩=some (.bool a0_1):=(qab BK520.out 1).trans rfl;have hcz10_2:w9.cell? ⟨gb520,2,none⟩=some (.int .i64 a0_2):=(qab BK520.out 2).trans rfl;have hcz10_3:w9.cell? ⟨gb520,3,none⟩=some (.slice A0_3 l0_3.length c0_3):=(qab BK520.out 3).trans rfl;have hcz10_4:w9.cell? ⟨gb520,4,none⟩=some (.int .i64 a0_4):=(qab BK520.out 4).trans rfl;have hfz10_0:=qaa BK520.out 0;have hfz10_1:=qaa BK520.out 1;have hfz10_2:=qaa BK520.out 2;have hfz10_3:=qaa BK520.out 3;have hfz10_4:=qaa BK520.out 4)|((with_reducible refine qai (f:=24) rfl ?_);refine qau (some 21) rfl rfl Try.func24 (by kernel_rfl) rfl #[.int .i64 a0_2,.slice A0_3 l0_3.length c0_3] rfl (by(try simp only[List.map_toArray,List.map_cons,List.map_nil]);first|done|rfl|(simp only[List.length_drop,List.length_take];rfl)) ?_;(with_reducible refine(impl_StockOf.calls k a0_2 _ _ l0_3 t523 t524 t527 _ ?side1 ?side2 A6.out).mono ?_);(case side1=>repeat(first|exact(Kd.C_below HR0_3.out HB.out)|(with_reducible refine Kd.C_alloc ?_ _)|(with_reducible refine Kd.C_drewN ?_ _)|(with_reducible refine Kd.C_drew ?_)));(case side2=>exact HC0_3.out);rintro e w11 ⟨v525,rfl,ho0,hb⟩;refine⟨_,rfl,?_⟩;have n0_:=qal.mk (Kd.R_lower ho0 (qad (za1 HB GE520)));have n1_:=qal.mk (qac (g:=gb520) (o:=.cells #[.int .i64 a0_0,.bool a0_1,.int .i64 a0_2,.slice A0_3 l0_3.length c0_3,.int .i64 a0_4] 26 (0,0)) (za0 BK520) hb);have n2_:=qal.mk (qae (za1 HB GE520) hb);clear BK520;clear HB;have HO526:=n0_;have BK520:=n1_;have HB:=n2_;clear n0_ n1_ n2_;(try clear hb);(try clear hb2);(try clear hk);(try clear hi);(try clear ho0))|((with_reducible refine qak (N:=3) rfl ?_);refine qaj ?hg (N:=3) ?hd (cs:=#[.int .i64 0,.slice none 0 0]) (t:=36) ?hr ?_;(case hd=>rfl);(case hg=>rfl);(case hr=>first|(go_simp;done)|(go_simp;rfl));intro gb528 hg w12 hbox hb;have n0_:=qal.mk (Kd.R_below (za4 HO526) hb);have n1_:=qal.mk (qac (g:=gb520) (o:=.cells #[.int .i64 a0_0,.bool a0_1,.int .i64 a0_2,.slice A0_3 l0_3.length c0_3,.int .i64 a0_4] 26 (0,0)) (za0 BK520) hb);have n2_:=qal.mk (qae (za1 HB GE520) hb);have n3_:=qal.mk (hbox);have n4_:=qal.mk ((by rw[hg];exact(qad (za1 HB GE520)):w.heap.size≤gb528));have n5_:=qal.mk ((by rw[hg];exact(qad (za1 HB GE520)):w.heap.size≤gb528));have n6_:=qal.mk ((by rw[hg];exact Nat.ne_of_lt (qao (g:=gb520) (o:=.cells #[.int .i64 a0_0,.bool a0_1,.int .i64 a0_2,.slice A0_3 l0_3.length c0_3,.int .i64 a0_4] 26 (0,0)) (za0 BK520)):gb520≠gb528));have n7_:=qal.mk ((by rw[hg];exact Nat.ne_of_gt (qao (g:=gb520) (o:=.cells #[.int .i64 a0_0,.bool a0_1,.int .i64 a0_2,.slice A0_3 l0_3.length c0_3,.int .i64 a0_4] 26 (0,0)) (za0 BK520)):gb528≠gb520));clear HO526;clear BK520;clear HB;have HO526:=n0_;have BK520:=n1_;have HB:=n2_;have BK528:=n3_;have GW528:=n4_;have GE528:=n5_;have NB520_528:=n6_;have NB528_520:=n7_;clear n0_ n1_ n2_ n3_ n4_ n5_ n6_ n7_;clear hb hbox hg;have hnb13:=NB528_520.out;have hnc13:=NB520_528.out;have hcz14_0:w12.cell? ⟨gb528,0,none⟩=some (.int .i64 0):=(qab BK528.out 0).trans rfl;have hcz14_1:w12.cell? ⟨gb528,1,none⟩=some (.slice none 0 0):=(qab BK528.out 1).trans rfl;have hfz14_0:=qaa BK528.out 0;have hfz14_1:=qaa BK528.out 1;obtain⟨Ao15,co15,eo15⟩:=Kd.R_slice HO526.out;subst eo15))
   go_ret
   exact⟨za9,za3 HB GE520 GE528⟩
  ·replace c5:=Bool.eq_false_iff.mpr c5
   subst c5
   have H1:(some false)=some r:=by rw[if_neg (show ¬(false=true) by decide)] at H;exact H
   clear H
   have H:=H1
   clear H1
   obtain rfl:=Option.some.inj H
   go_enter Try.func33,Try.ntmps33
   go_wp2_with(first|((with_reducible refine qak (N:=1) rfl ?_);refine qaj ?hg (N:=1) ?hd (cs:=#[.int .i64 a0_0,.bool a0_1,.int .i64 a0_2,.slice A0_3 l0_3.length c0_3,.int .i64 a0_4]) (t:=26) ?hr ?_;(case hd=>rfl);(case hg=>rfl);(case hr=>first|(go_simp;done)|(go_simp;rfl));intro gb520 hg w16 hbox hb;have n0_:=qal.mk (qae (za2 HB) hb);have n1_:=qal.mk (hbox);have n2_:=qal.mk ((by rw[hg];exact(qad (za2 HB)):w.heap.size≤gb520));have n3_:=qal.mk ((by rw[hg];exact(qad (za2 HB)):w.heap.size≤gb520));clear HB;have HB:=n0_;have BK520:=n1_;have GW520:=n2_;have GE520:=n3_;clear n0_ n1_ n2_ n3_;clear hb hbox hg;have hcz17_0:w16.cell? ⟨gb520,0,none⟩=some (.int .i64 a0_0):=(qab BK520.out 0).trans rfl;have hcz17_1:w16.cell? ⟨gb520,1,none⟩=some (.bool a0_1):=(qab BK520.out 1).trans rfl;have hcz17_2:w16.cell? ⟨gb520,2,none⟩=some (.int .i64 a0_2):=(qab BK520.out 2).trans rfl;have hcz17_3:w16.cell? ⟨gb520,3,none⟩=some (.slice A0_3 l0_3.length c0_3):=(qab BK520.out 3).trans rfl;have hcz17_4:w16.cell? ⟨gb520,4,none⟩=some (.int .i64 a0_4):=(qab BK520.out 4).trans rfl;have hfz17_0:=qaa BK520.out 0;have hfz17_1:=qaa BK520.out 1;have hfz17_2:=qaa BK520.out 2;have hfz17_3:=qaa BK520.out 3;have hfz17_4:=qaa BK520.out 4)|((with_reducible refine qai (f:=59) rfl ?_);refine qau (some 7) rfl rfl Try.func59 (by kernel_rfl) rfl #[.int .i64 a0_0] rfl (by(try simp only[List.map_toArray,List.map_cons,List.map_nil]);first|done|rfl|(simp only[List.length_drop,List.length_take];rfl)) ?_;(with_reducible refine(impl_isHouse.calls a0_0 true _ A2.out).mono ?_);rintro e w' ⟨rfl,⟨nd,rfl⟩⟩;refine⟨_,rfl,?_⟩)|(go_at_call 75;(with_reducible refine(impl_LogOk.calls _ _ l0_3 a0_4 false _ ?side1 ?side2 A4.out).mono ?_);(case side1=>repeat(first|exact(Kd.C_below HR0_3.out (za1 HB GE520))|(with_reducible refine Kd.C_alloc ?_ _)|(with_reducible refine Kd.C_drewN ?_ _)|(with_reducible refine Kd.C_drew ?_)));(case side2=>exact HC0_3.out);rintro e w18 ⟨rfl,hb⟩;have n0_:=qal.mk (qac (g:=gb520) (o:=.cells #[.int .i64 a0_0,.bool a0_1,.int .i64 a0_2,.slice A0_3 l0_3.length c0_3,.int .i64 a0_4] 26 (0,0)) (za0 BK520) hb);have n1_:=qal.mk (qae (za1 HB GE520) hb);clear BK520;clear HB;have BK520:=n0_;have HB:=n1_;clear n0_ n1_;(try clear hb);(try clear hb2);(try clear hk);(try clear hi)))
   go_ret
   exact⟨za9,za1 HB GE520⟩
 ·replace c3:=Bool.eq_false_iff.mpr c3
  subst c3
  have H1:(some false)=some r:=by rw[if_neg (show ¬(false=true) by decide)] at H;exact H
  clear H
  have H:=H1
  clear H1
  obtain rfl:=Option.some.inj H
  go_enter Try.func33,Try.ntmps33
  go_wp2_with(first|((with_reducible refine qak (N:=1) rfl ?_);refine qaj ?hg (N:=1) ?hd (cs:=#[.int .i64 a0_0,.bool a0_1,.int .i64 a0_2,.slice A0_3 l0_3.length c0_3,.int .i64 a0_4]) (t:=26) ?hr ?_;(case hd=>rfl);(case hg=>rfl);(case hr=>first|(go_simp;done)|(go_simp;rfl));intro gb520 hg w19 hbox hb;have n0_:=qal.mk (qae (za2 HB) hb);have n1_:=qal.mk (hbox);have n2_:=qal.mk ((by rw[hg];exact(qad (za2 HB)):w.heap.size≤gb520));have n3_:=qal.mk ((by rw[hg];exact(qad (za2 HB)):w.heap.size≤gb520));clear HB;have HB:=n0_;have BK520:=n1_;have GW520:=n2_;have GE520:=n3_;clear n0_ n1_ n2_ n3_;clear hb hbox hg;have hcz20_0:w19.cell? ⟨gb520,0,none⟩=some (.int .i64 a0_0):=(qab BK520.out 0).trans rfl;have hcz20_1:w19.cell? ⟨gb520,1,none⟩=some (.bool a0_1):=(qab BK520.out 1).trans rfl;have hcz20_2:w19.cell? ⟨gb520,2,none⟩=some (.int .i64 a0_2):=(qab BK520.out 2).trans rfl;have hcz20_3:w19.cell? ⟨gb520,3,none⟩=some (.slice A0_3 l0_3.length c0_3):=(qab BK520.out 3).trans rfl;have hcz20_4:w19.cell? ⟨gb520,4,none⟩=some (.int .i64 a0_4):=(qab BK520.out 4).trans rfl;have hfz20_0:=qaa BK520.out 0;have hfz20_1:=qaa BK520.out 1;have hfz20_2:=qaa BK520.out 2;have hfz20_3:=qaa BK520.out 3;have hfz20_4:=qaa BK520.out 4)|((with_reducible refine qai (f:=59) rfl ?_);refine qau (some 7) rfl rfl Try.func59 (by kernel_rfl) rfl #[.int .i64 a0_0] rfl (by(try simp only[List.map_toArray,List.map_cons,List.map_nil]);first|done|rfl|(simp only[List.length_drop,List.length_take];rfl)) ?_;(with_reducible refine(impl_isHouse.calls a0_0 false _ A2.out).mono ?_);rintro e w' ⟨rfl,⟨nd,rfl⟩⟩;refine⟨_,rfl,?_⟩))
  go_ret
  exact⟨za9,za1 HB GE520⟩
end Go.Proofs.Ytjccnaklodbbfaa.Print
