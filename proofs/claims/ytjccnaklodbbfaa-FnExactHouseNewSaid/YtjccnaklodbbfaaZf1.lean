-- Written by squeeze.py, a program of this session, out of what print.sh and myprint.py had printed: cut to what is used, narrowed. Not trusted, Lean checks it.
import Derived.Test.YtjccnaklodbbfaaZK
import Derived.Test.YtjccnaklodbbfaaZf0
namespace Go.Proofs.Ytjccnaklodbbfaa.Print
open Go.RowKit Go.Proofs.YtjccnaklodbbfaaW.PrintWords Go.Proofs.YtjccnaklodbbfaaW.PrintLast Go.Proofs.YtjccnaklodbbfaaW.PrintMore
attribute [local go_sem] max2_int min2_int max_two min_two max_three min_three max_four min_four
set_option linter.unusedVariables false
set_option linter.unusedSimpArgs false
def laws_eqHouse.f (k:Nat) (a0_0:Int) (a0_1:Bool) (a0_2:Int) (l0_3:List (S62)) (a0_4:Int) (a1_0:Int) (a1_1:Bool) (a1_2:Int) (l1_3:List (S62)) (a1_4:Int):Option (Bool):=if a0_0=a1_0 then(if(a0_1 != a1_1)=true then(some false) else(if a0_2=a1_2 then((laws_eqLog.f k l0_3 a0_4 l1_3 a1_4).bind fun t134=>(if t134=true then(some true) else(some false))) else(some false))) else(some false)
theorem laws_eqHouse.mono:∀a0 a1 a2 a3 a4 a5 a6 a7 a8 a9 k,LeO (laws_eqHouse.f k a0 a1 a2 a3 a4 a5 a6 a7 a8 a9) (laws_eqHouse.f (k+1) a0 a1 a2 a3 a4 a5 a6 a7 a8 a9):=by
 intro a0 a1 a2 a3 a4 a5 a6 a7 a8 a9 k
 unfold laws_eqHouse.f
 repeat' first
   |(with_reducible exact laws_eqLog.mono _ _ _ _ _)
   |(with_reducible exact LeO.refl _)
   |(with_reducible exact LeO.none _)
   |(with_reducible refine LeO.ite ?_ ?_)
   |(with_reducible refine LeO.bind ?_ (fun _=>?_))
   |exact laws_eqLog.mono _ _ _ _ _
   |exact LeO.none _
   |refine LeO.ite ?_ ?_
   |refine LeO.bind ?_ (fun _=>?_)
set_option maxHeartbeats 8000000 in
set_option maxRecDepth 100000 in
theorem laws_eqHouse.calls (k:Nat) (a0_0:Int) (a0_1:Bool) (a0_2:Int) (A0_3:Option Addr) (c0_3:Nat) (l0_3:List (S62)) (a0_4:Int) (a1_0:Int) (a1_1:Bool) (a1_2:Int) (A1_3:Option Addr) (c1_3:Nat) (l1_3:List (S62)) (a1_4:Int) (r:Bool) (w:World) (hr0_3:Kd.C k62 w A0_3 l0_3.length l0_3) (hc0_3:l0_3.length≤c0_3) (hr1_3:Kd.C k62 w A1_3 l1_3.length l1_3) (hc1_3:l1_3.length≤c1_3) (h:laws_eqHouse.f k a0_0 a0_1 a0_2 l0_3 a0_4 a1_0 a1_1 a1_2 l1_3 a1_4=some r) :
  Calls Try.prog 17 #[.agg #[.int .i64 a0_0,.bool a0_1,.int .i64 a0_2,.slice A0_3 l0_3.length c0_3,.int .i64 a0_4],.agg #[.int .i64 a1_0,.bool a1_1,.int .i64 a1_2,.slice A1_3 l1_3.length c1_3,.int .i64 a1_4]] w fun e w'=>e=.returned (.bool r)∧Below w.heap.size w w':=by
 have hu26:=Try.underlying26
 have hu24:=Try.underlying24
 have HR0_3:=qal.mk hr0_3
 have HC0_3:=qal.mk hc0_3
 clear hr0_3 hc0_3
 have HR1_3:=qal.mk hr1_3
 have HC1_3:=qal.mk hc1_3
 clear hr1_3 hc1_3
 have HB:=qal.mk (Below.refl w.heap.size w)
 have H:(if a0_0=a1_0 then(if(a0_1 != a1_1)=true then(some false) else(if a0_2=a1_2 then((laws_eqLog.f k l0_3 a0_4 l1_3 a1_4).bind fun t134=>(if t134=true then(some true) else(some false))) else(some false))) else(some false))=some r:=h
 clear h
 by_cases c3:a0_0=a1_0
 ·rw[if_pos c3] at H
  have c3b0:(a0_0 == a1_0)=true:=beq_iff_eq.mpr c3
  have c3b1:(a0_0 != a1_0)=false:=bne_eq_false_iff_eq.mpr c3
  clear c3
  by_cases c4:(a0_1 != a1_1)=true
  ·rw[if_pos c4] at H
   have c4b0:(a0_1 != a1_1)=true:=c4
   (try(have c4b1:decide (a0_1=a1_1)=false:=by simpa using c4))
   (try(have c4b2:(a0_1 == a1_1)=false:=by simpa using c4))
   (try(have c4b3:¬(a0_1=a1_1):=by simpa using c4))
   clear c4
   obtain rfl:=Option.some.inj H
   go_enter Try.func17,Try.ntmps17
   go_wp2_with(first|((with_reducible refine qak (N:=2) rfl ?_);refine qaj ?hg (N:=2) ?hd (cs:=#[.int .i64 a0_0,.bool a0_1,.int .i64 a0_2,.slice A0_3 l0_3.length c0_3,.int .i64 a0_4]) (t:=26) ?hr ?_;(case hd=>rfl);(case hg=>rfl);(case hr=>first|(go_simp;done)|(go_simp;rfl));intro gb132 hg w5 hbox hb;have n0_:=qal.mk (qae (za2 HB) hb);have n1_:=qal.mk (hbox);have n2_:=qal.mk ((by rw[hg];exact(qad (za2 HB)):w.heap.size≤gb132));have n3_:=qal.mk ((by rw[hg];exact(qad (za2 HB)):w.heap.size≤gb132));clear HB;have HB:=n0_;have BK132:=n1_;have GW132:=n2_;have GE132:=n3_;clear n0_ n1_ n2_ n3_;clear hb hbox hg)|((with_reducible refine qak (N:=3) rfl ?_);refine qaj ?hg (N:=3) ?hd (cs:=#[.int .i64 a1_0,.bool a1_1,.int .i64 a1_2,.slice A1_3 l1_3.length c1_3,.int .i64 a1_4]) (t:=26) ?hr ?_;(case hd=>rfl);(case hg=>rfl);(case hr=>first|(go_simp;done)|(go_simp;rfl));intro gb133 hg w6 hbox hb;have n0_:=qal.mk (qac (g:=gb132) (o:=.cells #[.int .i64 a0_0,.bool a0_1,.int .i64 a0_2,.slice A0_3 l0_3.length c0_3,.int .i64 a0_4] 26 (0,0)) (za0 BK132) hb);have n1_:=qal.mk (qae (za1 HB GE132) hb);have n2_:=qal.mk (hbox);have n3_:=qal.mk ((by rw[hg];exact(qad (za1 HB GE132)):w.heap.size≤gb133));have n4_:=qal.mk ((by rw[hg];exact(qad (za1 HB GE132)):w.heap.size≤gb133));have n5_:=qal.mk ((by rw[hg];exact Nat.ne_of_lt (qao (g:=gb132) (o:=.cells #[.int .i64 a0_0,.bool a0_1,.int .i64 a0_2,.slice A0_3 l0_3.length c0_3,.int .i64 a0_4] 26 (0,0)) (za0 BK132)):gb132≠gb133));have n6_:=qal.mk ((by rw[hg];exact Nat.ne_of_gt (qao (g:=gb132) (o:=.cells #[.int .i64 a0_0,.bool a0_1,.int .i64 a0_2,.slice A0_3 l0_3.length c0_3,.int .i64 a0_4] 26 (0,0)) (za0 BK132)):gb133≠gb132));clear BK132;clear HB;have BK132:=n0_;have HB:=n1_;have BK133:=n2_;have GW133:=n3_;have GE133:=n4_;have NB132_133:=n5_;have NB133_132:=n6_;clear n0_ n1_ n2_ n3_ n4_ n5_ n6_;clear hb hbox hg;have hnb7:=NB132_133.out;have hnc7:=NB133_132.out;have hcz8_0:w6.cell? ⟨gb132,0,none⟩=some (.int .i64 a0_0):=(qab BK132.out 0).trans rfl;have hcz8_1:w6.cell? ⟨gb132,1,none⟩=some (.bool a0_1):=(qab BK132.out 1).trans rfl;have hcz8_2:w6.cell? ⟨gb132,2,none⟩=some (.int .i64 a0_2):=(qab BK132.out 2).trans rfl;have hcz8_3:w6.cell? ⟨gb132,3,none⟩=some (.slice A0_3 l0_3.length c0_3):=(qab BK132.out 3).trans rfl;have hcz8_4:w6.cell? ⟨gb132,4,none⟩=some (.int .i64 a0_4):=(qab BK132.out 4).trans rfl;have hfz8_0:=qaa BK132.out 0;have hfz8_1:=qaa BK132.out 1;have hfz8_2:=qaa BK132.out 2;have hfz8_3:=qaa BK132.out 3;have hfz8_4:=qaa BK132.out 4;have hcz9_0:w6.cell? ⟨gb133,0,none⟩=some (.int .i64 a1_0):=(qab BK133.out 0).trans rfl;have hcz9_1:w6.cell? ⟨gb133,1,none⟩=some (.bool a1_1):=(qab BK133.out 1).trans rfl;have hcz9_2:w6.cell? ⟨gb133,2,none⟩=some (.int .i64 a1_2):=(qab BK133.out 2).trans rfl;have hcz9_3:w6.cell? ⟨gb133,3,none⟩=some (.slice A1_3 l1_3.length c1_3):=(qab BK133.out 3).trans rfl;have hcz9_4:w6.cell? ⟨gb133,4,none⟩=some (.int .i64 a1_4):=(qab BK133.out 4).trans rfl;have hfz9_0:=qaa BK133.out 0;have hfz9_1:=qaa BK133.out 1;have hfz9_2:=qaa BK133.out 2;have hfz9_3:=qaa BK133.out 3;have hfz9_4:=qaa BK133.out 4))
   go_ret
   exact⟨za9,za3 HB GE132 GE133⟩
  ·rw[if_neg c4] at H
   have c4b0:(a0_1 != a1_1)=false:=by simpa using c4
   (try(have c4b1:decide (a0_1=a1_1)=true:=by simpa using c4))
   (try(have c4b2:(a0_1 == a1_1)=true:=by simpa using c4))
   clear c4
   by_cases c10:a0_2=a1_2
   ·rw[if_pos c10] at H
    have c10b0:(a0_2 == a1_2)=true:=beq_iff_eq.mpr c10
    have c10b1:(a0_2 != a1_2)=false:=bne_eq_false_iff_eq.mpr c10
    clear c10
    replace H:=Option.bind_eq_some_iff.mp H
    obtain⟨t134,A110,H⟩:=H
    replace H:(if t134=true then(some true) else(some false))=some r:=H
    have A11:=qal.mk A110
    clear A110
    by_cases c12:t134=true
    ·subst c12
     have H1:(some true)=some r:=by rw[if_pos rfl] at H;exact H
     clear H
     have H:=H1
     clear H1
     obtain rfl:=Option.some.inj H
     go_enter Try.func17,Try.ntmps17
     go_wp2_with(first|((with_reducible refine qak (N:=2) rfl ?_);refine qaj ?hg (N:=2) ?hd (cs:=#[.int .i64 a0_0,.bool a0_1,.int .i64 a0_2,.slice A0_3 l0_3.length c0_3,.int .i64 a0_4]) (t:=26) ?hr ?_;(case hd=>rfl);(case hg=>rfl);(case hr=>first|(go_simp;done)|(go_simp;rfl));intro gb132 hg w13 hbox hb;have n0_:=qal.mk (qae (za2 HB) hb);have n1_:=qal.mk (hbox);have n2_:=qal.mk ((by rw[hg];exact(qad (za2 HB)):w.heap.size≤gb132));have n3_:=qal.mk ((by rw[hg];exact(qad (za2 HB)):w.heap.size≤gb132));clear HB;have HB:=n0_;have BK132:=n1_;have GW132:=n2_;have GE132:=n3_;clear n0_ n1_ n2_ n3_;clear hb hbox hg)|((with_reducible refine qak (N:=3) rfl ?_);refine qaj ?hg (N:=3) ?hd (cs:=#[.int .i64 a1_0,.bool a1_1,.int .i64 a1_2,.slice A1_3 l1_3.length c1_3,.int .i64 a1_4]) (t:=26) ?hr ?_;(case hd=>rfl);(case hg=>rfl);(case hr=>first|(go_simp;done)|(go_simp;rfl));intro gb133 hg w14 hbox hb;have n0_:=qal.mk (qac (g:=gb132) (o:=.cells #[.int .i64 a0_0,.bool a0_1,.int .i64 a0_2,.slice A0_3 l0_3.length c0_3,.int .i64 a0_4] 26 (0,0)) (za0 BK132) hb);have n1_:=qal.mk (qae (za1 HB GE132) hb);have n2_:=qal.mk (hbox);have n3_:=qal.mk ((by rw[hg];exact(qad (za1 HB GE132)):w.heap.size≤gb133));have n4_:=qal.mk ((by rw[hg];exact(qad (za1 HB GE132)):w.heap.size≤gb133));have n5_:=qal.mk ((by rw[hg];exact Nat.ne_of_lt (qao (g:=gb132) (o:=.cells #[.int .i64 a0_0,.bool a0_1,.int .i64 a0_2,.slice A0_3 l0_3.length c0_3,.int .i64 a0_4] 26 (0,0)) (za0 BK132)):gb132≠gb133));have n6_:=qal.mk ((by rw[hg];exact Nat.ne_of_gt (qao (g:=gb132) (o:=.cells #[.int .i64 a0_0,.bool a0_1,.int .i64 a0_2,.slice A0_3 l0_3.length c0_3,.int .i64 a0_4] 26 (0,0)) (za0 BK132)):gb133≠gb132));clear BK132;clear HB;have BK132:=n0_;have HB:=n1_;have BK133:=n2_;have GW133:=n3_;have GE133:=n4_;have NB132_133:=n5_;have NB133_132:=n6_;clear n0_ n1_ n2_ n3_ n4_ n5_ n6_;clear hb hbox hg;have hnb15:=NB132_133.out;have hnc15:=NB133_132.out;have hcz16_0:w14.cell? ⟨gb132,0,none⟩=some (.int .i64 a0_0):=(qab BK132.out 0).trans rfl;have hcz16_1:w14.cell? ⟨gb132,1,none⟩=some (.bool a0_1):=(qab BK132.out 1).trans rfl;have hcz16_2:w14.cell? ⟨gb132,2,none⟩=some (.int .i64 a0_2):=(qab BK132.out 2).trans rfl;have hcz16_3:w14.cell? ⟨gb132,3,none⟩=some (.slice A0_3 l0_3.length c0_3):=(qab BK132.out 3).trans rfl;have hcz16_4:w14.cell? ⟨gb132,4,none⟩=some (.int .i64 a0_4):=(qab BK132.out 4).trans rfl;have hfz16_0:=qaa BK132.out 0;have hfz16_1:=qaa BK132.out 1;have hfz16_2:=qaa BK132.out 2;have hfz16_3:=qaa BK132.out 3;have hfz16_4:=qaa BK132.out 4;have hcz17_0:w14.cell? ⟨gb133,0,none⟩=some (.int .i64 a1_0):=(qab BK133.out 0).trans rfl;have hcz17_1:w14.cell? ⟨gb133,1,none⟩=some (.bool a1_1):=(qab BK133.out 1).trans rfl;have hcz17_2:w14.cell? ⟨gb133,2,none⟩=some (.int .i64 a1_2):=(qab BK133.out 2).trans rfl;have hcz17_3:w14.cell? ⟨gb133,3,none⟩=some (.slice A1_3 l1_3.length c1_3):=(qab BK133.out 3).trans rfl;have hcz17_4:w14.cell? ⟨gb133,4,none⟩=some (.int .i64 a1_4):=(qab BK133.out 4).trans rfl;have hfz17_0:=qaa BK133.out 0;have hfz17_1:=qaa BK133.out 1;have hfz17_2:=qaa BK133.out 2;have hfz17_3:=qaa BK133.out 3;have hfz17_4:=qaa BK133.out 4)|((with_reducible refine qai (f:=61) rfl ?_);refine qau (some 24) rfl rfl Try.func61 (by kernel_rfl) rfl #[.agg #[.slice A0_3 l0_3.length c0_3,.int .i64 a0_4],.agg #[.slice A1_3 l1_3.length c1_3,.int .i64 a1_4]] rfl (by(try simp only[List.map_toArray,List.map_cons,List.map_nil]);first|done|rfl|(simp only[List.length_drop,List.length_take];rfl)) ?_;(with_reducible refine(laws_eqLog.calls k _ _ l0_3 a0_4 _ _ l1_3 a1_4 true _ ?side1 ?side2 ?side3 ?side4 A11.out).mono ?_);(case side1=>repeat(first|exact(Kd.C_below HR0_3.out HB.out)|(with_reducible refine Kd.C_alloc ?_ _)|(with_reducible refine Kd.C_drewN ?_ _)|(with_reducible refine Kd.C_drew ?_)));(case side2=>exact HC0_3.out);(case side3=>repeat(first|exact(Kd.C_below HR1_3.out HB.out)|(with_reducible refine Kd.C_alloc ?_ _)|(with_reducible refine Kd.C_drewN ?_ _)|(with_reducible refine Kd.C_drew ?_)));(case side4=>exact HC1_3.out);rintro e w18 ⟨rfl,hb⟩;refine⟨_,rfl,?_⟩;have n0_:=qal.mk (qac (g:=gb132) (o:=.cells #[.int .i64 a0_0,.bool a0_1,.int .i64 a0_2,.slice A0_3 l0_3.length c0_3,.int .i64 a0_4] 26 (0,0)) (za0 BK132) hb);have n1_:=qal.mk (qac (g:=gb133) (o:=.cells #[.int .i64 a1_0,.bool a1_1,.int .i64 a1_2,.slice A1_3 l1_3.length c1_3,.int .i64 a1_4] 26 (0,0)) (za0 BK133) hb);have n2_:=qal.mk (qae (za3 HB GE132 GE133) hb);clear BK132;clear BK133;clear HB;have BK132:=n0_;have BK133:=n1_;have HB:=n2_;clear n0_ n1_ n2_;(try clear hb);(try clear hb2);(try clear hk);(try clear hi)))
     go_ret
     exact⟨za9,za3 HB GE132 GE133⟩
    ·replace c12:=Bool.eq_false_iff.mpr c12
     subst c12
     have H1:(some false)=some r:=by rw[if_neg (show ¬(false=true) by decide)] at H;exact H
     clear H
     have H:=H1
     clear H1
     obtain rfl:=Option.some.inj H
     go_enter Try.func17,Try.ntmps17
     go_wp2_with(first|((with_reducible refine qak (N:=2) rfl ?_);refine qaj ?hg (N:=2) ?hd (cs:=#[.int .i64 a0_0,.bool a0_1,.int .i64 a0_2,.slice A0_3 l0_3.length c0_3,.int .i64 a0_4]) (t:=26) ?hr ?_;(case hd=>rfl);(case hg=>rfl);(case hr=>first|(go_simp;done)|(go_simp;rfl));intro gb132 hg w19 hbox hb;have n0_:=qal.mk (qae (za2 HB) hb);have n1_:=qal.mk (hbox);have n2_:=qal.mk ((by rw[hg];exact(qad (za2 HB)):w.heap.size≤gb132));have n3_:=qal.mk ((by rw[hg];exact(qad (za2 HB)):w.heap.size≤gb132));clear HB;have HB:=n0_;have BK132:=n1_;have GW132:=n2_;have GE132:=n3_;clear n0_ n1_ n2_ n3_;clear hb hbox hg)|((with_reducible refine qak (N:=3) rfl ?_);refine qaj ?hg (N:=3) ?hd (cs:=#[.int .i64 a1_0,.bool a1_1,.int .i64 a1_2,.slice A1_3 l1_3.length c1_3,.int .i64 a1_4]) (t:=26) ?hr ?_;(case hd=>rfl);(case hg=>rfl);(case hr=>first|(go_simp;done)|(go_simp;rfl));intro gb133 hg w20 hbox hb;have n0_:=qal.mk (qac (g:=gb132) (o:=.cells #[.int .i64 a0_0,.bool a0_1,.int .i64 a0_2,.slice A0_3 l0_3.length c0_3,.int .i64 a0_4] 26 (0,0)) (za0 BK132) hb);have n1_:=qal.mk (qae (za1 HB GE132) hb);have n2_:=qal.mk (hbox);have n3_:=qal.mk ((by rw[hg];exact(qad (za1 HB GE132)):w.heap.size≤gb133));have n4_:=qal.mk ((by rw[hg];exact(qad (za1 HB GE132)):w.heap.size≤gb133));have n5_:=qal.mk ((by rw[hg];exact Nat.ne_of_lt (qao (g:=gb132) (o:=.cells #[.int .i64 a0_0,.bool a0_1,.int .i64 a0_2,.slice A0_3 l0_3.length c0_3,.int .i64 a0_4] 26 (0,0)) (za0 BK132)):gb132≠gb133));have n6_:=qal.mk ((by rw[hg];exact Nat.ne_of_gt (qao (g:=gb132) (o:=.cells #[.int .i64 a0_0,.bool a0_1,.int .i64 a0_2,.slice A0_3 l0_3.length c0_3,.int .i64 a0_4] 26 (0,0)) (za0 BK132)):gb133≠gb132));clear BK132;clear HB;have BK132:=n0_;have HB:=n1_;have BK133:=n2_;have GW133:=n3_;have GE133:=n4_;have NB132_133:=n5_;have NB133_132:=n6_;clear n0_ n1_ n2_ n3_ n4_ n5_ n6_;clear hb hbox hg;have hnb21:=NB132_133.out;have hnc21:=NB133_132.out;have hcz22_0:w20.cell? ⟨gb132,0,none⟩=some (.int .i64 a0_0):=(qab BK132.out 0).trans rfl;have hcz22_1:w20.cell? ⟨gb132,1,none⟩=some (.bool a0_1):=(qab BK132.out 1).trans rfl;have hcz22_2:w20.cell? ⟨gb132,2,none⟩=some (.int .i64 a0_2):=(qab BK132.out 2).trans rfl;have hcz22_3:w20.cell? ⟨gb132,3,none⟩=some (.slice A0_3 l0_3.length c0_3):=(qab BK132.out 3).trans rfl;have hcz22_4:w20.cell? ⟨gb132,4,none⟩=some (.int .i64 a0_4):=(qab BK132.out 4).trans rfl;have hfz22_0:=qaa BK132.out 0;have hfz22_1:=qaa BK132.out 1;have hfz22_2:=qaa BK132.out 2;have hfz22_3:=qaa BK132.out 3;have hfz22_4:=qaa BK132.out 4;have hcz23_0:w20.cell? ⟨gb133,0,none⟩=some (.int .i64 a1_0):=(qab BK133.out 0).trans rfl;have hcz23_1:w20.cell? ⟨gb133,1,none⟩=some (.bool a1_1):=(qab BK133.out 1).trans rfl;have hcz23_2:w20.cell? ⟨gb133,2,none⟩=some (.int .i64 a1_2):=(qab BK133.out 2).trans rfl;have hcz23_3:w20.cell? ⟨gb133,3,none⟩=some (.slice A1_3 l1_3.length c1_3):=(qab BK133.out 3).trans rfl;have hcz23_4:w20.cell? ⟨gb133,4,none⟩=some (.int .i64 a1_4):=(qab BK133.out 4).trans rfl;have hfz23_0:=qaa BK133.out 0;have hfz23_1:=qaa BK133.out 1;have hfz23_2:=qaa BK133.out 2;have hfz23_3:=qaa BK133.out 3;have hfz23_4:=qaa BK133.out 4)|((with_reducible refine qai (f:=61) rfl ?_);refine qau (some 24) rfl rfl Try.func61 (by kernel_rfl) rfl #[.agg #[.slice A0_3 l0_3.length c0_3,.int .i64 a0_4],.agg #[.slice A1_3 l1_3.length c1_3,.int .i64 a1_4]] rfl (by(try simp only[List.map_toArray,List.map_cons,List.map_nil]);first|done|rfl|(simp only[List.length_drop,List.length_take];rfl)) ?_;(with_reducible refine(laws_eqLog.calls k _ _ l0_3 a0_4 _ _ l1_3 a1_4 false _ ?side1 ?side2 ?side3 ?side4 A11.out).mono ?_);(case side1=>repeat(first|exact(Kd.C_below HR0_3.out HB.out)|(with_reducible refine Kd.C_alloc ?_ _)|(with_reducible refine Kd.C_drewN ?_ _)|(with_reducible refine Kd.C_drew ?_)));(case side2=>exact HC0_3.out);(case side3=>repeat(first|exact(Kd.C_below HR1_3.out HB.out)|(with_reducible refine Kd.C_alloc ?_ _)|(with_reducible refine Kd.C_drewN ?_ _)|(with_reducible refine Kd.C_drew ?_)));(case side4=>exact HC1_3.out);rintro e w24 ⟨rfl,hb⟩;refine⟨_,rfl,?_⟩;have n0_:=qal.mk (qac (g:=gb132) (o:=.cells #[.int .i64 a0_0,.bool a0_1,.int .i64 a0_2,.slice A0_3 l0_3.length c0_3,.int .i64 a0_4] 26 (0,0)) (za0 BK132) hb);have n1_:=qal.mk (qac (g:=gb133) (o:=.cells #[.int .i64 a1_0,.bool a1_1,.int .i64 a1_2,.slice A1_3 l1_3.length c1_3,.int .i64 a1_4] 26 (0,0)) (za0 BK133) hb);have n2_:=qal.mk (qae (za3 HB GE132 GE133) hb);clear BK132;clear BK133;clear HB;have BK132:=n0_;have BK133:=n1_;have HB:=n2_;clear n0_ n1_ n2_;(try clear hb);(try clear hb2);(try clear hk);(try clear hi)))
     go_ret
     exact⟨za9,za3 HB GE132 GE133⟩
   ·rw[if_neg c10] at H
    have c10b0:(a0_2 == a1_2)=false:=beq_eq_false_iff_ne.mpr c10
    have c10b1:(a0_2 != a1_2)=true:=bne_iff_ne.mpr c10
    obtain rfl:=Option.some.inj H
    go_enter Try.func17,Try.ntmps17
    go_wp2_with(first|((with_reducible refine qak (N:=2) rfl ?_);refine qaj ?hg (N:=2) ?hd (cs:=#[.int .i64 a0_0,.bool a0_1,.int .i64 a0_2,.slice A0_3 l0_3.length c0_3,.int .i64 a0_4]) (t:=26) ?hr ?_;(case hd=>rfl);(case hg=>rfl);(case hr=>first|(go_simp;done)|(go_simp;rfl));intro gb132 hg w25 hbox hb;have n0_:=qal.mk (qae (za2 HB) hb);have n1_:=qal.mk (hbox);have n2_:=qal.mk ((by rw[hg];exact(qad (za2 HB)):w.heap.size≤gb132));have n3_:=qal.mk ((by rw[hg];exact(qad (za2 HB)):w.heap.size≤gb132));clear HB;have HB:=n0_;have BK132:=n1_;have GW132:=n2_;have GE132:=n3_;clear n0_ n1_ n2_ n3_;clear hb hbox hg)|((with_reducible refine qak (N:=3) rfl ?_);refine qaj ?hg (N:=3) ?hd (cs:=#[.int .i64 a1_0,.bool a1_1,.int .i64 a1_2,.slice A1_3 l1_3.length c1_3,.int .i64 a1_4]) (t:=26) ?hr ?_;(case hd=>rfl);(case hg=>rfl);(case hr=>first|(go_simp;done)|(go_simp;rfl));intro gb133 hg w26 hbox hb;have n0_:=qal.mk (qac (g:=gb132) (o:=.cells #[.int .i64 a0_0,.bool a0_1,.int .i64 a0_2,.slice A0_3 l0_3.length c0_3,.int .i64 a0_4] 26 (0,0)) (za0 BK132) hb);have n1_:=qal.mk (qae (za1 HB GE132) hb);have n2_:=qal.mk (hbox);have n3_:=qal.mk ((by rw[hg];exact(qad (za1 HB GE132)):w.heap.size≤gb133));have n4_:=qal.mk ((by rw[hg];exact(qad (za1 HB GE132)):w.heap.size≤gb133));have n5_:=qal.mk ((by rw[hg];exact Nat.ne_of_lt (qao (g:=gb132) (o:=.cells #[.int .i64 a0_0,.bool a0_1,.int .i64 a0_2,.slice A0_3 l0_3.length c0_3,.int .i64 a0_4] 26 (0,0)) (za0 BK132)):gb132≠gb133));have n6_:=qal.mk ((by rw[hg];exact Nat.ne_of_gt (qao (g:=gb132) (o:=.cells #[.int .i64 a0_0,.bool a0_1,.int .i64 a0_2,.slice A0_3 l0_3.length c0_3,.int .i64 a0_4] 26 (0,0)) (za0 BK132)):gb133≠gb132));clear BK132;clear HB;have BK132:=n0_;have HB:=n1_;have BK133:=n2_;have GW133:=n3_;have GE133:=n4_;have NB132_133:=n5_;have NB133_132:=n6_;clear n0_ n1_ n2_ n3_ n4_ n5_ n6_;clear hb hbox hg;have hnb27:=NB132_133.out;have hnc27:=NB133_132.out;have hcz28_0:w26.cell? ⟨gb132,0,none⟩=some (.int .i64 a0_0):=(qab BK132.out 0).trans rfl;have hcz28_1:w26.cell? ⟨gb132,1,none⟩=some (.bool a0_1):=(qab BK132.out 1).trans rfl;have hcz28_2:w26.cell? ⟨gb132,2,none⟩=some (.int .i64 a0_2):=(qab BK132.out 2).trans rfl;have hcz28_3:w26.cell? ⟨gb132,3,none⟩=some (.slice A0_3 l0_3.length c0_3):=(qab BK132.out 3).trans rfl;have hcz28_4:w26.cell? ⟨gb132,4,none⟩=some (.int .i64 a0_4):=(qab BK132.out 4).trans rfl;have hfz28_0:=qaa BK132.out 0;have hfz28_1:=qaa BK132.out 1;have hfz28_2:=qaa BK132.out 2;have hfz28_3:=qaa BK132.out 3;have hfz28_4:=qaa BK132.out 4;have hcz29_0:w26.cell? ⟨gb133,0,none⟩=some (.int .i64 a1_0):=(qab BK133.out 0).trans rfl;have hcz29_1:w26.cell? ⟨gb133,1,none⟩=some (.bool a1_1):=(qab BK133.out 1).trans rfl;have hcz29_2:w26.cell? ⟨gb133,2,none⟩=some (.int .i64 a1_2):=(qab BK133.out 2).trans rfl;have hcz29_3:w26.cell? ⟨gb133,3,none⟩=some (.slice A1_3 l1_3.length c1_3):=(qab BK133.out 3).trans rfl;have hcz29_4:w26.cell? ⟨gb133,4,none⟩=some (.int .i64 a1_4):=(qab BK133.out 4).trans rfl;have hfz29_0:=qaa BK133.out 0;have hfz29_1:=qaa BK133.out 1;have hfz29_2:=qaa BK133.out 2;have hfz29_3:=qaa BK133.out 3;have hfz29_4:=qaa BK133.out 4))
    go_ret
    exact⟨za9,za3 HB GE132 GE133⟩
 ·rw[if_neg c3] at H
  have c3b0:(a0_0 == a1_0)=false:=beq_eq_false_iff_ne.mpr c3
  have c3b1:(a0_0 != a1_0)=true:=bne_iff_ne.mpr c3
  obtain rfl:=Option.some.inj H
  go_enter Try.func17,Try.ntmps17
  go_wp2_with(first|((with_reducible refine qak (N:=2) rfl ?_);refine qaj ?hg (N:=2) ?hd (cs:=#[.int .i64 a0_0,.bool a0_1,.int .i64 a0_2,.slice A0_3 l0_3.length c0_3,.int .i64 a0_4]) (t:=26) ?hr ?_;(case hd=>rfl);(case hg=>rfl);(case hr=>first|(go_simp;done)|(go_simp;rfl));intro gb132 hg w30 hbox hb;have n0_:=qal.mk (qae (za2 HB) hb);have n1_:=qal.mk (hbox);have n2_:=qal.mk ((by rw[hg];exact(qad (za2 HB)):w.heap.size≤gb132));have n3_:=qal.mk ((by rw[hg];exact(qad (za2 HB)):w.heap.size≤gb132));clear HB;have HB:=n0_;have BK132:=n1_;have GW132:=n2_;have GE132:=n3_;clear n0_ n1_ n2_ n3_;clear hb hbox hg)|((with_reducible refine qak (N:=3) rfl ?_);refine qaj ?hg (N:=3) ?hd (cs:=#[.int .i64 a1_0,.bool a1_1,.int .i64 a1_2,.slice A1_3 l1_3.length c1_3,.int .i64 a1_4]) (t:=26) ?hr ?_;(case hd=>rfl);(case hg=>rfl);(case hr=>first|(go_simp;done)|(go_simp;rfl));intro gb133 hg w31 hbox hb;have n0_:=qal.mk (qac (g:=gb132) (o:=.cells #[.int .i64 a0_0,.bool a0_1,.int .i64 a0_2,.slice A0_3 l0_3.length c0_3,.int .i64 a0_4] 26 (0,0)) (za0 BK132) hb);have n1_:=qal.mk (qae (za1 HB GE132) hb);have n2_:=qal.mk (hbox);have n3_:=qal.mk ((by rw[hg];exact(qad (za1 HB GE132)):w.heap.size≤gb133));have n4_:=qal.mk ((by rw[hg];exact(qad (za1 HB GE132)):w.heap.size≤gb133));have n5_:=qal.mk ((by rw[hg];exact Nat.ne_of_lt (qao (g:=gb132) (o:=.cells #[.int .i64 a0_0,.bool a0_1,.int .i64 a0_2,.slice A0_3 l0_3.length c0_3,.int .i64 a0_4] 26 (0,0)) (za0 BK132)):gb132≠gb133));have n6_:=qal.mk ((by rw[hg];exact Nat.ne_of_gt (qao (g:=gb132) (o:=.cells #[.int .i64 a0_0,.bool a0_1,.int .i64 a0_2,.slice A0_3 l0_3.length c0_3,.int .i64 a0_4] 26 (0,0)) (za0 BK132)):gb133≠gb132));clear BK132;clear HB;have BK132:=n0_;have HB:=n1_;have BK133:=n2_;have GW133:=n3_;have GE133:=n4_;have NB132_133:=n5_;have NB133_132:=n6_;clear n0_ n1_ n2_ n3_ n4_ n5_ n6_;clear hb hbox hg;have hnb32:=NB132_133.out;have hnc32:=NB133_132.out;have hcz33_0:w31.cell? ⟨gb132,0,none⟩=some (.int .i64 a0_0):=(qab BK132.out 0).trans rfl;have hcz33_1:w31.cell? ⟨gb132,1,none⟩=some (.bool a0_1):=(qab BK132.out 1).trans rfl;have hcz33_2:w31.cell? ⟨gb132,2,none⟩=some (.int .i64 a0_2):=(qab BK132.out 2).trans rfl;have hcz33_3:w31.cell? ⟨gb132,3,none⟩=some (.slice A0_3 l0_3.length c0_3):=(qab BK132.out 3).trans rfl;have hcz33_4:w31.cell? ⟨gb132,4,none⟩=some (.int .i64 a0_4):=(qab BK132.out 4).trans rfl;have hfz33_0:=qaa BK132.out 0;have hfz33_1:=qaa BK132.out 1;have hfz33_2:=qaa BK132.out 2;have hfz33_3:=qaa BK132.out 3;have hfz33_4:=qaa BK132.out 4;have hcz34_0:w31.cell? ⟨gb133,0,none⟩=some (.int .i64 a1_0):=(qab BK133.out 0).trans rfl;have hcz34_1:w31.cell? ⟨gb133,1,none⟩=some (.bool a1_1):=(qab BK133.out 1).trans rfl;have hcz34_2:w31.cell? ⟨gb133,2,none⟩=some (.int .i64 a1_2):=(qab BK133.out 2).trans rfl;have hcz34_3:w31.cell? ⟨gb133,3,none⟩=some (.slice A1_3 l1_3.length c1_3):=(qab BK133.out 3).trans rfl;have hcz34_4:w31.cell? ⟨gb133,4,none⟩=some (.int .i64 a1_4):=(qab BK133.out 4).trans rfl;have hfz34_0:=qaa BK133.out 0;have hfz34_1:=qaa BK133.out 1;have hfz34_2:=qaa BK133.out 2;have hfz34_3:=qaa BK133.out 3;have hfz34_4:=qaa BK133.out 4))
  go_ret
  exact⟨za9,za3 HB GE132 GE133⟩
def laws_markRecS.f (l0:List (S62)) (a1:Int):Option (Int):=if l0.length=0 then some a1 else none
set_option maxHeartbeats 8000000 in
set_option maxRecDepth 100000 in
theorem laws_markRecS.calls (A0:Option Addr) (c0:Nat) (l0:List (S62)) (a1:Int) (r:Int) (w:World) (hr0:Kd.C k62 w A0 l0.length l0) (hc0:l0.length≤c0) (h:laws_markRecS.f l0 a1=some r) :
  Calls Try.prog 102 #[.slice A0 l0.length c0,.int .i64 a1] w fun e w'=>e=.returned (.int .i64 r)∧Drawn0 w w':=by
 unfold laws_markRecS.f at h
 by_cases h0:l0.length=0
 ·rw[if_pos h0] at h
  injection h with h
  subst h
  obtain rfl:l0=[]:=List.eq_nil_of_length_eq_zero h0
  clear h0 hr0 hc0
  go_enter Try.func102,Try.ntmps102
  go_wp2
  go_loop [1,5] (fun k i=>k=.int .i64 a1∧i=.int .i64 0) (fun _ _=>0)
  case atStart=>exact⟨rfl,rfl⟩
  case round=>
   obtain⟨rfl,rfl⟩:=hrel
   go_wp2
   go_ret
   exact⟨rfl,Drawn0.refl _⟩
 ·rw[if_neg h0] at h
  exact absurd h (by simp)
def laws_markLog.f (l0_0:List (S62)) (a0_1:Int) (a1:Int):Option (Int):=(laws_markRecS.f l0_0 a1).bind fun t137=>(some t137)
set_option maxHeartbeats 8000000 in
set_option maxRecDepth 100000 in
theorem laws_markLog.calls (A0_0:Option Addr) (c0_0:Nat) (l0_0:List (S62)) (a0_1:Int) (a1:Int) (r:Int) (w:World) (hr0_0:Kd.C k62 w A0_0 l0_0.length l0_0) (hc0_0:l0_0.length≤c0_0) (h:laws_markLog.f l0_0 a0_1 a1=some r) :
  Calls Try.prog 62 #[.agg #[.slice A0_0 l0_0.length c0_0,.int .i64 a0_1],.int .i64 a1] w fun e w'=>e=.returned (.int .i64 r)∧Below w.heap.size w w':=by
 have hu24:=Try.underlying24
 have HR0_0:=qal.mk hr0_0
 have HC0_0:=qal.mk hc0_0
 clear hr0_0 hc0_0
 have HB:=qal.mk (Below.refl w.heap.size w)
 have H:((laws_markRecS.f l0_0 a1).bind fun t137=>(some t137))=some r:=h
 clear h
 replace H:=Option.bind_eq_some_iff.mp H
 obtain⟨t137,A30,H⟩:=H
 replace H:(some t137)=some r:=H
 have A3:=qal.mk A30
 clear A30
 obtain rfl:=Option.some.inj H
 go_enter Try.func62,Try.ntmps62
 go_wp2_with(first|((with_reducible refine qak (N:=2) rfl ?_);refine qaj ?hg (N:=2) ?hd (cs:=#[.slice A0_0 l0_0.length c0_0,.int .i64 a0_1]) (t:=24) ?hr ?_;(case hd=>rfl);(case hg=>rfl);(case hr=>first|(go_simp;done)|(go_simp;rfl));intro gb136 hg w4 hbox hb;have n0_:=qal.mk (qae (za2 HB) hb);have n1_:=qal.mk (hbox);have n2_:=qal.mk ((by rw[hg];exact(qad (za2 HB)):w.heap.size≤gb136));have n3_:=qal.mk ((by rw[hg];exact(qad (za2 HB)):w.heap.size≤gb136));clear HB;have HB:=n0_;have BK136:=n1_;have GW136:=n2_;have GE136:=n3_;clear n0_ n1_ n2_ n3_;clear hb hbox hg;have hcz5_0:w4.cell? ⟨gb136,0,none⟩=some (.slice A0_0 l0_0.length c0_0):=(qab BK136.out 0).trans rfl;have hcz5_1:w4.cell? ⟨gb136,1,none⟩=some (.int .i64 a0_1):=(qab BK136.out 1).trans rfl;have hfz5_0:=qaa BK136.out 0;have hfz5_1:=qaa BK136.out 1)|((with_reducible refine qai (f:=102) rfl ?_);refine qau (some 8) rfl rfl Try.func102 (by kernel_rfl) rfl #[.slice A0_0 l0_0.length c0_0,.int .i64 a1] rfl (by(try simp only[List.map_toArray,List.map_cons,List.map_nil]);first|done|rfl|(simp only[List.length_drop,List.length_take];rfl)) ?_;(with_reducible refine(laws_markRecS.calls _ _ l0_0 a1 t137 _ ?side1 ?side2 A3.out).mono ?_);(case side1=>repeat(first|exact(Kd.C_below HR0_0.out HB.out)|(with_reducible refine Kd.C_alloc ?_ _)|(with_reducible refine Kd.C_drewN ?_ _)|(with_reducible refine Kd.C_drew ?_)));(case side2=>exact HC0_0.out);rintro e w' ⟨rfl,⟨nd,rfl⟩⟩;refine⟨_,rfl,?_⟩))
 go_ret
 exact⟨za9,za1 HB GE136⟩
def laws_markHouse.f (a0_0:Int) (a0_1:Bool) (a0_2:Int) (l0_3:List (S62)) (a0_4:Int) (a1:Int):Option (Int):=(laws_markLog.f l0_3 a0_4 a1).bind fun t139=>(some t139)
set_option maxHeartbeats 8000000 in
set_option maxRecDepth 100000 in
theorem laws_markHouse.calls (a0_0:Int) (a0_1:Bool) (a0_2:Int) (A0_3:Option Addr) (c0_3:Nat) (l0_3:List (S62)) (a0_4:Int) (a1:Int) (r:Int) (w:World) (hr0_3:Kd.C k62 w A0_3 l0_3.length l0_3) (hc0_3:l0_3.length≤c0_3) (h:laws_markHouse.f a0_0 a0_1 a0_2 l0_3 a0_4 a1=some r) :
  Calls Try.prog 18 #[.agg #[.int .i64 a0_0,.bool a0_1,.int .i64 a0_2,.slice A0_3 l0_3.length c0_3,.int .i64 a0_4],.int .i64 a1] w fun e w'=>e=.returned (.int .i64 r)∧Below w.heap.size w w':=by
 have hu26:=Try.underlying26
 have hu24:=Try.underlying24
 have HR0_3:=qal.mk hr0_3
 have HC0_3:=qal.mk hc0_3
 clear hr0_3 hc0_3
 have HB:=qal.mk (Below.refl w.heap.size w)
 have H:((laws_markLog.f l0_3 a0_4 a1).bind fun t139=>(some t139))=some r:=h
 clear h
 replace H:=Option.bind_eq_some_iff.mp H
 obtain⟨t139,A30,H⟩:=H
 replace H:(some t139)=some r:=H
 have A3:=qal.mk A30
 clear A30
 obtain rfl:=Option.some.inj H
 go_enter Try.func18,Try.ntmps18
 go_wp2_with(first|((with_reducible refine qak (N:=2) rfl ?_);refine qaj ?hg (N:=2) ?hd (cs:=#[.int .i64 a0_0,.bool a0_1,.int .i64 a0_2,.slice A0_3 l0_3.length c0_3,.int .i64 a0_4]) (t:=26) ?hr ?_;(case hd=>rfl);(case hg=>rfl);(case hr=>first|(go_simp;done)|(go_simp;rfl));intro gb138 hg w4 hbox hb;have n0_:=qal.mk (qae (za2 HB) hb);have n1_:=qal.mk (hbox);have n2_:=qal.mk ((by rw[hg];exact(qad (za2 HB)):w.heap.size≤gb138));have n3_:=qal.mk ((by rw[hg];exact(qad (za2 HB)):w.heap.size≤gb138));clear HB;have HB:=n0_;have BK138:=n1_;have GW138:=n2_;have GE138:=n3_;clear n0_ n1_ n2_ n3_;clear hb hbox hg;have hcz5_0:w4.cell? ⟨gb138,0,none⟩=some (.int .i64 a0_0):=(qab BK138.out 0).trans rfl;have hcz5_1:w4.cell? ⟨gb138,1,none⟩=some (.bool a0_1):=(qab BK138.out 1).trans rfl;have hcz5_2:w4.cell? ⟨gb138,2,none⟩=some (.int .i64 a0_2):=(qab BK138.out 2).trans rfl;have hcz5_3:w4.cell? ⟨gb138,3,none⟩=some (.slice A0_3 l0_3.length c0_3):=(qab BK138.out 3).trans rfl;have hcz5_4:w4.cell? ⟨gb138,4,none⟩=some (.int .i64 a0_4):=(qab BK138.out 4).trans rfl;have hfz5_0:=qaa BK138.out 0;have hfz5_1:=qaa BK138.out 1;have hfz5_2:=qaa BK138.out 2;have hfz5_3:=qaa BK138.out 3;have hfz5_4:=qaa BK138.out 4)|((with_reducible refine qai (f:=62) rfl ?_);refine qau (some 8) rfl rfl Try.func62 (by kernel_rfl) rfl #[.agg #[.slice A0_3 l0_3.length c0_3,.int .i64 a0_4],.int .i64 a1] rfl (by(try simp only[List.map_toArray,List.map_cons,List.map_nil]);first|done|rfl|(simp only[List.length_drop,List.length_take];rfl)) ?_;(with_reducible refine(laws_markLog.calls _ _ l0_3 a0_4 a1 t139 _ ?side1 ?side2 A3.out).mono ?_);(case side1=>repeat(first|exact(Kd.C_below HR0_3.out HB.out)|(with_reducible refine Kd.C_alloc ?_ _)|(with_reducible refine Kd.C_drewN ?_ _)|(with_reducible refine Kd.C_drew ?_)));(case side2=>exact HC0_3.out);rintro e w6 ⟨rfl,hb⟩;refine⟨_,rfl,?_⟩;have n0_:=qal.mk (qac (g:=gb138) (o:=.cells #[.int .i64 a0_0,.bool a0_1,.int .i64 a0_2,.slice A0_3 l0_3.length c0_3,.int .i64 a0_4] 26 (0,0)) (za0 BK138) hb);have n1_:=qal.mk (qae (za1 HB GE138) hb);clear BK138;clear HB;have BK138:=n0_;have HB:=n1_;clear n0_ n1_;(try clear hb);(try clear hb2);(try clear hk);(try clear hi)))
 go_ret
 exact⟨za9,za1 HB GE138⟩
def laws_heldIntS.l0:Nat→List Int→Int→Int→Option (Int)
 |0,_,_,_=>none
 |k+1,x0,x1,x5=>if x5<(x0.length:Int) then(if 0≤x5 then(if(rd x0 x5)=x1 then(laws_heldIntS.l0 k x0 (wrap64 (x1+1)) (wrap64 (x5+1))) else(some (-1))) else(none)) else(some x1)
def laws_heldIntS.f (k:Nat) (l0:List Int) (a1:Int):Option (Int):=laws_heldIntS.l0 k l0 a1 0
theorem laws_heldIntS.mono_l:∀k,(∀y0 y1 y2,LeO (laws_heldIntS.l0 k y0 y1 y2) (laws_heldIntS.l0 (k+1) y0 y1 y2))
 |0=>fun _ _ _ r h=>by simp[laws_heldIntS.l0] at h
 |k+1=>by
  have ih0:=laws_heldIntS.mono_l k
  ·intro y0 y1 y2
   unfold laws_heldIntS.l0
   repeat' first
   |(with_reducible exact ih0 _ _ _)
   |(with_reducible exact LeO.refl _)
   |(with_reducible exact LeO.none _)
   |(with_reducible refine LeO.ite ?_ ?_)
   |(with_reducible refine LeO.bind ?_ (fun _=>?_))
   |exact ih0 _ _ _
   |exact LeO.none _
   |refine LeO.ite ?_ ?_
   |refine LeO.bind ?_ (fun _=>?_)
theorem laws_heldIntS.mono:∀a0 a1 k,LeO (laws_heldIntS.f k a0 a1) (laws_heldIntS.f (k+1) a0 a1):=by
 intro a0 a1 k
 have ih0:=laws_heldIntS.mono_l k
 unfold laws_heldIntS.f
 repeat' first
   |(with_reducible exact ih0 _ _ _)
   |(with_reducible exact LeO.refl _)
   |(with_reducible exact LeO.none _)
   |(with_reducible refine LeO.ite ?_ ?_)
   |(with_reducible refine LeO.bind ?_ (fun _=>?_))
   |exact ih0 _ _ _
   |exact LeO.none _
   |refine LeO.ite ?_ ?_
   |refine LeO.bind ?_ (fun _=>?_)
set_option maxHeartbeats 8000000 in
set_option maxRecDepth 100000 in
theorem laws_heldIntS.calls (k:Nat) (A0:Option Addr) (c0:Nat) (l0:List Int) (a1:Int) (r:Int) (w:World) (hr0:Kd.C (Kd.int .i64) w A0 l0.length l0) (hc0:l0.length≤c0) (h:laws_heldIntS.f k l0 a1=some r) :
  Calls Try.prog 123 #[.slice A0 l0.length c0,.int .i64 a1] w fun e w'=>e=.returned (.int .i64 r)∧Drawn0 w w':=by
 have HR0:=qal.mk hr0
 have HC0:=qal.mk hc0
 clear hr0 hc0
 have H:(laws_heldIntS.l0 k l0 a1 0)=some r:=h
 clear h
 have H':=qal.mk H
 clear H
 go_enter Try.func123,Try.ntmps123
 go_wp2
 go_loopg [1,5] k (fun kq v1 v5 w'=>∃(x1_1:Int) (x5_1:Int),v1=.int .i64 x1_1∧v5=.int .i64 x5_1∧qal (laws_heldIntS.l0 kq l0 x1_1 x5_1=some r)∧qal (kq≤k)∧Drawn0 w w')
 case atStart=>exact⟨(a1),(0),(za22),(za22),H',⟨Nat.le_refl _⟩,za44⟩
 case round=>
  clear H'
  try clear c1
  try clear p2
  obtain⟨x1_1,x5_1,rfl,rfl,HA,HK1,⟨m1,rfl⟩⟩:=hrel
  cases gk with
  |zero=>exact absurd HA.out (by simp[laws_heldIntS.l0])
  |succ k1=>
   have H:=HA.out
   clear HA
   simp only[laws_heldIntS.l0] at H
   by_cases c3:x5_1<(l0.length:Int)
   ·rw[if_pos c3] at H
    have c3b0:decide (x5_1<(l0.length:Int))=true:=decide_eq_true c3
    clear c3
    by_cases c4:0≤x5_1
    ·rw[if_pos c4] at H
     have c4b0:decide (0≤x5_1)=true:=decide_eq_true c4
     clear c4
     by_cases c5:(rd l0 x5_1)=x1_1
     ·rw[if_pos c5] at H
      have c5b0:((rd l0 x5_1) == x1_1)=true:=beq_iff_eq.mpr c5
      have c5b1:((rd l0 x5_1) != x1_1)=false:=bne_eq_false_iff_eq.mpr c5
      clear c5
      have H':=qal.mk H
      clear H
      have p140:0≤(x5_1:Int):=of_decide_eq_true (za8)
      have q140:x5_1<(l0.length:Int):=of_decide_eq_true (za8)
      obtain⟨ad140,e140,hx140_0⟩:=Kd.at_int HR0.out x5_1 p140 q140
      cases e140
      replace p140:=eq_true p140
      replace q140:=eq_true q140
      go_wp2
      go_roundg k1
      case measure=>have:=HK1.out;omega
      case rel=>exact⟨(wrap64 (x1_1+1)),(wrap64 (x5_1+1)),(za22),(za22),H',⟨by have:=HK1.out;omega⟩,za44⟩
     ·rw[if_neg c5] at H
      have c5b0:((rd l0 x5_1) == x1_1)=false:=beq_eq_false_iff_ne.mpr c5
      have c5b1:((rd l0 x5_1) != x1_1)=true:=bne_iff_ne.mpr c5
      obtain rfl:=Option.some.inj H
      have p140:0≤(x5_1:Int):=of_decide_eq_true (za8)
      have q140:x5_1<(l0.length:Int):=of_decide_eq_true (za8)
      obtain⟨ad140,e140,hx140_0⟩:=Kd.at_int HR0.out x5_1 p140 q140
      cases e140
      replace p140:=eq_true p140
      replace q140:=eq_true q140
      go_wp2
      go_ret
      exact⟨za22,za44⟩
    ·rw[if_neg c4] at H
     exact absurd H (by simp)
   ·rw[if_neg c3] at H
    have c3b0:decide (x5_1<(l0.length:Int))=false:=decide_eq_false c3
    clear c3
    obtain rfl:=Option.some.inj H
    go_wp2
    go_ret
    exact⟨za22,za44⟩
end Go.Proofs.Ytjccnaklodbbfaa.Print
