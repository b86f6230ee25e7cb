-- Written by squeeze.py, a program of this session, out of what print.sh and myprint.py had printed: cut to what is used, narrowed. Not trusted, Lean checks it.
import Derived.Test.YtjccnaklodbbfaaZK
import Derived.Test.YtjccnaklodbbfaaZe0
import Derived.Test.YtjccnaklodbbfaaZs0
import Derived.Test.YtjccnaklodbbfaaZu0
import Derived.Test.YtjccnaklodbbfaaZu1
import Derived.Test.YtjccnaklodbbfaaZu2
import Derived.Test.YtjccnaklodbbfaaZu3
namespace Go.Proofs.Ytjccnaklodbbfaa.Print
open Go.RowKit Go.Proofs.YtjccnaklodbbfaaW.PrintWords Go.Proofs.YtjccnaklodbbfaaW.PrintLast Go.Proofs.YtjccnaklodbbfaaW.PrintMore
attribute [local go_sem] max2_int min2_int max_two min_two max_three min_three max_four min_four
set_option linter.unusedVariables false
set_option linter.unusedSimpArgs false
def laws_FnExactTripsMay.f (k:Nat) (l0:List (S113)) (a1_0:Int) (a1_1:Int) (l1_2:List Int):Option (Bool):=(laws_szTripS.f k l0 1048576).bind fun t887=>(if t887<0 then(some true) else((laws_szRec.f a1_0 a1_1 l1_2 t887).bind fun t888=>(if t888<0 then(some true) else((laws_toTripS.f k l0).bind fun t889=>((laws_toRec.f k a1_0 a1_1 l1_2).bind fun bt892=>((spec_TripsMay.f k t889 bt892.1 bt892.2.1 bt892.2.2).bind fun t897=>((laws_toTripS.f k l0).bind fun t898=>((laws_toRec.f k a1_0 a1_1 l1_2).bind fun bt901=>((impl_TripsMay.f k t898 bt901.1 bt901.2.1 bt901.2.2).bind fun t907=>(if(t907 != t897)=true then(some false) else((laws_toTripS.f k l0).bind fun t908=>((laws_eqTripS.f k t898 t908).bind fun t911=>(if t911=true then((laws_toRec.f k a1_0 a1_1 l1_2).bind fun bt912=>((laws_eqRec.f k bt901.1 bt901.2.1 bt901.2.2 bt912.1 bt912.2.1 bt912.2.2).bind fun t917=>(if t917=true then(some true) else(some false)))) else(some false))))))))))))))
theorem laws_FnExactTripsMay.mono:∀a0 a1 a2 a3 k,LeO (laws_FnExactTripsMay.f k a0 a1 a2 a3) (laws_FnExactTripsMay.f (k+1) a0 a1 a2 a3):=by
 intro a0 a1 a2 a3 k
 unfold laws_FnExactTripsMay.f
 repeat' first
   |(with_reducible exact impl_TripsMay.mono _ _ _ _ _)
   |(with_reducible exact laws_eqRec.mono _ _ _ _ _ _ _)
   |(with_reducible exact laws_eqTripS.mono _ _ _)
   |(with_reducible exact laws_szTripS.mono _ _ _)
   |(with_reducible exact laws_toRec.mono _ _ _ _)
   |(with_reducible exact laws_toTripS.mono _ _)
   |(with_reducible exact spec_TripsMay.mono _ _ _ _ _)
   |(with_reducible exact LeO.refl _)
   |(with_reducible exact LeO.none _)
   |(with_reducible refine LeO.ite ?_ ?_)
   |(with_reducible refine LeO.bind ?_ (fun _=>?_))
   |exact impl_TripsMay.mono _ _ _ _ _
   |exact laws_eqRec.mono _ _ _ _ _ _ _
   |exact laws_eqTripS.mono _ _ _
   |exact laws_szTripS.mono _ _ _
   |exact laws_toRec.mono _ _ _ _
   |exact laws_toTripS.mono _ _
   |exact spec_TripsMay.mono _ _ _ _ _
   |exact LeO.none _
   |refine LeO.ite ?_ ?_
   |refine LeO.bind ?_ (fun _=>?_)
set_option maxHeartbeats 8000000 in
set_option maxRecDepth 100000 in
theorem laws_FnExactTripsMay.calls (k:Nat) (A0:Option Addr) (c0:Nat) (l0:List (S113)) (a1_0:Int) (a1_1:Int) (A1_2:Option Addr) (c1_2:Nat) (l1_2:List Int) (r:Bool) (w:World) (hr0:Kd.C k113 w A0 l0.length l0) (hc0:l0.length≤c0) (hr1_2:Kd.C (Kd.int .i64) w A1_2 l1_2.length l1_2) (hc1_2:l1_2.length≤c1_2) (h:laws_FnExactTripsMay.f k l0 a1_0 a1_1 l1_2=some r) :
  Calls Try.prog 11 #[.slice A0 l0.length c0,.agg #[.int .i64 a1_0,.int .i64 a1_1,.slice A1_2 l1_2.length c1_2]] w fun e w'=>e=.returned (.bool r)∧Below w.heap.size w w':=by
 have hu57:=Try.underlying57
 have hu62:=Try.underlying62
 have HR0:=qal.mk hr0
 have HC0:=qal.mk hc0
 clear hr0 hc0
 have HR1_2:=qal.mk hr1_2
 have HC1_2:=qal.mk hc1_2
 clear hr1_2 hc1_2
 have HB:=qal.mk (Below.refl w.heap.size w)
 have H:((laws_szTripS.f k l0 1048576).bind fun t887=>(if t887<0 then(some true) else((laws_szRec.f a1_0 a1_1 l1_2 t887).bind fun t888=>(if t888<0 then(some true) else((laws_toTripS.f k l0).bind fun t889=>((laws_toRec.f k a1_0 a1_1 l1_2).bind fun bt892=>((spec_TripsMay.f k t889 bt892.1 bt892.2.1 bt892.2.2).bind fun t897=>((laws_toTripS.f k l0).bind fun t898=>((laws_toRec.f k a1_0 a1_1 l1_2).bind fun bt901=>((impl_TripsMay.f k t898 bt901.1 bt901.2.1 bt901.2.2).bind fun t907=>(if(t907 != t897)=true then(some false) else((laws_toTripS.f k l0).bind fun t908=>((laws_eqTripS.f k t898 t908).bind fun t911=>(if t911=true then((laws_toRec.f k a1_0 a1_1 l1_2).bind fun bt912=>((laws_eqRec.f k bt901.1 bt901.2.1 bt901.2.2 bt912.1 bt912.2.1 bt912.2.2).bind fun t917=>(if t917=true then(some true) else(some false)))) else(some false)))))))))))))))=some r:=h
 clear h
 replace H:=Option.bind_eq_some_iff.mp H
 obtain⟨t887,A30,H⟩:=H
 replace H:(if t887<0 then(some true) else((laws_szRec.f a1_0 a1_1 l1_2 t887).bind fun t888=>(if t888<0 then(some true) else((laws_toTripS.f k l0).bind fun t889=>((laws_toRec.f k a1_0 a1_1 l1_2).bind fun bt892=>((spec_TripsMay.f k t889 bt892.1 bt892.2.1 bt892.2.2).bind fun t897=>((laws_toTripS.f k l0).bind fun t898=>((laws_toRec.f k a1_0 a1_1 l1_2).bind fun bt901=>((impl_TripsMay.f k t898 bt901.1 bt901.2.1 bt901.2.2).bind fun t907=>(if(t907 != t897)=true then(some false) else((laws_toTripS.f k l0).bind fun t908=>((laws_eqTripS.f k t898 t908).bind fun t911=>(if t911=true then((laws_toRec.f k a1_0 a1_1 l1_2).bind fun bt912=>((laws_eqRec.f k bt901.1 bt901.2.1 bt901.2.2 bt912.1 bt912.2.1 bt912.2.2).bind fun t917=>(if t917=true then(some true) else(some false)))) else(some false))))))))))))))=some r:=H
 have A3:=qal.mk A30
 clear A30
 by_cases c4:t887<0
 ·rw[if_pos c4] at H
  have c4b0:decide (t887<0)=true:=decide_eq_true c4
  clear c4
  obtain rfl:=Option.some.inj H
  go_enter Try.func11,Try.ntmps11
  go_wp2_with(first|((with_reducible refine qak (N:=3) rfl ?_);refine qaj ?hg (N:=3) ?hd (cs:=#[.int .i64 a1_0,.int .i64 a1_1,.slice A1_2 l1_2.length c1_2]) (t:=57) ?hr ?_;(case hd=>rfl);(case hg=>rfl);(case hr=>first|(go_simp;done)|(go_simp;rfl));intro gb886 hg w5 hbox hb;have n0_:=qal.mk (qae (za2 HB) hb);have n1_:=qal.mk (hbox);have n2_:=qal.mk ((by rw[hg];exact(qad (za2 HB)):w.heap.size≤gb886));have n3_:=qal.mk ((by rw[hg];exact(qad (za2 HB)):w.heap.size≤gb886));clear HB;have HB:=n0_;have BK886:=n1_;have GW886:=n2_;have GE886:=n3_;clear n0_ n1_ n2_ n3_;clear hb hbox hg)|((with_reducible refine qai (f:=48) rfl ?_);refine qau (some 12) rfl rfl Try.func48 (by kernel_rfl) rfl #[.slice A0 l0.length c0,.int .i64 1048576] rfl (by(try simp only[List.map_toArray,List.map_cons,List.map_nil]);first|done|rfl|(simp only[List.length_drop,List.length_take];rfl)) ?_;(with_reducible refine(laws_szTripS.calls k _ _ l0 1048576 t887 _ ?side1 ?side2 A3.out).mono ?_);(case side1=>repeat(first|exact(Kd.C_below HR0.out HB.out)|(with_reducible refine Kd.C_alloc ?_ _)|(with_reducible refine Kd.C_drewN ?_ _)|(with_reducible refine Kd.C_drew ?_)));(case side2=>exact HC0.out);rintro e w6 ⟨rfl,hb⟩;refine⟨_,rfl,?_⟩;have n0_:=qal.mk (qac (g:=gb886) (o:=.cells #[.int .i64 a1_0,.int .i64 a1_1,.slice A1_2 l1_2.length c1_2] 57 (0,0)) (za0 BK886) hb);have n1_:=qal.mk (qae (za1 HB GE886) hb);clear BK886;clear HB;have BK886:=n0_;have HB:=n1_;clear n0_ n1_;(try clear hb);(try clear hb2);(try clear hk);(try clear hi)))
  go_ret
  exact⟨za9,za1 HB GE886⟩
 ·rw[if_neg c4] at H
  have c4b0:decide (t887<0)=false:=decide_eq_false c4
  clear c4
  replace H:=Option.bind_eq_some_iff.mp H
  obtain⟨t888,A70,H⟩:=H
  replace H:(if t888<0 then(some true) else((laws_toTripS.f k l0).bind fun t889=>((laws_toRec.f k a1_0 a1_1 l1_2).bind fun bt892=>((spec_TripsMay.f k t889 bt892.1 bt892.2.1 bt892.2.2).bind fun t897=>((laws_toTripS.f k l0).bind fun t898=>((laws_toRec.f k a1_0 a1_1 l1_2).bind fun bt901=>((impl_TripsMay.f k t898 bt901.1 bt901.2.1 bt901.2.2).bind fun t907=>(if(t907 != t897)=true then(some false) else((laws_toTripS.f k l0).bind fun t908=>((laws_eqTripS.f k t898 t908).bind fun t911=>(if t911=true then((laws_toRec.f k a1_0 a1_1 l1_2).bind fun bt912=>((laws_eqRec.f k bt901.1 bt901.2.1 bt901.2.2 bt912.1 bt912.2.1 bt912.2.2).bind fun t917=>(if t917=true then(some true) else(some false)))) else(some false))))))))))))=some r:=H
  have A7:=qal.mk A70
  clear A70
  by_cases c8:t888<0
  ·rw[if_pos c8] at H
   have c8b0:decide (t888<0)=true:=decide_eq_true c8
   clear c8
   obtain rfl:=Option.some.inj H
   go_enter Try.func11,Try.ntmps11
   go_wp2_with(first|((with_reducible refine qak (N:=3) rfl ?_);refine qaj ?hg (N:=3) ?hd (cs:=#[.int .i64 a1_0,.int .i64 a1_1,.slice A1_2 l1_2.length c1_2]) (t:=57) ?hr ?_;(case hd=>rfl);(case hg=>rfl);(case hr=>first|(go_simp;done)|(go_simp;rfl));intro gb886 hg w9 hbox hb;have n0_:=qal.mk (qae (za2 HB) hb);have n1_:=qal.mk (hbox);have n2_:=qal.mk ((by rw[hg];exact(qad (za2 HB)):w.heap.size≤gb886));have n3_:=qal.mk ((by rw[hg];exact(qad (za2 HB)):w.heap.size≤gb886));clear HB;have HB:=n0_;have BK886:=n1_;have GW886:=n2_;have GE886:=n3_;clear n0_ n1_ n2_ n3_;clear hb hbox hg)|((with_reducible refine qai (f:=48) rfl ?_);refine qau (some 12) rfl rfl Try.func48 (by kernel_rfl) rfl #[.slice A0 l0.length c0,.int .i64 1048576] rfl (by(try simp only[List.map_toArray,List.map_cons,List.map_nil]);first|done|rfl|(simp only[List.length_drop,List.length_take];rfl)) ?_;(with_reducible refine(laws_szTripS.calls k _ _ l0 1048576 t887 _ ?side1 ?side2 A3.out).mono ?_);(case side1=>repeat(first|exact(Kd.C_below HR0.out HB.out)|(with_reducible refine Kd.C_alloc ?_ _)|(with_reducible refine Kd.C_drewN ?_ _)|(with_reducible refine Kd.C_drew ?_)));(case side2=>exact HC0.out);rintro e w10 ⟨rfl,hb⟩;refine⟨_,rfl,?_⟩;have n0_:=qal.mk (qac (g:=gb886) (o:=.cells #[.int .i64 a1_0,.int .i64 a1_1,.slice A1_2 l1_2.length c1_2] 57 (0,0)) (za0 BK886) hb);have n1_:=qal.mk (qae (za1 HB GE886) hb);clear BK886;clear HB;have BK886:=n0_;have HB:=n1_;clear n0_ n1_;(try clear hb);(try clear hb2);(try clear hk);(try clear hi);have hcz11_0:w10.cell? ⟨gb886,0,none⟩=some (.int .i64 a1_0):=(qab BK886.out 0).trans rfl;have hcz11_1:w10.cell? ⟨gb886,1,none⟩=some (.int .i64 a1_1):=(qab BK886.out 1).trans rfl;have hcz11_2:w10.cell? ⟨gb886,2,none⟩=some (.slice A1_2 l1_2.length c1_2):=(qab BK886.out 2).trans rfl;have hfz11_0:=qaa BK886.out 0;have hfz11_1:=qaa BK886.out 1;have hfz11_2:=qaa BK886.out 2)|((with_reducible refine qai (f:=36) rfl ?_);refine qau (some 17) rfl rfl Try.func36 (by kernel_rfl) rfl #[.agg #[.int .i64 a1_0,.int .i64 a1_1,.slice A1_2 l1_2.length c1_2],.int .i64 t887] rfl (by(try simp only[List.map_toArray,List.map_cons,List.map_nil]);first|done|rfl|(simp only[List.length_drop,List.length_take];rfl)) ?_;(with_reducible refine(laws_szRec.calls a1_0 a1_1 _ _ l1_2 t887 t888 _ ?side1 ?side2 A7.out).mono ?_);(case side1=>repeat(first|exact(Kd.C_below HR1_2.out HB.out)|(with_reducible refine Kd.C_alloc ?_ _)|(with_reducible refine Kd.C_drewN ?_ _)|(with_reducible refine Kd.C_drew ?_)));(case side2=>exact HC1_2.out);rintro e w12 ⟨rfl,hb⟩;refine⟨_,rfl,?_⟩;have n0_:=qal.mk (qac (g:=gb886) (o:=.cells #[.int .i64 a1_0,.int .i64 a1_1,.slice A1_2 l1_2.length c1_2] 57 (0,0)) (za0 BK886) hb);have n1_:=qal.mk (qae (za1 HB GE886) hb);clear BK886;clear HB;have BK886:=n0_;have HB:=n1_;clear n0_ n1_;(try clear hb);(try clear hb2);(try clear hk);(try clear hi)))
   go_ret
   exact⟨za9,za1 HB GE886⟩
  ·rw[if_neg c8] at H
   have c8b0:decide (t888<0)=false:=decide_eq_false c8
   clear c8
   replace H:=Option.bind_eq_some_iff.mp H
   obtain⟨t889,A130,H⟩:=H
   replace H:((laws_toRec.f k a1_0 a1_1 l1_2).bind fun bt892=>((spec_TripsMay.f k t889 bt892.1 bt892.2.1 bt892.2.2).bind fun t897=>((laws_toTripS.f k l0).bind fun t898=>((laws_toRec.f k a1_0 a1_1 l1_2).bind fun bt901=>((impl_TripsMay.f k t898 bt901.1 bt901.2.1 bt901.2.2).bind fun t907=>(if(t907 != t897)=true then(some false) else((laws_toTripS.f k l0).bind fun t908=>((laws_eqTripS.f k t898 t908).bind fun t911=>(if t911=true then((laws_toRec.f k a1_0 a1_1 l1_2).bind fun bt912=>((laws_eqRec.f k bt901.1 bt901.2.1 bt901.2.2 bt912.1 bt912.2.1 bt912.2.2).bind fun t917=>(if t917=true then(some true) else(some false)))) else(some false))))))))))=some r:=H
   have A13:=qal.mk A130
   clear A130
   replace H:=Option.bind_eq_some_iff.mp H
   obtain⟨⟨t892,t893,t894⟩,A140,H⟩:=H
   replace H:((spec_TripsMay.f k t889 t892 t893 t894).bind fun t897=>((laws_toTripS.f k l0).bind fun t898=>((laws_toRec.f k a1_0 a1_1 l1_2).bind fun bt901=>((impl_TripsMay.f k t898 bt901.1 bt901.2.1 bt901.2.2).bind fun t907=>(if(t907 != t897)=true then(some false) else((laws_toTripS.f k l0).bind fun t908=>((laws_eqTripS.f k t898 t908).bind fun t911=>(if t911=true then((laws_toRec.f k a1_0 a1_1 l1_2).bind fun bt912=>((laws_eqRec.f k bt901.1 bt901.2.1 bt901.2.2 bt912.1 bt912.2.1 bt912.2.2).bind fun t917=>(if t917=true then(some true) else(some false)))) else(some false)))))))))=some r:=H
   have A14:=qal.mk A140
   clear A140
   replace H:=Option.bind_eq_some_iff.mp H
   obtain⟨t897,A150,H⟩:=H
   replace H:((laws_toTripS.f k l0).bind fun t898=>((laws_toRec.f k a1_0 a1_1 l1_2).bind fun bt901=>((impl_TripsMay.f k t898 bt901.1 bt901.2.1 bt901.2.2).bind fun t907=>(if(t907 != t897)=true then(some false) else((laws_toTripS.f k l0).bind fun t908=>((laws_eqTripS.f k t898 t908).bind fun t911=>(if t911=true then((laws_toRec.f k a1_0 a1_1 l1_2).bind fun bt912=>((laws_eqRec.f k bt901.1 bt901.2.1 bt901.2.2 bt912.1 bt912.2.1 bt912.2.2).bind fun t917=>(if t917=true then(some true) else(some false)))) else(some false))))))))=some r:=H
   have A15:=qal.mk A150
   clear A150
   replace H:=Option.bind_eq_some_iff.mp H
   obtain⟨t898,A160,H⟩:=H
   replace H:((laws_toRec.f k a1_0 a1_1 l1_2).bind fun bt901=>((impl_TripsMay.f k t898 bt901.1 bt901.2.1 bt901.2.2).bind fun t907=>(if(t907 != t897)=true then(some false) else((laws_toTripS.f k l0).bind fun t908=>((laws_eqTripS.f k t898 t908).bind fun t911=>(if t911=true then((laws_toRec.f k a1_0 a1_1 l1_2).bind fun bt912=>((laws_eqRec.f k bt901.1 bt901.2.1 bt901.2.2 bt912.1 bt912.2.1 bt912.2.2).bind fun t917=>(if t917=true then(some true) else(some false)))) else(some false)))))))=some r:=H
   have A16:=qal.mk A160
   clear A160
   replace H:=Option.bind_eq_some_iff.mp H
   obtain⟨⟨t901,t902,t903⟩,A170,H⟩:=H
   replace H:((impl_TripsMay.f k t898 t901 t902 t903).bind fun t907=>(if(t907 != t897)=true then(some false) else((laws_toTripS.f k l0).bind fun t908=>((laws_eqTripS.f k t898 t908).bind fun t911=>(if t911=true then((laws_toRec.f k a1_0 a1_1 l1_2).bind fun bt912=>((laws_eqRec.f k t901 t902 t903 bt912.1 bt912.2.1 bt912.2.2).bind fun t917=>(if t917=true then(some true) else(some false)))) else(some false))))))=some r:=H
   have A17:=qal.mk A170
   clear A170
   replace H:=Option.bind_eq_some_iff.mp H
   obtain⟨t907,A180,H⟩:=H
   replace H:(if(t907 != t897)=true then(some false) else((laws_toTripS.f k l0).bind fun t908=>((laws_eqTripS.f k t898 t908).bind fun t911=>(if t911=true then((laws_toRec.f k a1_0 a1_1 l1_2).bind fun bt912=>((laws_eqRec.f k t901 t902 t903 bt912.1 bt912.2.1 bt912.2.2).bind fun t917=>(if t917=true then(some true) else(some false)))) else(some false)))))=some r:=H
   have A18:=qal.mk A180
   clear A180
   by_cases c19:(t907 != t897)=true
   ·rw[if_pos c19] at H
    have c19b0:(t907 != t897)=true:=c19
    (try(have c19b1:decide (t907=t897)=false:=by simpa using c19))
    (try(have c19b2:(t907 == t897)=false:=by simpa using c19))
    (try(have c19b3:¬(t907=t897):=by simpa using c19))
    clear c19
    obtain rfl:=Option.some.inj H
    go_enter Try.func11,Try.ntmps11
    try go_wp2_with(first|((with_reducible refine qak (N:=3) rfl ?_);refine qaj ?hg (N:=3) ?hd (cs:=#[.int .i64 a1_0,.int .i64 a1_1,.slice A1_2 l1_2.length c1_2]) (t:=57) ?hr ?_;(case hd=>rfl);(case hg=>rfl);(case hr=>first|(go_simp;done)|(go_simp;rfl));intro gb886 hg w20 hbox hb;have n0_:=qal.mk (qae (za2 HB) hb);have n1_:=qal.mk (hbox);have n2_:=qal.mk ((by rw[hg];exact(qad (za2 HB)):w.heap.size≤gb886));have n3_:=qal.mk ((by rw[hg];exact(qad (za2 HB)):w.heap.size≤gb886));clear HB;have HB:=n0_;have BK886:=n1_;have GW886:=n2_;have GE886:=n3_;clear n0_ n1_ n2_ n3_;clear hb hbox hg)|((with_reducible refine qai (f:=48) rfl ?_);refine qau (some 12) rfl rfl Try.func48 (by kernel_rfl) rfl #[.slice A0 l0.length c0,.int .i64 1048576] rfl (by(try simp only[List.map_toArray,List.map_cons,List.map_nil]);first|done|rfl|(simp only[List.length_drop,List.length_take];rfl)) ?_;(with_reducible refine(laws_szTripS.calls k _ _ l0 1048576 t887 _ ?side1 ?side2 A3.out).mono ?_);(case side1=>repeat(first|exact(Kd.C_below HR0.out HB.out)|(with_reducible refine Kd.C_alloc ?_ _)|(with_reducible refine Kd.C_drewN ?_ _)|(with_reducible refine Kd.C_drew ?_)));(case side2=>exact HC0.out);rintro e w21 ⟨rfl,hb⟩;refine⟨_,rfl,?_⟩;have n0_:=qal.mk (qac (g:=gb886) (o:=.cells #[.int .i64 a1_0,.int .i64 a1_1,.slice A1_2 l1_2.length c1_2] 57 (0,0)) (za0 BK886) hb);have n1_:=qal.mk (qae (za1 HB GE886) hb);clear BK886;clear HB;have BK886:=n0_;have HB:=n1_;clear n0_ n1_;(try clear hb);(try clear hb2);(try clear hk);(try clear hi);have hcz22_0:w21.cell? ⟨gb886,0,none⟩=some (.int .i64 a1_0):=(qab BK886.out 0).trans rfl;have hcz22_1:w21.cell? ⟨gb886,1,none⟩=some (.int .i64 a1_1):=(qab BK886.out 1).trans rfl;have hcz22_2:w21.cell? ⟨gb886,2,none⟩=some (.slice A1_2 l1_2.length c1_2):=(qab BK886.out 2).trans rfl;have hfz22_0:=qaa BK886.out 0;have hfz22_1:=qaa BK886.out 1;have hfz22_2:=qaa BK886.out 2)|((with_reducible refine qai (f:=36) rfl ?_);refine qau (some 17) rfl rfl Try.func36 (by kernel_rfl) rfl #[.agg #[.int .i64 a1_0,.int .i64 a1_1,.slice A1_2 l1_2.length c1_2],.int .i64 t887] rfl (by(try simp only[List.map_toArray,List.map_cons,List.map_nil]);first|done|rfl|(simp only[List.length_drop,List.length_take];rfl)) ?_;(with_reducible refine(laws_szRec.calls a1_0 a1_1 _ _ l1_2 t887 t888 _ ?side1 ?side2 A7.out).mono ?_);(case side1=>repeat(first|exact(Kd.C_below HR1_2.out HB.out)|(with_reducible refine Kd.C_alloc ?_ _)|(with_reducible refine Kd.C_drewN ?_ _)|(with_reducible refine Kd.C_drew ?_)));(case side2=>exact HC1_2.out);rintro e w23 ⟨rfl,hb⟩;refine⟨_,rfl,?_⟩;have n0_:=qal.mk (qac (g:=gb886) (o:=.cells #[.int .i64 a1_0,.int .i64 a1_1,.slice A1_2 l1_2.length c1_2] 57 (0,0)) (za0 BK886) hb);have n1_:=qal.mk (qae (za1 HB GE886) hb);clear BK886;clear HB;have BK886:=n0_;have HB:=n1_;clear n0_ n1_;(try clear hb);(try clear hb2);(try clear hk);(try clear hi)))
    have n0_:=qal.mk (qah BK886.out)
    have n1_:=qal.mk (qaq HB.out)
    clear BK886
    clear HB
    have BK886:=n0_
    have HB:=n1_
    clear n0_ n1_
    refine start_ (n:=6) (S:=fun w'=>w'.cell? ⟨gb886,0,none⟩=some (.int .i64 a1_0)∧w'.cell? ⟨gb886,1,none⟩=some (.int .i64 a1_1)∧w'.cell? ⟨gb886,2,none⟩=some (.slice A1_2 l1_2.length c1_2)) (ds:=[]) #[false,false,false,false,false,false] (by kernel_rfl) rfl rfl ⟨(qab BK886.out 0).trans rfl,(qab BK886.out 1).trans rfl,(qab BK886.out 2).trans rfl⟩ (fun hHeld=>?_)
    generalize w23.drew=w24 at BK886 HB hHeld ⊢
    refine qaz (i:=0) (N:=some 20) (v:=?_) (a':=?_) #[true,false,false,false,false,false] rfl rfl (by kernel_rfl) (fun _ _ _ h=>h) (Or.inl ⟨by rfl,?_⟩) ?_ ?_
    rotate_left
    ·intro w'
     go_simp
     with_reducible rfl
    rotate_left
    ·simp only[Act.put,List.setIfInBounds_toArray,List.set_cons_zero,List.set_cons_succ,qas,qat]
     rfl
    refine take_ (i:=2) (N:=some 22) (v:=?_) (a':=?_) #[true,false,true,false,false,false] rfl rfl (by kernel_rfl) (fun _ _ _ h=>h) (Or.inl ⟨by rfl,?_⟩) hHeld ?_ ?_
    rotate_left
    ·rintro w' ⟨s0,s1,s2⟩
     go_simp
     with_reducible rfl
    rotate_left
    ·simp only[Act.put,List.setIfInBounds_toArray,List.set_cons_zero,List.set_cons_succ,qas,qat]
     rfl
    refine one_ (i:=1) (N:=some 21) #[true,true,true,false,false,false] rfl rfl (by kernel_rfl) (by decide) (fun K hK=>?_)
    refine goes_ Try.func50 (by kernel_rfl) rfl #[.slice A0 l0.length c0] (by rfl) rfl rfl (by(try simp only[List.map_toArray,List.map_cons,List.map_nil]);first|done|rfl|(simp only[List.length_drop,List.length_take];rfl)) ?_
    with_reducible refine(laws_toTripS.calls k _ _ l0 t889 _ ?side1 ?side2 A13.out).mono ?_
    (case side1=>repeat(first|exact(Kd.C_below HR0.out HB.out)|(with_reducible refine Kd.C_alloc ?_ _)|(with_reducible refine Kd.C_drewN ?_ _)|(with_reducible refine Kd.C_drew ?_)))
    (case side2=>exact HC0.out)
    rintro e w25 ⟨v890,rfl,ho0,hb⟩
    refine⟨_,rfl,?_⟩
    have n0_:=qal.mk (Kd.S_lower ho0 (qad (za1 HB GE886)))
    have n1_:=qal.mk (qac (g:=gb886) (o:=.cells #[.int .i64 a1_0,.int .i64 a1_1,.slice A1_2 l1_2.length c1_2] 57 (0,0)) (za0 BK886) hb)
    have n2_:=qal.mk (qae (za1 HB GE886) hb)
    clear BK886
    clear HB
    have HO891:=n0_
    have BK886:=n1_
    have HB:=n2_
    clear n0_ n1_ n2_
    (try clear hb)
    (try clear hb2)
    (try clear hk)
    (try clear hi)
    (try clear ho0)
    refine hK.out _ _ ⟨(qab BK886.out 0).trans rfl,(qab BK886.out 1).trans rfl,(qab BK886.out 2).trans rfl⟩ (fun hHeld=>?_)
    clear hK K
    refine norm_ (a':=?_) ?_ ?_
    rotate_left
    ·show Act.put _ (some 21) _=_
     simp only[Act.put,List.setIfInBounds_toArray,List.set_cons_zero,List.set_cons_succ,qas,qat]
     rfl
    refine one_ (i:=3) (N:=some 23) #[true,true,true,true,false,false] rfl rfl (by kernel_rfl) (by decide) (fun K hK=>?_)
    refine goes_ Try.func39 (by kernel_rfl) rfl #[.agg #[.int .i64 a1_0,.int .i64 a1_1,.slice A1_2 l1_2.length c1_2]] (by rfl) rfl rfl (by(try simp only[List.map_toArray,List.map_cons,List.map_nil]);first|done|rfl|(simp only[List.length_drop,List.length_take];rfl)) ?_
    with_reducible refine(laws_toRec.calls k a1_0 a1_1 _ _ l1_2 t892 t893 t894 _ ?side1 ?side2 A14.out).mono ?_
    (case side1=>repeat(first|exact(Kd.C_below HR1_2.out HB.out)|(with_reducible refine Kd.C_alloc ?_ _)|(with_reducible refine Kd.C_drewN ?_ _)|(with_reducible refine Kd.C_drew ?_)))
    (case side2=>exact HC1_2.out)
    rintro e w26 ⟨v895,rfl,ho0,hb⟩
    refine⟨_,rfl,?_⟩
    have n0_:=qal.mk (Kd.S_elder' (za10 HO891) (Kd.R_base ho0) hb)
    have n1_:=qal.mk (Kd.R_lower ho0 (qad (za1 HB GE886)))
    have n2_:=qal.mk (qac (g:=gb886) (o:=.cells #[.int .i64 a1_0,.int .i64 a1_1,.slice A1_2 l1_2.length c1_2] 57 (0,0)) (za0 BK886) hb)
    have n3_:=qal.mk (qae (za1 HB GE886) hb)
    clear HO891
    clear BK886
    clear HB
    have HO891:=n0_
    have HO896:=n1_
    have BK886:=n2_
    have HB:=n3_
    clear n0_ n1_ n2_ n3_
    (try clear hb)
    (try clear hb2)
    (try clear hk)
    (try clear hi)
    (try clear ho0)
    obtain⟨Ao27,co27,eo27⟩:=Kd.S_slice HO891.out
    (first|subst eo27|(injection eo27 with f1_ f2_ f3_;have f4_:=f1_.symm;have f5_:=f3_.symm;clear f1_ f2_ f3_;subst f4_;subst f5_))
    obtain⟨Ao28,co28,eo28⟩:=Kd.R_slice HO896.out
    (first|subst eo28|(injection eo28 with f1_ f2_ f3_;have f4_:=f1_.symm;have f5_:=f3_.symm;clear f1_ f2_ f3_;subst f4_;subst f5_))
    refine hK.out _ _ ⟨(qab BK886.out 0).trans rfl,(qab BK886.out 1).trans rfl,(qab BK886.out 2).trans rfl⟩ (fun hHeld=>?_)
    clear hK K
    refine norm_ (a':=?_) ?_ ?_
    rotate_left
    ·show Act.put _ (some 23) _=_
     simp only[Act.put,List.setIfInBounds_toArray,List.set_cons_zero,List.set_cons_succ,qas,qat]
     rfl
    refine one_ (i:=4) (N:=some 24) #[true,true,true,true,true,false] rfl rfl (by kernel_rfl) (by decide) (fun K hK=>?_)
    refine goes_ Try.func49 (by kernel_rfl) rfl #[.slice Ao27 t889.length co27,.agg #[.int .i64 t892,.int .i64 t893,.slice Ao28 t894.length co28]] (by rfl) rfl rfl (by(try simp only[List.map_toArray,List.map_cons,List.map_nil]);first|done|rfl|(simp only[List.length_drop,List.length_take];rfl)) ?_
    with_reducible refine(spec_TripsMay.calls k _ _ t889 t892 t893 _ _ t894 t897 _ ?side1 ?side2 ?side3 ?side4 A15.out).mono ?_
    (case side1=>repeat(first|exact(Kd.S_reads' HO891.out).2.2|(with_reducible refine Kd.C_alloc ?_ _)|(with_reducible refine Kd.C_drewN ?_ _)|(with_reducible refine Kd.C_drew ?_)))
    (case side2=>exact(Kd.S_reads' HO891.out).2.1)
    (case side3=>repeat(first|exact(Kd.R_reads' HO896.out).2.2|(with_reducible refine Kd.C_alloc ?_ _)|(with_reducible refine Kd.C_drewN ?_ _)|(with_reducible refine Kd.C_drew ?_)))
    (case side4=>exact(Kd.R_reads' HO896.out).2.1)
    rintro e w29 ⟨rfl,hb⟩
    refine⟨_,rfl,?_⟩
    have n0_:=qal.mk (Kd.S_below (za10 HO891) hb)
    have n1_:=qal.mk (Kd.R_below (za4 HO896) hb)
    have n2_:=qal.mk (qac (g:=gb886) (o:=.cells #[.int .i64 a1_0,.int .i64 a1_1,.slice A1_2 l1_2.length c1_2] 57 (0,0)) (za0 BK886) hb)
    have n3_:=qal.mk (qae (za1 HB GE886) hb)
    clear HO891
    clear HO896
    clear BK886
    clear HB
    have HO891:=n0_
    have HO896:=n1_
    have BK886:=n2_
    have HB:=n3_
    clear n0_ n1_ n2_ n3_
    (try clear hb)
    (try clear hb2)
    (try clear hk)
    (try clear hi)
    refine hK.out _ _ ⟨(qab BK886.out 0).trans rfl,(qab BK886.out 1).trans rfl,(qab BK886.out 2).trans rfl⟩ (fun hHeld=>?_)
    clear hK K
    refine norm_ (a':=?_) ?_ ?_
    rotate_left
    ·show Act.put _ (some 24) _=_
     simp only[Act.put,List.setIfInBounds_toArray,List.set_cons_zero,List.set_cons_succ,qas,qat]
     rfl
    refine qaz (i:=5) (N:=some 6) (v:=?_) (a':=?_) #[true,true,true,true,true,true] rfl rfl (by kernel_rfl) (fun _ _ _ h=>h) (Or.inl ⟨by rfl,?_⟩) ?_ ?_
    rotate_left
    ·intro w'
     go_simp
     with_reducible rfl
    rotate_left
    ·simp only[Act.put,List.setIfInBounds_toArray,List.set_cons_zero,List.set_cons_succ,qas,qat]
     rfl
    refine done_ (by kernel_rfl) ?_
    try go_wp2_with(first|((with_reducible refine qai (f:=50) rfl ?_);refine qau (some 26) rfl rfl Try.func50 (by kernel_rfl) rfl #[.slice A0 l0.length c0] rfl (by(try simp only[List.map_toArray,List.map_cons,List.map_nil]);first|done|rfl|(simp only[List.length_drop,List.length_take];rfl)) ?_;(with_reducible refine(laws_toTripS.calls k _ _ l0 t898 _ ?side1 ?side2 A16.out).mono ?_);(case side1=>repeat(first|exact(Kd.C_below HR0.out HB.out)|(with_reducible refine Kd.C_alloc ?_ _)|(with_reducible refine Kd.C_drewN ?_ _)|(with_reducible refine Kd.C_drew ?_)));(case side2=>exact HC0.out);rintro e w30 ⟨v899,rfl,ho0,hb⟩;refine⟨_,rfl,?_⟩;have n0_:=qal.mk (Kd.S_elder' (za10 HO891) (Kd.S_base ho0) hb);have n1_:=qal.mk (Kd.R_below (za4 HO896) hb);have n2_:=qal.mk (Kd.S_lower (Kd.S_new' (Kd.S_new' ho0 (Kd.S_lt (za10 HO891))) (Kd.R_lt (za4 HO896))) (qad (za1 HB GE886)));have n3_:=qal.mk (qac (g:=gb886) (o:=.cells #[.int .i64 a1_0,.int .i64 a1_1,.slice A1_2 l1_2.length c1_2] 57 (0,0)) (za0 BK886) hb);have n4_:=qal.mk (qae (za1 HB GE886) hb);clear HO891;clear HO896;clear BK886;clear HB;have HO891:=n0_;have HO896:=n1_;have HO900:=n2_;have BK886:=n3_;have HB:=n4_;clear n0_ n1_ n2_ n3_ n4_;(try clear hb);(try clear hb2);(try clear hk);(try clear hi);(try clear ho0);have hcz31_0:w30.cell? ⟨gb886,0,none⟩=some (.int .i64 a1_0):=(qab BK886.out 0).trans rfl;have hcz31_1:w30.cell? ⟨gb886,1,none⟩=some (.int .i64 a1_1):=(qab BK886.out 1).trans rfl;have hcz31_2:w30.cell? ⟨gb886,2,none⟩=some (.slice A1_2 l1_2.length c1_2):=(qab BK886.out 2).trans rfl;have hfz31_0:=qaa BK886.out 0;have hfz31_1:=qaa BK886.out 1;have hfz31_2:=qaa BK886.out 2)|((with_reducible refine qai (f:=39) rfl ?_);refine qau (some 28) rfl rfl Try.func39 (by kernel_rfl) rfl #[.agg #[.int .i64 a1_0,.int .i64 a1_1,.slice A1_2 l1_2.length c1_2]] rfl (by(try simp only[List.map_toArray,List.map_cons,List.map_nil]);first|done|rfl|(simp only[List.length_drop,List.length_take];rfl)) ?_;(with_reducible refine(laws_toRec.calls k a1_0 a1_1 _ _ l1_2 t901 t902 t903 _ ?side1 ?side2 A17.out).mono ?_);(case side1=>repeat(first|exact(Kd.C_below HR1_2.out HB.out)|(with_reducible refine Kd.C_alloc ?_ _)|(with_reducible refine Kd.C_drewN ?_ _)|(with_reducible refine Kd.C_drew ?_)));(case side2=>exact HC1_2.out);rintro e w32 ⟨v904,rfl,ho0,hb⟩;refine⟨_,rfl,?_⟩;have n0_:=qal.mk (Kd.S_elder' (za10 HO891) (Kd.R_base ho0) hb);have n1_:=qal.mk (Kd.R_elder' (za4 HO896) (Kd.R_base ho0) hb);have n2_:=qal.mk (Kd.S_elder' (za10 HO900) (Kd.R_base ho0) hb);have n3_:=qal.mk (Kd.R_lower (Kd.R_new' ho0 (Kd.R_lt (za4 HO896))) (qad (za1 HB GE886)));have n4_:=qal.mk (qac (g:=gb886) (o:=.cells #[.int .i64 a1_0,.int .i64 a1_1,.slice A1_2 l1_2.length c1_2] 57 (0,0)) (za0 BK886) hb);have n5_:=qal.mk (qae (za1 HB GE886) hb);clear HO891;clear HO896;clear HO900;clear BK886;clear HB;have HO891:=n0_;have HO896:=n1_;have HO900:=n2_;have HO905:=n3_;have BK886:=n4_;have HB:=n5_;clear n0_ n1_ n2_ n3_ n4_ n5_;(try clear hb);(try clear hb2);(try clear hk);(try clear hi);(try clear ho0))|((with_reducible refine qak (N:=8) rfl ?_);refine qaj ?hg (N:=8) ?hd (cs:=#[.int .i64 0,.int .i64 0,.slice none 0 0]) (t:=62) ?hr ?_;(case hd=>rfl);(case hg=>rfl);(case hr=>first|(go_simp;done)|(go_simp;rfl));intro gb906 hg w33 hbox hb;have n0_:=qal.mk (Kd.S_below (za10 HO891) hb);have n1_:=qal.mk (Kd.R_below (za4 HO896) hb);have n2_:=qal.mk (Kd.S_below (za10 HO900) hb);have n3_:=qal.mk (Kd.R_below (za4 HO905) hb);have n4_:=qal.mk (qac (g:=gb886) (o:=.cells #[.int .i64 a1_0,.int .i64 a1_1,.slice A1_2 l1_2.length c1_2] 57 (0,0)) (za0 BK886) hb);have n5_:=qal.mk (qae (za1 HB GE886) hb);have n6_:=qal.mk (hbox);have n7_:=qal.mk ((by rw[hg];exact(qad (za1 HB GE886)):w.heap.size≤gb906));have n8_:=qal.mk ((by rw[hg];exact(qad (za1 HB GE886)):w.heap.size≤gb906));have n9_:=qal.mk ((by rw[hg];exact Nat.ne_of_lt (qao (g:=gb886) (o:=.cells #[.int .i64 a1_0,.int .i64 a1_1,.slice A1_2 l1_2.length c1_2] 57 (0,0)) (za0 BK886)):gb886≠gb906));have n10_:=qal.mk ((by rw[hg];exact Nat.ne_of_gt (qao (g:=gb886) (o:=.cells #[.int .i64 a1_0,.int .i64 a1_1,.slice A1_2 l1_2.length c1_2] 57 (0,0)) (za0 BK886)):gb906≠gb886));clear HO891;clear HO896;clear HO900;clear HO905;clear BK886;clear HB;have HO891:=n0_;have HO896:=n1_;have HO900:=n2_;have HO905:=n3_;have BK886:=n4_;have HB:=n5_;have BK906:=n6_;have GW906:=n7_;have GE906:=n8_;have NB886_906:=n9_;have NB906_886:=n10_;clear n0_ n1_ n2_ n3_ n4_ n5_ n6_ n7_ n8_ n9_ n10_;clear hb hbox hg;have hnb34:=NB906_886.out;have hnc34:=NB886_906.out;have hcz35_0:w33.cell? ⟨gb906,0,none⟩=some (.int .i64 0):=(qab BK906.out 0).trans rfl;have hcz35_1:w33.cell? ⟨gb906,1,none⟩=some (.int .i64 0):=(qab BK906.out 1).trans rfl;have hcz35_2:w33.cell? ⟨gb906,2,none⟩=some (.slice none 0 0):=(qab BK906.out 2).trans rfl;have hfz35_0:=qaa BK906.out 0;have hfz35_1:=qaa BK906.out 1;have hfz35_2:=qaa BK906.out 2;obtain⟨Ao36,co36,eo36⟩:=Kd.R_slice HO905.out;subst eo36;obtain⟨Ao37,co37,eo37⟩:=Kd.S_slice HO900.out;subst eo37)|((with_reducible refine qai (f:=51) rfl ?_);refine qau (some 31) rfl rfl Try.func51 (by kernel_rfl) rfl #[.slice Ao37 t898.length co37,.agg #[.int .i64 t901,.int .i64 t902,.slice Ao36 t903.length co36]] rfl (by(try simp only[List.map_toArray,List.map_cons,List.map_nil]);first|done|rfl|(simp only[List.length_drop,List.length_take];rfl)) ?_;(with_reducible refine(impl_TripsMay.calls k _ _ t898 t901 t902 _ _ t903 t907 _ ?side1 ?side2 ?side3 ?side4 A18.out).mono ?_);(case side1=>refine(Kd.S_reads' (e:=73) (base:=w.heap.size) (ok:=fun k_=>(((True∧some k_≠(.slice Ao27 t889.length co27:Value).ownBlock)∧some k_≠(.slice Ao28 t894.length co28:Value).ownBlock)∧some k_≠(.slice Ao36 t903.length co36:Value).ownBlock)) (n:=t898.length) (c:=co37) ?_).2.2;exact(by(with_reducible repeat(first|apply Kd.S_alloc|apply Kd.S_drewN|apply Kd.S_drew));exact(Kd.S_mono (Kd.S_far (p:=⟨gb906,2,none⟩) (Kd.S_far (p:=⟨gb906,1,none⟩) (Kd.S_far (p:=⟨gb906,0,none⟩) (Kd.S_types HO900.out BK906.out (by decide)) (fun _ hk=>hk.2) (.int .i64 t901)) (fun _ hk=>hk.2) (.int .i64 t902)) (fun _ hk=>hk.2) (.slice Ao36 t903.length co36)) (fun _ h_=>h_.1))));(case side2=>exact(Kd.S_reads' HO900.out).2.1);(case side3=>refine(Kd.R_reads' (e:=3) (base:=w.heap.size) (ok:=fun k_=>(True∧some k_≠(.slice Ao28 t894.length co28:Value).ownBlock)) (n:=t903.length) (c:=co36) ?_).2.2;exact(by(with_reducible repeat(first|apply Kd.R_alloc|apply Kd.R_drewN|apply Kd.R_drew));exact(Kd.R_mono (Kd.R_far (p:=⟨gb906,2,none⟩) (Kd.R_far (p:=⟨gb906,1,none⟩) (Kd.R_far (p:=⟨gb906,0,none⟩) (Kd.R_types HO905.out BK906.out (by decide)) (fun _ hk=>hk.2) (.int .i64 t901)) (fun _ hk=>hk.2) (.int .i64 t902)) (fun _ hk=>hk.2) (.slice Ao36 t903.length co36)) (fun _ h_=>h_.1))));(case side4=>exact(Kd.R_reads' HO905.out).2.1);rintro e w38 ⟨rfl,hb⟩;refine⟨_,rfl,?_⟩;have n0_:=qal.mk (Kd.S_below (by(with_reducible repeat(first|apply Kd.S_alloc|apply Kd.S_drewN|apply Kd.S_drew));exact(Kd.S_mono (Kd.S_far (p:=⟨gb906,2,none⟩) (Kd.S_far (p:=⟨gb906,1,none⟩) (Kd.S_far (p:=⟨gb906,0,none⟩) (Kd.S_types HO891.out BK906.out (by decide)) (fun _ hk=>hk.2) (.int .i64 t901)) (fun _ hk=>hk.2) (.int .i64 t902)) (fun _ hk=>hk.2) (.slice Ao36 t903.length co36)) (fun _ h_=>h_.1))) hb);have n1_:=qal.mk (Kd.R_below (by(with_reducible repeat(first|apply Kd.R_alloc|apply Kd.R_drewN|apply Kd.R_drew));exact(Kd.R_mono (Kd.R_far (p:=⟨gb906,2,none⟩) (Kd.R_far (p:=⟨gb906,1,none⟩) (Kd.R_far (p:=⟨gb906,0,none⟩) (Kd.R_types HO896.out BK906.out (by decide)) (fun _ hk=>hk.2) (.int .i64 t901)) (fun _ hk=>hk.2) (.int .i64 t902)) (fun _ hk=>hk.2) (.slice Ao36 t903.length co36)) (fun _ h_=>h_.1))) hb);have n2_:=qal.mk (Kd.S_below (by(with_reducible repeat(first|apply Kd.S_alloc|apply Kd.S_drewN|apply Kd.S_drew));exact(Kd.S_mono (Kd.S_far (p:=⟨gb906,2,none⟩) (Kd.S_far (p:=⟨gb906,1,none⟩) (Kd.S_far (p:=⟨gb906,0,none⟩) (Kd.S_types HO900.out BK906.out (by decide)) (fun _ hk=>hk.2) (.int .i64 t901)) (fun _ hk=>hk.2) (.int .i64 t902)) (fun _ hk=>hk.2) (.slice Ao36 t903.length co36)) (fun _ h_=>h_.1))) hb);have n3_:=qal.mk (Kd.R_below (by(with_reducible repeat(first|apply Kd.R_alloc|apply Kd.R_drewN|apply Kd.R_drew));exact(Kd.R_mono (Kd.R_far (p:=⟨gb906,2,none⟩) (Kd.R_far (p:=⟨gb906,1,none⟩) (Kd.R_far (p:=⟨gb906,0,none⟩) (Kd.R_types HO905.out BK906.out (by decide)) (fun _ hk=>hk.2) (.int .i64 t901)) (fun _ hk=>hk.2) (.int .i64 t902)) (fun _ hk=>hk.2) (.slice Ao36 t903.length co36)) (fun _ h_=>h_.1))) hb);have n4_:=qal.mk (qac (g:=gb886) (o:=.cells #[.int .i64 a1_0,.int .i64 a1_1,.slice A1_2 l1_2.length c1_2] 57 (0,0)) (za7 NB886_906 BK886) hb);have n5_:=qal.mk (qac (g:=gb906) (o:=.cells #[.int .i64 t901,.int .i64 t902,.slice Ao36 t903.length co36] 62 (0,0)) (by(with_reducible repeat(first|refine qag ?_ _|refine qah ?_|refine qaf ?_ _));refine qan (cs:=#[.int .i64 t901,.int .i64 t902,.slice none 0 0]) ?_ 2 _ rfl;(with_reducible repeat(first|refine qag ?_ _|refine qah ?_|refine qaf ?_ _));refine qan (cs:=#[.int .i64 t901,.int .i64 0,.slice none 0 0]) ?_ 1 _ rfl;(with_reducible repeat(first|refine qag ?_ _|refine qah ?_|refine qaf ?_ _));refine qan (cs:=#[.int .i64 0,.int .i64 0,.slice none 0 0]) ?_ 0 _ rfl;(with_reducible repeat(first|refine qag ?_ _|refine qah ?_|refine qaf ?_ _));exact BK906.out) hb);have n6_:=qal.mk (qae (za3 HB GE886 GE906) hb);clear HO891;clear HO896;clear HO900;clear HO905;clear BK886;clear BK906;clear HB;have HO891:=n0_;have HO896:=n1_;have HO900:=n2_;have HO905:=n3_;have BK886:=n4_;have BK906:=n5_;have HB:=n6_;clear n0_ n1_ n2_ n3_ n4_ n5_ n6_;(try clear hb);(try clear hb2);(try clear hk);(try clear hi)))
    go_ret
    exact⟨za9,za3 HB GE886 GE906⟩
   ·rw[if_neg c19] at H
    have c19b0:(t907 != t897)=false:=by simpa using c19
    (try(have c19b1:decide (t907=t897)=true:=by simpa using c19))
    (try(have c19b2:(t907 == t897)=true:=by simpa using c19))
    clear c19
    replace H:=Option.bind_eq_some_iff.mp H
    obtain⟨t908,A390,H⟩:=H
    replace H:((laws_eqTripS.f k t898 t908).bind fun t911=>(if t911=true then((laws_toRec.f k a1_0 a1_1 l1_2).bind fun bt912=>((laws_eqRec.f k t901 t902 t903 bt912.1 bt912.2.1 bt912.2.2).bind fun t917=>(if t917=true then(some true) else(some false)))) else(some false)))=some r:=H
    have A39:=qal.mk A390
    clear A390
    replace H:=Option.bind_eq_some_iff.mp H
    obtain⟨t911,A400,H⟩:=H
    replace H:(if t911=true then((laws_toRec.f k a1_0 a1_1 l1_2).bind fun bt912=>((laws_eqRec.f k t901 t902 t903 bt912.1 bt912.2.1 bt912.2.2).bind fun t917=>(if t917=true then(some true) else(some false)))) else(some false))=some r:=H
    have A40:=qal.mk A400
    clear A400
    by_cases c41:t911=true
    ·subst c41
     have H1:((laws_toRec.f k a1_0 a1_1 l1_2).bind fun bt912=>((laws_eqRec.f k t901 t902 t903 bt912.1 bt912.2.1 bt912.2.2).bind fun t917=>(if t917=true then(some true) else(some false))))=some r:=by rw[if_pos rfl] at H;exact H
     clear H
     have H:=H1
     clear H1
     replace H:=Option.bind_eq_some_iff.mp H
     obtain⟨⟨t912,t913,t914⟩,A420,H⟩:=H
     replace H:((laws_eqRec.f k t901 t902 t903 t912 t913 t914).bind fun t917=>(if t917=true then(some true) else(some false)))=some r:=H
     have A42:=qal.mk A420
     clear A420
     replace H:=Option.bind_eq_some_iff.mp H
     obtain⟨t917,A430,H⟩:=H
     replace H:(if t917=true then(some true) else(some false))=some r:=H
     have A43:=qal.mk A430
     clear A430
     by_cases c44:t917=true
     ·subst c44
      have H1:(some true)=some r:=by rw[if_pos rfl] at H;exact H
      clear H
      have H:=H1
      clear H1
      obtain rfl:=Option.some.inj H
      go_enter Try.func11,Try.ntmps11
      try go_wp2_with(first|((with_reducible refine qak (N:=3) rfl ?_);refine qaj ?hg (N:=3) ?hd (cs:=#[.int .i64 a1_0,.int .i64 a1_1,.slice A1_2 l1_2.length c1_2]) (t:=57) ?hr ?_;(case hd=>rfl);(case hg=>rfl);(case hr=>first|(go_simp;done)|(go_simp;rfl));intro gb886 hg w45 hbox hb;have n0_:=qal.mk (qae (za2 HB) hb);have n1_:=qal.mk (hbox);have n2_:=qal.mk ((by rw[hg];exact(qad (za2 HB)):w.heap.size≤gb886));have n3_:=qal.mk ((by rw[hg];exact(qad (za2 HB)):w.heap.size≤gb886));clear HB;have HB:=n0_;have BK886:=n1_;have GW886:=n2_;have GE886:=n3_;clear n0_ n1_ n2_ n3_;clear hb hbox hg)|((with_reducible refine qai (f:=48) rfl ?_);refine qau (some 12) rfl rfl Try.func48 (by kernel_rfl) rfl #[.slice A0 l0.length c0,.int .i64 1048576] rfl (by(try simp only[List.map_toArray,List.map_cons,List.map_nil]);first|done|rfl|(simp only[List.length_drop,List.length_take];rfl)) ?_;(with_reducible refine(laws_szTripS.calls k _ _ l0 1048576 t887 _ ?side1 ?side2 A3.out).mono ?_);(case side1=>repeat(first|exact(Kd.C_below HR0.out HB.out)|(with_reducible refine Kd.C_alloc ?_ _)|(with_reducible refine Kd.C_drewN ?_ _)|(with_reducible refine Kd.C_drew ?_)));(case side2=>exact HC0.out);rintro e w46 ⟨rfl,hb⟩;refine⟨_,rfl,?_⟩;have n0_:=qal.mk (qac (g:=gb886) (o:=.cells #[.int .i64 a1_0,.int .i64 a1_1,.slice A1_2 l1_2.length c1_2] 57 (0,0)) (za0 BK886) hb);have n1_:=qal.mk (qae (za1 HB GE886) hb);clear BK886;clear HB;have BK886:=n0_;have HB:=n1_;clear n0_ n1_;(try clear hb);(try clear hb2);(try clear hk);(try clear hi);have hcz47_0:w46.cell? ⟨gb886,0,none⟩=some (.int .i64 a1_0):=(qab BK886.out 0).trans rfl;have hcz47_1:w46.cell? ⟨gb886,1,none⟩=some (.int .i64 a1_1):=(qab BK886.out 1).trans rfl;have hcz47_2:w46.cell? ⟨gb886,2,none⟩=some (.slice A1_2 l1_2.length c1_2):=(qab BK886.out 2).trans rfl;have hfz47_0:=qaa BK886.out 0;have hfz47_1:=qaa BK886.out 1;have hfz47_2:=qaa BK886.out 2)|((with_reducible refine qai (f:=36) rfl ?_);refine qau (some 17) rfl rfl Try.func36 (by kernel_rfl) rfl #[.agg #[.int .i64 a1_0,.int .i64 a1_1,.slice A1_2 l1_2.length c1_2],.int .i64 t887] rfl (by(try simp only[List.map_toArray,List.map_cons,List.map_nil]);first|done|rfl|(simp only[List.length_drop,List.length_take];rfl)) ?_;(with_reducible refine(laws_szRec.calls a1_0 a1_1 _ _ l1_2 t887 t888 _ ?side1 ?side2 A7.out).mono ?_);(case side1=>repeat(first|exact(Kd.C_below HR1_2.out HB.out)|(with_reducible refine Kd.C_alloc ?_ _)|(with_reducible refine Kd.C_drewN ?_ _)|(with_reducible refine Kd.C_drew ?_)));(case side2=>exact HC1_2.out);rintro e w48 ⟨rfl,hb⟩;refine⟨_,rfl,?_⟩;have n0_:=qal.mk (qac (g:=gb886) (o:=.cells #[.int .i64 a1_0,.int .i64 a1_1,.slice A1_2 l1_2.length c1_2] 57 (0,0)) (za0 BK886) hb);have n1_:=qal.mk (qae (za1 HB GE886) hb);clear BK886;clear HB;have BK886:=n0_;have HB:=n1_;clear n0_ n1_;(try clear hb);(try clear hb2);(try clear hk);(try clear hi)))
      have n0_:=qal.mk (qah BK886.out)
      have n1_:=qal.mk (qaq HB.out)
      clear BK886
      clear HB
      have BK886:=n0_
      have HB:=n1_
      clear n0_ n1_
      refine start_ (n:=6) (S:=fun w'=>w'.cell? ⟨gb886,0,none⟩=some (.int .i64 a1_0)∧w'.cell? ⟨gb886,1,none⟩=some (.int .i64 a1_1)∧w'.cell? ⟨gb886,2,none⟩=some (.slice A1_2 l1_2.length c1_2)) (ds:=[]) #[false,false,false,false,false,false] (by kernel_rfl) rfl rfl ⟨(qab BK886.out 0).trans rfl,(qab BK886.out 1).trans rfl,(qab BK886.out 2).trans rfl⟩ (fun hHeld=>?_)
      generalize w48.drew=w49 at BK886 HB hHeld ⊢
      refine qaz (i:=0) (N:=some 20) (v:=?_) (a':=?_) #[true,false,false,false,false,false] rfl rfl (by kernel_rfl) (fun _ _ _ h=>h) (Or.inl ⟨by rfl,?_⟩) ?_ ?_
      rotate_left
      ·intro w'
       go_simp
       with_reducible rfl
      rotate_left
      ·simp only[Act.put,List.setIfInBounds_toArray,List.set_cons_zero,List.set_cons_succ,qas,qat]
       rfl
      refine take_ (i:=2) (N:=some 22) (v:=?_) (a':=?_) #[true,false,true,false,false,false] rfl rfl (by kernel_rfl) (fun _ _ _ h=>h) (Or.inl ⟨by rfl,?_⟩) hHeld ?_ ?_
      rotate_left
      ·rintro w' ⟨s0,s1,s2⟩
       go_simp
       with_reducible rfl
      rotate_left
      ·simp only[Act.put,List.setIfInBounds_toArray,List.set_cons_zero,List.set_cons_succ,qas,qat]
       rfl
      refine one_ (i:=1) (N:=some 21) #[true,true,true,false,false,false] rfl rfl (by kernel_rfl) (by decide) (fun K hK=>?_)
      refine goes_ Try.func50 (by kernel_rfl) rfl #[.slice A0 l0.length c0] (by rfl) rfl rfl (by(try simp only[List.map_toArray,List.map_cons,List.map_nil]);first|done|rfl|(simp only[List.length_drop,List.length_take];rfl)) ?_
      with_reducible refine(laws_toTripS.calls k _ _ l0 t889 _ ?side1 ?side2 A13.out).mono ?_
      (case side1=>repeat(first|exact(Kd.C_below HR0.out HB.out)|(with_reducible refine Kd.C_alloc ?_ _)|(with_reducible refine Kd.C_drewN ?_ _)|(with_reducible refine Kd.C_drew ?_)))
      (case side2=>exact HC0.out)
      rintro e w50 ⟨v890,rfl,ho0,hb⟩
      refine⟨_,rfl,?_⟩
      have n0_:=qal.mk (Kd.S_lower ho0 (qad (za1 HB GE886)))
      have n1_:=qal.mk (qac (g:=gb886) (o:=.cells #[.int .i64 a1_0,.int .i64 a1_1,.slice A1_2 l1_2.length c1_2] 57 (0,0)) (za0 BK886) hb)
      have n2_:=qal.mk (qae (za1 HB GE886) hb)
      clear BK886
      clear HB
      have HO891:=n0_
      have BK886:=n1_
      have HB:=n2_
      clear n0_ n1_ n2_
      (try clear hb)
      (try clear hb2)
      (try clear hk)
      (try clear hi)
      (try clear ho0)
      refine hK.out _ _ ⟨(qab BK886.out 0).trans rfl,(qab BK886.out 1).trans rfl,(qab BK886.out 2).trans rfl⟩ (fun hHeld=>?_)
      clear hK K
      refine norm_ (a':=?_) ?_ ?_
      rotate_left
      ·show Act.put _ (some 21) _=_
       simp only[Act.put,List.setIfInBounds_toArray,List.set_cons_zero,List.set_cons_succ,qas,qat]
       rfl
      refine one_ (i:=3) (N:=some 23) #[true,true,true,true,false,false] rfl rfl (by kernel_rfl) (by decide) (fun K hK=>?_)
      refine goes_ Try.func39 (by kernel_rfl) rfl #[.agg #[.int .i64 a1_0,.int .i64 a1_1,.slice A1_2 l1_2.length c1_2]] (by rfl) rfl rfl (by(try simp only[List.map_toArray,List.map_cons,List.map_nil]);first|done|rfl|(simp only[List.length_drop,List.length_take];rfl)) ?_
      with_reducible refine(laws_toRec.calls k a1_0 a1_1 _ _ l1_2 t892 t893 t894 _ ?side1 ?side2 A14.out).mono ?_
      (case side1=>repeat(first|exact(Kd.C_below HR1_2.out HB.out)|(with_reducible refine Kd.C_alloc ?_ _)|(with_reducible refine Kd.C_drewN ?_ _)|(with_reducible refine Kd.C_drew ?_)))
      (case side2=>exact HC1_2.out)
      rintro e w51 ⟨v895,rfl,ho0,hb⟩
      refine⟨_,rfl,?_⟩
      have n0_:=qal.mk (Kd.S_elder' (za10 HO891) (Kd.R_base ho0) hb)
      have n1_:=qal.mk (Kd.R_lower ho0 (qad (za1 HB GE886)))
      have n2_:=qal.mk (qac (g:=gb886) (o:=.cells #[.int .i64 a1_0,.int .i64 a1_1,.slice A1_2 l1_2.length c1_2] 57 (0,0)) (za0 BK886) hb)
      have n3_:=qal.mk (qae (za1 HB GE886) hb)
      clear HO891
      clear BK886
      clear HB
      have HO891:=n0_
      have HO896:=n1_
      have BK886:=n2_
      have HB:=n3_
      clear n0_ n1_ n2_ n3_
      (try clear hb)
      (try clear hb2)
      (try clear hk)
      (try clear hi)
      (try clear ho0)
      obtain⟨Ao52,co52,eo52⟩:=Kd.S_slice HO891.out
      (first|subst eo52|(injection eo52 with f1_ f2_ f3_;have f4_:=f1_.symm;have f5_:=f3_.symm;clear f1_ f2_ f3_;subst f4_;subst f5_))
      obtain⟨Ao53,co53,eo53⟩:=Kd.R_slice HO896.out
      (first|subst eo53|(injection eo53 with f1_ f2_ f3_;have f4_:=f1_.symm;have f5_:=f3_.symm;clear f1_ f2_ f3_;subst f4_;subst f5_))
      refine hK.out _ _ ⟨(qab BK886.out 0).trans rfl,(qab BK886.out 1).trans rfl,(qab BK886.out 2).trans rfl⟩ (fun hHeld=>?_)
      clear hK K
      refine norm_ (a':=?_) ?_ ?_
      rotate_left
      ·show Act.put _ (some 23) _=_
       simp only[Act.put,List.setIfInBounds_toArray,List.set_cons_zero,List.set_cons_succ,qas,qat]
       rfl
      refine one_ (i:=4) (N:=some 24) #[true,true,true,true,true,false] rfl rfl (by kernel_rfl) (by decide) (fun K hK=>?_)
      refine goes_ Try.func49 (by kernel_rfl) rfl #[.slice Ao52 t889.length co52,.agg #[.int .i64 t892,.int .i64 t893,.slice Ao53 t894.length co53]] (by rfl) rfl rfl (by(try simp only[List.map_toArray,List.map_cons,List.map_nil]);first|done|rfl|(simp only[List.length_drop,List.length_take];rfl)) ?_
      with_reducible refine(spec_TripsMay.calls k _ _ t889 t892 t893 _ _ t894 t897 _ ?side1 ?side2 ?side3 ?side4 A15.out).mono ?_
      (case side1=>repeat(first|exact(Kd.S_reads' HO891.out).2.2|(with_reducible refine Kd.C_alloc ?_ _)|(with_reducible refine Kd.C_drewN ?_ _)|(with_reducible refine Kd.C_drew ?_)))
      (case side2=>exact(Kd.S_reads' HO891.out).2.1)
      (case side3=>repeat(first|exact(Kd.R_reads' HO896.out).2.2|(with_reducible refine Kd.C_alloc ?_ _)|(with_reducible refine Kd.C_drewN ?_ _)|(with_reducible refine Kd.C_drew ?_)))
      (case side4=>exact(Kd.R_reads' HO896.out).2.1)
      rintro e w54 ⟨rfl,hb⟩
      refine⟨_,rfl,?_⟩
      have n0_:=qal.mk (Kd.S_below (za10 HO891) hb)
      have n1_:=qal.mk (Kd.R_below (za4 HO896) hb)
      have n2_:=qal.mk (qac (g:=gb886) (o:=.cells #[.int .i64 a1_0,.int .i64 a1_1,.slice A1_2 l1_2.length c1_2] 57 (0,0)) (za0 BK886) hb)
      have n3_:=qal.mk (qae (za1 HB GE886) hb)
      clear HO891
      clear HO896
      clear BK886
      clear HB
      have HO891:=n0_
      have HO896:=n1_
      have BK886:=n2_
      have HB:=n3_
      clear n0_ n1_ n2_ n3_
      (try clear hb)
      (try clear hb2)
      (try clear hk)
      (try clear hi)
      refine hK.out _ _ ⟨(qab BK886.out 0).trans rfl,(qab BK886.out 1).trans rfl,(qab BK886.out 2).trans rfl⟩ (fun hHeld=>?_)
      clear hK K
      refine norm_ (a':=?_) ?_ ?_
      rotate_left
      ·show Act.put _ (some 24) _=_
       simp only[Act.put,List.setIfInBounds_toArray,List.set_cons_zero,List.set_cons_succ,qas,qat]
       rfl
      refine qaz (i:=5) (N:=some 6) (v:=?_) (a':=?_) #[true,true,true,true,true,true] rfl rfl (by kernel_rfl) (fun _ _ _ h=>h) (Or.inl ⟨by rfl,?_⟩) ?_ ?_
      rotate_left
      ·intro w'
       go_simp
       with_reducible rfl
      rotate_left
      ·simp only[Act.put,List.setIfInBounds_toArray,List.set_cons_zero,List.set_cons_succ,qas,qat]
       rfl
      refine done_ (by kernel_rfl) ?_
      try go_wp2_with(first|((with_reducible refine qai (f:=50) rfl ?_);refine qau (some 26) rfl rfl Try.func50 (by kernel_rfl) rfl #[.slice A0 l0.length c0] rfl (by(try simp only[List.map_toArray,List.map_cons,List.map_nil]);first|done|rfl|(simp only[List.length_drop,List.length_take];rfl)) ?_;(with_reducible refine(laws_toTripS.calls k _ _ l0 t898 _ ?side1 ?side2 A16.out).mono ?_);(case side1=>repeat(first|exact(Kd.C_below HR0.out HB.out)|(with_reducible refine Kd.C_alloc ?_ _)|(with_reducible refine Kd.C_drewN ?_ _)|(with_reducible refine Kd.C_drew ?_)));(case side2=>exact HC0.out);rintro e w55 ⟨v899,rfl,ho0,hb⟩;refine⟨_,rfl,?_⟩;have n0_:=qal.mk (Kd.S_elder' (za10 HO891) (Kd.S_base ho0) hb);have n1_:=qal.mk (Kd.R_below (za4 HO896) hb);have n2_:=qal.mk (Kd.S_lower (Kd.S_new' (Kd.S_new' ho0 (Kd.S_lt (za10 HO891))) (Kd.R_lt (za4 HO896))) (qad (za1 HB GE886)));have n3_:=qal.mk (qac (g:=gb886) (o:=.cells #[.int .i64 a1_0,.int .i64 a1_1,.slice A1_2 l1_2.length c1_2] 57 (0,0)) (za0 BK886) hb);have n4_:=qal.mk (qae (za1 HB GE886) hb);clear HO891;clear HO896;clear BK886;clear HB;have HO891:=n0_;have HO896:=n1_;have HO900:=n2_;have BK886:=n3_;have HB:=n4_;clear n0_ n1_ n2_ n3_ n4_;(try clear hb);(try clear hb2);(try clear hk);(try clear hi);(try clear ho0);have hcz56_0:w55.cell? ⟨gb886,0,none⟩=some (.int .i64 a1_0):=(qab BK886.out 0).trans rfl;have hcz56_1:w55.cell? ⟨gb886,1,none⟩=some (.int .i64 a1_1):=(qab BK886.out 1).trans rfl;have hcz56_2:w55.cell? ⟨gb886,2,none⟩=some (.slice A1_2 l1_2.length c1_2):=(qab BK886.out 2).trans rfl;have hfz56_0:=qaa BK886.out 0;have hfz56_1:=qaa BK886.out 1;have hfz56_2:=qaa BK886.out 2)|((with_reducible refine qai (f:=39) rfl ?_);refine qau (some 28) rfl rfl Try.func39 (by kernel_rfl) rfl #[.agg #[.int .i64 a1_0,.int .i64 a1_1,.slice A1_2 l1_2.length c1_2]] rfl (by(try simp only[List.map_toArray,List.map_cons,List.map_nil]);first|done|rfl|(simp only[List.length_drop,List.length_take];rfl)) ?_;(with_reducible refine(laws_toRec.calls k a1_0 a1_1 _ _ l1_2 t901 t902 t903 _ ?side1 ?side2 A17.out).mono ?_);(case side1=>repeat(first|exact(Kd.C_below HR1_2.out HB.out)|(with_reducible refine Kd.C_alloc ?_ _)|(with_reducible refine Kd.C_drewN ?_ _)|(with_reducible refine Kd.C_drew ?_)));(case side2=>exact HC1_2.out);rintro e w57 ⟨v904,rfl,ho0,hb⟩;refine⟨_,rfl,?_⟩;have n0_:=qal.mk (Kd.S_elder' (za10 HO891) (Kd.R_base ho0) hb);have n1_:=qal.mk (Kd.R_elder' (za4 HO896) (Kd.R_base ho0) hb);have n2_:=qal.mk (Kd.S_elder' (za10 HO900) (Kd.R_base ho0) hb);have n3_:=qal.mk (Kd.R_lower (Kd.R_new' ho0 (Kd.R_lt (za4 HO896))) (qad (za1 HB GE886)));have n4_:=qal.mk (qac (g:=gb886) (o:=.cells #[.int .i64 a1_0,.int .i64 a1_1,.slice A1_2 l1_2.length c1_2] 57 (0,0)) (za0 BK886) hb);have n5_:=qal.mk (qae (za1 HB GE886) hb);clear HO891;clear HO896;clear HO900;clear BK886;clear HB;have HO891:=n0_;have HO896:=n1_;have HO900:=n2_;have HO905:=n3_;have BK886:=n4_;have HB:=n5_;clear n0_ n1_ n2_ n3_ n4_ n5_;(try clear hb);(try clear hb2);(try clear hk);(try clear hi);(try clear ho0))|((with_reducible refine qak (N:=8) rfl ?_);refine qaj ?hg (N:=8) ?hd (cs:=#[.int .i64 0,.int .i64 0,.slice none 0 0]) (t:=62) ?hr ?_;(case hd=>rfl);(case hg=>rfl);(case hr=>first|(go_simp;done)|(go_simp;rfl));intro gb906 hg w58 hbox hb;have n0_:=qal.mk (Kd.S_below (za10 HO891) hb);have n1_:=qal.mk (Kd.R_below (za4 HO896) hb);have n2_:=qal.mk (Kd.S_below (za10 HO900) hb);have n3_:=qal.mk (Kd.R_below (za4 HO905) hb);have n4_:=qal.mk (qac (g:=gb886) (o:=.cells #[.int .i64 a1_0,.int .i64 a1_1,.slice A1_2 l1_2.length c1_2] 57 (0,0)) (za0 BK886) hb);have n5_:=qal.mk (qae (za1 HB GE886) hb);have n6_:=qal.mk (hbox);have n7_:=qal.mk ((by rw[hg];exact(qad (za1 HB GE886)):w.heap.size≤gb906));have n8_:=qal.mk ((by rw[hg];exact(qad (za1 HB GE886)):w.heap.size≤gb906));have n9_:=qal.mk ((by rw[hg];exact Nat.ne_of_lt (qao (g:=gb886) (o:=.cells #[.int .i64 a1_0,.int .i64 a1_1,.slice A1_2 l1_2.length c1_2] 57 (0,0)) (za0 BK886)):gb886≠gb906));have n10_:=qal.mk ((by rw[hg];exact Nat.ne_of_gt (qao (g:=gb886) (o:=.cells #[.int .i64 a1_0,.int .i64 a1_1,.slice A1_2 l1_2.length c1_2] 57 (0,0)) (za0 BK886)):gb906≠gb886));clear HO891;clear HO896;clear HO900;clear HO905;clear BK886;clear HB;have HO891:=n0_;have HO896:=n1_;have HO900:=n2_;have HO905:=n3_;have BK886:=n4_;have HB:=n5_;have BK906:=n6_;have GW906:=n7_;have GE906:=n8_;have NB886_906:=n9_;have NB906_886:=n10_;clear n0_ n1_ n2_ n3_ n4_ n5_ n6_ n7_ n8_ n9_ n10_;clear hb hbox hg;have hnb59:=NB906_886.out;have hnc59:=NB886_906.out;have hcz60_0:w58.cell? ⟨gb906,0,none⟩=some (.int .i64 0):=(qab BK906.out 0).trans rfl;have hcz60_1:w58.cell? ⟨gb906,1,none⟩=some (.int .i64 0):=(qab BK906.out 1).trans rfl;have hcz60_2:w58.cell? ⟨gb906,2,none⟩=some (.slice none 0 0):=(qab BK906.out 2).trans rfl;have hfz60_0:=qaa BK906.out 0;have hfz60_1:=qaa BK906.out 1;have hfz60_2:=qaa BK906.out 2;obtain⟨Ao61,co61,eo61⟩:=Kd.R_slice HO905.out;subst eo61;obtain⟨Ao62,co62,eo62⟩:=Kd.S_slice HO900.out;subst eo62)|((with_reducible refine qai (f:=51) rfl ?_);refine qau (some 31) rfl rfl Try.func51 (by kernel_rfl) rfl #[.slice Ao62 t898.length co62,.agg #[.int .i64 t901,.int .i64 t902,.slice Ao61 t903.length co61]] rfl (by(try simp only[List.map_toArray,List.map_cons,List.map_nil]);first|done|rfl|(simp only[List.length_drop,List.length_take];rfl)) ?_;(with_reducible refine(impl_TripsMay.calls k _ _ t898 t901 t902 _ _ t903 t907 _ ?side1 ?side2 ?side3 ?side4 A18.out).mono ?_);(case side1=>refine(Kd.S_reads' (e:=73) (base:=w.heap.size) (ok:=fun k_=>(((True∧some k_≠(.slice Ao52 t889.length co52:Value).ownBlock)∧some k_≠(.slice Ao53 t894.length co53:Value).ownBlock)∧some k_≠(.slice Ao61 t903.length co61:Value).ownBlock)) (n:=t898.length) (c:=co62) ?_).2.2;exact(by(with_reducible repeat(first|apply Kd.S_alloc|apply Kd.S_drewN|apply Kd.S_drew));exact(Kd.S_mono (Kd.S_far (p:=⟨gb906,2,none⟩) (Kd.S_far (p:=⟨gb906,1,none⟩) (Kd.S_far (p:=⟨gb906,0,none⟩) (Kd.S_types HO900.out BK906.out (by decide)) (fun _ hk=>hk.2) (.int .i64 t901)) (fun _ hk=>hk.2) (.int .i64 t902)) (fun _ hk=>hk.2) (.slice Ao61 t903.length co61)) (fun _ h_=>h_.1))));(case side2=>exact(Kd.S_reads' HO900.out).2.1);(case side3=>refine(Kd.R_reads' (e:=3) (base:=w.heap.size) (ok:=fun k_=>(True∧some k_≠(.slice Ao53 t894.length co53:Value).ownBlock)) (n:=t903.length) (c:=co61) ?_).2.2;exact(by(with_reducible repeat(first|apply Kd.R_alloc|apply Kd.R_drewN|apply Kd.R_drew));exact(Kd.R_mono (Kd.R_far (p:=⟨gb906,2,none⟩) (Kd.R_far (p:=⟨gb906,1,none⟩) (Kd.R_far (p:=⟨gb906,0,none⟩) (Kd.R_types HO905.out BK906.out (by decide)) (fun _ hk=>hk.2) (.int .i64 t901)) (fun _ hk=>hk.2) (.int .i64 t902)) (fun _ hk=>hk.2) (.slice Ao61 t903.length co61)) (fun _ h_=>h_.1))));(case side4=>exact(Kd.R_reads' HO905.out).2.1);rintro e w63 ⟨rfl,hb⟩;refine⟨_,rfl,?_⟩;have n0_:=qal.mk (Kd.S_below (by(with_reducible repeat(first|apply Kd.S_alloc|apply Kd.S_drewN|apply Kd.S_drew));exact(Kd.S_mono (Kd.S_far (p:=⟨gb906,2,none⟩) (Kd.S_far (p:=⟨gb906,1,none⟩) (Kd.S_far (p:=⟨gb906,0,none⟩) (Kd.S_types HO891.out BK906.out (by decide)) (fun _ hk=>hk.2) (.int .i64 t901)) (fun _ hk=>hk.2) (.int .i64 t902)) (fun _ hk=>hk.2) (.slice Ao61 t903.length co61)) (fun _ h_=>h_.1))) hb);have n1_:=qal.mk (Kd.R_below (by(with_reducible repeat(first|apply Kd.R_alloc|apply Kd.R_drewN|apply Kd.R_drew));exact(Kd.R_mono (Kd.R_far (p:=⟨gb906,2,none⟩) (Kd.R_far (p:=⟨gb906,1,none⟩) (Kd.R_far (p:=⟨gb906,0,none⟩) (Kd.R_types HO896.out BK906.out (by decide)) (fun _ hk=>hk.2) (.int .i64 t901)) (fun _ hk=>hk.2) (.int .i64 t902)) (fun _ hk=>hk.2) (.slice Ao61 t903.length co61)) (fun _ h_=>h_.1))) hb);have n2_:=qal.mk (Kd.S_below (by(with_reducible repeat(first|apply Kd.S_alloc|apply Kd.S_drewN|apply Kd.S_drew));exact(Kd.S_mono (Kd.S_far (p:=⟨gb906,2,none⟩) (Kd.S_far (p:=⟨gb906,1,none⟩) (Kd.S_far (p:=⟨gb906,0,none⟩) (Kd.S_types HO900.out BK906.out (by decide)) (fun _ hk=>hk.2) (.int .i64 t901)) (fun _ hk=>hk.2) (.int .i64 t902)) (fun _ hk=>hk.2) (.slice Ao61 t903.length co61)) (fun _ h_=>h_.1))) hb);have n3_:=qal.mk (Kd.R_below (by(with_reducible repeat(first|apply Kd.R_alloc|apply Kd.R_drewN|apply Kd.R_drew));exact(Kd.R_mono (Kd.R_far (p:=⟨gb906,2,none⟩) (Kd.R_far (p:=⟨gb906,1,none⟩) (Kd.R_far (p:=⟨gb906,0,none⟩) (Kd.R_types HO905.out BK906.out (by decide)) (fun _ hk=>hk.2) (.int .i64 t901)) (fun _ hk=>hk.2) (.int .i64 t902)) (fun _ hk=>hk.2) (.slice Ao61 t903.length co61)) (fun _ h_=>h_.1))) hb);have n4_:=qal.mk (qac (g:=gb886) (o:=.cells #[.int .i64 a1_0,.int .i64 a1_1,.slice A1_2 l1_2.length c1_2] 57 (0,0)) (za7 NB886_906 BK886) hb);have n5_:=qal.mk (qac (g:=gb906) (o:=.cells #[.int .i64 t901,.int .i64 t902,.slice Ao61 t903.length co61] 62 (0,0)) (by(with_reducible repeat(first|refine qag ?_ _|refine qah ?_|refine qaf ?_ _));refine qan (cs:=#[.int .i64 t901,.int .i64 t902,.slice none 0 0]) ?_ 2 _ rfl;(with_reducible repeat(first|refine qag ?_ _|refine qah ?_|refine qaf ?_ _));refine qan (cs:=#[.int .i64 t901,.int .i64 0,.slice none 0 0]) ?_ 1 _ rfl;(with_reducible repeat(first|refine qag ?_ _|refine qah ?_|refine qaf ?_ _));refine qan (cs:=#[.int .i64 0,.int .i64 0,.slice none 0 0]) ?_ 0 _ rfl;(with_reducible repeat(first|refine qag ?_ _|refine qah ?_|refine qaf ?_ _));exact BK906.out) hb);have n6_:=qal.mk (qae (za3 HB GE886 GE906) hb);clear HO891;clear HO896;clear HO900;clear HO905;clear BK886;clear BK906;clear HB;have HO891:=n0_;have HO896:=n1_;have HO900:=n2_;have HO905:=n3_;have BK886:=n4_;have BK906:=n5_;have HB:=n6_;clear n0_ n1_ n2_ n3_ n4_ n5_ n6_;(try clear hb);(try clear hb2);(try clear hk);(try clear hi))|((with_reducible refine qai (f:=50) rfl ?_);refine qau (some 37) rfl rfl Try.func50 (by kernel_rfl) rfl #[.slice A0 l0.length c0] rfl (by(try simp only[List.map_toArray,List.map_cons,List.map_nil]);first|done|rfl|(simp only[List.length_drop,List.length_take];rfl)) ?_;(with_reducible refine(laws_toTripS.calls k _ _ l0 t908 _ ?side1 ?side2 A39.out).mono ?_);(case side1=>repeat(first|exact(Kd.C_below HR0.out HB.out)|(with_reducible refine Kd.C_alloc ?_ _)|(with_reducible refine Kd.C_drewN ?_ _)|(with_reducible refine Kd.C_drew ?_)));(case side2=>exact HC0.out);rintro e w64 ⟨v909,rfl,ho0,hb⟩;refine⟨_,rfl,?_⟩;have n0_:=qal.mk (Kd.S_elder' (za10 HO891) (Kd.S_base ho0) hb);have n1_:=qal.mk (Kd.R_below (za4 HO896) hb);have n2_:=qal.mk (Kd.S_elder' (za10 HO900) (Kd.S_base ho0) hb);have n3_:=qal.mk (Kd.R_below (za4 HO905) hb);have n4_:=qal.mk (Kd.S_lower (Kd.S_new' (Kd.S_new' (Kd.S_new' (Kd.S_new' ho0 (Kd.S_lt (za10 HO891))) (Kd.R_lt (za4 HO896))) (Kd.S_lt (za10 HO900))) (Kd.R_lt (za4 HO905))) (qad (za3 HB GE886 GE906)));have n5_:=qal.mk (qac (g:=gb886) (o:=.cells #[.int .i64 a1_0,.int .i64 a1_1,.slice A1_2 l1_2.length c1_2] 57 (0,0)) (za0 BK886) hb);have n6_:=qal.mk (qac (g:=gb906) (o:=.cells #[.int .i64 t901,.int .i64 t902,.slice Ao61 t903.length co61] 62 (0,0)) (za0 BK906) hb);have n7_:=qal.mk (qae (za3 HB GE886 GE906) hb);clear HO891;clear HO896;clear HO900;clear HO905;clear BK886;clear BK906;clear HB;have HO891:=n0_;have HO896:=n1_;have HO900:=n2_;have HO905:=n3_;have HO910:=n4_;have BK886:=n5_;have BK906:=n6_;have HB:=n7_;clear n0_ n1_ n2_ n3_ n4_ n5_ n6_ n7_;(try clear hb);(try clear hb2);(try clear hk);(try clear hi);(try clear ho0);obtain⟨Ao65,co65,eo65⟩:=Kd.S_slice HO910.out;subst eo65)|((with_reducible refine qai (f:=52) rfl ?_);refine qau (some 38) rfl rfl Try.func52 (by kernel_rfl) rfl #[.slice Ao62 t898.length co62,.slice Ao65 t908.length co65] rfl (by(try simp only[List.map_toArray,List.map_cons,List.map_nil]);first|done|rfl|(simp only[List.length_drop,List.length_take];rfl)) ?_;(with_reducible refine(laws_eqTripS.calls k _ _ t898 _ _ t908 true _ ?side1 ?side2 ?side3 ?side4 A40.out).mono ?_);(case side1=>repeat(first|exact(Kd.S_reads' HO900.out).2.2|(with_reducible refine Kd.C_alloc ?_ _)|(with_reducible refine Kd.C_drewN ?_ _)|(with_reducible refine Kd.C_drew ?_)));(case side2=>exact(Kd.S_reads' HO900.out).2.1);(case side3=>repeat(first|exact(Kd.S_reads' HO910.out).2.2|(with_reducible refine Kd.C_alloc ?_ _)|(with_reducible refine Kd.C_drewN ?_ _)|(with_reducible refine Kd.C_drew ?_)));(case side4=>exact(Kd.S_reads' HO910.out).2.1);rintro e w66 ⟨rfl,hb⟩;refine⟨_,rfl,?_⟩;have n0_:=qal.mk (Kd.S_below (za10 HO891) hb);have n1_:=qal.mk (Kd.R_below (za4 HO896) hb);have n2_:=qal.mk (Kd.S_below (za10 HO900) hb);have n3_:=qal.mk (Kd.R_below (za4 HO905) hb);have n4_:=qal.mk (Kd.S_below (za10 HO910) hb);have n5_:=qal.mk (qac (g:=gb886) (o:=.cells #[.int .i64 a1_0,.int .i64 a1_1,.slice A1_2 l1_2.length c1_2] 57 (0,0)) (za0 BK886) hb);have n6_:=qal.mk (qac (g:=gb906) (o:=.cells #[.int .i64 t901,.int .i64 t902,.slice Ao61 t903.length co61] 62 (0,0)) (za0 BK906) hb);have n7_:=qal.mk (qae (za3 HB GE886 GE906) hb);clear HO891;clear HO896;clear HO900;clear HO905;clear HO910;clear BK886;clear BK906;clear HB;have HO891:=n0_;have HO896:=n1_;have HO900:=n2_;have HO905:=n3_;have HO910:=n4_;have BK886:=n5_;have BK906:=n6_;have HB:=n7_;clear n0_ n1_ n2_ n3_ n4_ n5_ n6_ n7_;(try clear hb);(try clear hb2);(try clear hk);(try clear hi)))
      have n0_:=qal.mk (Kd.S_drew HO891.out)
      have n1_:=qal.mk (Kd.R_drew HO896.out)
      have n2_:=qal.mk (Kd.S_drew HO900.out)
      have n3_:=qal.mk (Kd.R_drew HO905.out)
      have n4_:=qal.mk (Kd.S_drew HO910.out)
      have n5_:=qal.mk (qah BK886.out)
      have n6_:=qal.mk (qah BK906.out)
      have n7_:=qal.mk (qaq HB.out)
      clear HO891
      clear HO896
      clear HO900
      clear HO905
      clear HO910
      clear BK886
      clear BK906
      clear HB
      have HO891:=n0_
      have HO896:=n1_
      have HO900:=n2_
      have HO905:=n3_
      have HO910:=n4_
      have BK886:=n5_
      have BK906:=n6_
      have HB:=n7_
      clear n0_ n1_ n2_ n3_ n4_ n5_ n6_ n7_
      refine start_ (n:=5) (S:=fun w'=>w'.cell? ⟨gb906,0,none⟩=some (.int .i64 t901)∧w'.cell? ⟨gb906,1,none⟩=some (.int .i64 t902)∧w'.cell? ⟨gb906,2,none⟩=some (.slice Ao61 t903.length co61)∧w'.cell? ⟨gb886,0,none⟩=some (.int .i64 a1_0)∧w'.cell? ⟨gb886,1,none⟩=some (.int .i64 a1_1)∧w'.cell? ⟨gb886,2,none⟩=some (.slice A1_2 l1_2.length c1_2)) (ds:=[]) #[false,false,false,false,false] (by kernel_rfl) rfl rfl ⟨(qab BK906.out 0).trans rfl,(qab BK906.out 1).trans rfl,(qab BK906.out 2).trans rfl,(qab BK886.out 0).trans rfl,(qab BK886.out 1).trans rfl,(qab BK886.out 2).trans rfl⟩ (fun hHeld=>?_)
      generalize w66.drew=w67 at HO891 HO896 HO900 HO905 HO910 BK886 BK906 HB hHeld ⊢
      refine take_ (i:=0) (N:=some 40) (v:=?_) (a':=?_) #[true,false,false,false,false] rfl rfl (by kernel_rfl) (fun _ _ _ h=>h) (Or.inl ⟨by rfl,?_⟩) hHeld ?_ ?_
      rotate_left
      ·rintro w' ⟨s0,s1,s2,s3,s4,s5⟩
       go_simp
       with_reducible rfl
      rotate_left
      ·simp only[Act.put,List.setIfInBounds_toArray,List.set_cons_zero,List.set_cons_succ,qas,qat]
       rfl
      refine take_ (i:=1) (N:=some 41) (v:=?_) (a':=?_) #[true,true,false,false,false] rfl rfl (by kernel_rfl) (fun _ _ _ h=>h) (Or.inl ⟨by rfl,?_⟩) hHeld ?_ ?_
      rotate_left
      ·rintro w' ⟨s0,s1,s2,s3,s4,s5⟩
       go_simp
       with_reducible rfl
      rotate_left
      ·simp only[Act.put,List.setIfInBounds_toArray,List.set_cons_zero,List.set_cons_succ,qas,qat]
       rfl
      refine one_ (i:=2) (N:=some 42) #[true,true,true,false,false] rfl rfl (by kernel_rfl) (by decide) (fun K hK=>?_)
      refine goes_ Try.func39 (by kernel_rfl) rfl #[.agg #[.int .i64 a1_0,.int .i64 a1_1,.slice A1_2 l1_2.length c1_2]] (by rfl) rfl rfl (by(try simp only[List.map_toArray,List.map_cons,List.map_nil]);first|done|rfl|(simp only[List.length_drop,List.length_take];rfl)) ?_
      with_reducible refine(laws_toRec.calls k a1_0 a1_1 _ _ l1_2 t912 t913 t914 _ ?side1 ?side2 A42.out).mono ?_
      (case side1=>repeat(first|exact(Kd.C_below HR1_2.out HB.out)|(with_reducible refine Kd.C_alloc ?_ _)|(with_reducible refine Kd.C_drewN ?_ _)|(with_reducible refine Kd.C_drew ?_)))
      (case side2=>exact HC1_2.out)
      rintro e w68 ⟨v915,rfl,ho0,hb⟩
      refine⟨_,rfl,?_⟩
      have n0_:=qal.mk (Kd.S_elder' (za10 HO891) (Kd.R_base ho0) hb)
      have n1_:=qal.mk (Kd.R_elder' (za4 HO896) (Kd.R_base ho0) hb)
      have n2_:=qal.mk (Kd.S_elder' (za10 HO900) (Kd.R_base ho0) hb)
      have n3_:=qal.mk (Kd.R_elder' (za4 HO905) (Kd.R_base ho0) hb)
      have n4_:=qal.mk (Kd.S_elder' (za10 HO910) (Kd.R_base ho0) hb)
      have n5_:=qal.mk (Kd.R_lower (Kd.R_new' (Kd.R_new' ho0 (Kd.R_lt (za4 HO896))) (Kd.R_lt (za4 HO905))) (qad (za3 HB GE886 GE906)))
      have n6_:=qal.mk (qac (g:=gb886) (o:=.cells #[.int .i64 a1_0,.int .i64 a1_1,.slice A1_2 l1_2.length c1_2] 57 (0,0)) (za0 BK886) hb)
      have n7_:=qal.mk (qac (g:=gb906) (o:=.cells #[.int .i64 t901,.int .i64 t902,.slice Ao61 t903.length co61] 62 (0,0)) (za0 BK906) hb)
      have n8_:=qal.mk (qae (za3 HB GE886 GE906) hb)
      clear HO891
      clear HO896
      clear HO900
      clear HO905
      clear HO910
      clear BK886
      clear BK906
      clear HB
      have HO891:=n0_
      have HO896:=n1_
      have HO900:=n2_
      have HO905:=n3_
      have HO910:=n4_
      have HO916:=n5_
      have BK886:=n6_
      have BK906:=n7_
      have HB:=n8_
      clear n0_ n1_ n2_ n3_ n4_ n5_ n6_ n7_ n8_
      (try clear hb)
      (try clear hb2)
      (try clear hk)
      (try clear hi)
      (try clear ho0)
      obtain⟨Ao69,co69,eo69⟩:=Kd.R_slice HO916.out
      (first|subst eo69|(injection eo69 with f1_ f2_ f3_;have f4_:=f1_.symm;have f5_:=f3_.symm;clear f1_ f2_ f3_;subst f4_;subst f5_))
      refine hK.out _ _ ⟨(qab BK906.out 0).trans rfl,(qab BK906.out 1).trans rfl,(qab BK906.out 2).trans rfl,(qab BK886.out 0).trans rfl,(qab BK886.out 1).trans rfl,(qab BK886.out 2).trans rfl⟩ (fun hHeld=>?_)
      clear hK K
      refine norm_ (a':=?_) ?_ ?_
      rotate_left
      ·show Act.put _ (some 42) _=_
       simp only[Act.put,List.setIfInBounds_toArray,List.set_cons_zero,List.set_cons_succ,qas,qat]
       rfl
      refine one_ (i:=3) (N:=some 43) #[true,true,true,true,false] rfl rfl (by kernel_rfl) (by decide) (fun K hK=>?_)
      refine goes_ Try.func42 (by kernel_rfl) rfl #[.agg #[.int .i64 t901,.int .i64 t902,.slice Ao61 t903.length co61],.agg #[.int .i64 t912,.int .i64 t913,.slice Ao69 t914.length co69]] (by rfl) rfl rfl (by(try simp only[List.map_toArray,List.map_cons,List.map_nil]);first|done|rfl|(simp only[List.length_drop,List.length_take];rfl)) ?_
      with_reducible refine(laws_eqRec.calls k t901 t902 _ _ t903 t912 t913 _ _ t914 true _ ?side1 ?side2 ?side3 ?side4 A43.out).mono ?_
      (case side1=>repeat(first|exact(Kd.R_reads' HO905.out).2.2|(with_reducible refine Kd.C_alloc ?_ _)|(with_reducible refine Kd.C_drewN ?_ _)|(with_reducible refine Kd.C_drew ?_)))
      (case side2=>exact(Kd.R_reads' HO905.out).2.1)
      (case side3=>repeat(first|exact(Kd.R_reads' HO916.out).2.2|(with_reducible refine Kd.C_alloc ?_ _)|(with_reducible refine Kd.C_drewN ?_ _)|(with_reducible refine Kd.C_drew ?_)))
      (case side4=>exact(Kd.R_reads' HO916.out).2.1)
      rintro e w70 ⟨rfl,hb⟩
      refine⟨_,rfl,?_⟩
      have n0_:=qal.mk (Kd.S_below (za10 HO891) hb)
      have n1_:=qal.mk (Kd.R_below (za4 HO896) hb)
      have n2_:=qal.mk (Kd.S_below (za10 HO900) hb)
      have n3_:=qal.mk (Kd.R_below (za4 HO905) hb)
      have n4_:=qal.mk (Kd.S_below (za10 HO910) hb)
      have n5_:=qal.mk (Kd.R_below (za4 HO916) hb)
      have n6_:=qal.mk (qac (g:=gb886) (o:=.cells #[.int .i64 a1_0,.int .i64 a1_1,.slice A1_2 l1_2.length c1_2] 57 (0,0)) (za0 BK886) hb)
      have n7_:=qal.mk (qac (g:=gb906) (o:=.cells #[.int .i64 t901,.int .i64 t902,.slice Ao61 t903.length co61] 62 (0,0)) (za0 BK906) hb)
      have n8_:=qal.mk (qae (za3 HB GE886 GE906) hb)
      clear HO891
      clear HO896
      clear HO900
      clear HO905
      clear HO910
      clear HO916
      clear BK886
      clear BK906
      clear HB
      have HO891:=n0_
      have HO896:=n1_
      have HO900:=n2_
      have HO905:=n3_
      have HO910:=n4_
      have HO916:=n5_
      have BK886:=n6_
      have BK906:=n7_
      have HB:=n8_
      clear n0_ n1_ n2_ n3_ n4_ n5_ n6_ n7_ n8_
      (try clear hb)
      (try clear hb2)
      (try clear hk)
      (try clear hi)
      refine hK.out _ _ ⟨(qab BK906.out 0).trans rfl,(qab BK906.out 1).trans rfl,(qab BK906.out 2).trans rfl,(qab BK886.out 0).trans rfl,(qab BK886.out 1).trans rfl,(qab BK886.out 2).trans rfl⟩ (fun hHeld=>?_)
      clear hK K
      refine norm_ (a':=?_) ?_ ?_
      rotate_left
      ·show Act.put _ (some 43) _=_
       simp only[Act.put,List.setIfInBounds_toArray,List.set_cons_zero,List.set_cons_succ,qas,qat]
       rfl
      refine qaz (i:=4) (N:=some 44) (v:=?_) (a':=?_) #[true,true,true,true,true] rfl rfl (by kernel_rfl) (fun _ _ _ h=>h) (Or.inl ⟨by rfl,?_⟩) ?_ ?_
      rotate_left
      ·intro w'
       go_simp
       with_reducible rfl
      rotate_left
      ·simp only[Act.put,List.setIfInBounds_toArray,List.set_cons_zero,List.set_cons_succ,qas,qat]
       rfl
      refine done_ (by kernel_rfl) ?_
      try go_wp2
      go_ret
      exact⟨za9,za3 HB GE886 GE906⟩
     ·replace c44:=Bool.eq_false_iff.mpr c44
      subst c44
      have H1:(some false)=some r:=by rw[if_neg (show ¬(false=true) by decide)] at H;exact H
      clear H
      have H:=H1
      clear H1
      obtain rfl:=Option.some.inj H
      go_enter Try.func11,Try.ntmps11
      try go_wp2_with(first|((with_reducible refine qak (N:=3) rfl ?_);refine qaj ?hg (N:=3) ?hd (cs:=#[.int .i64 a1_0,.int .i64 a1_1,.slice A1_2 l1_2.length c1_2]) (t:=57) ?hr ?_;(case hd=>rfl);(case hg=>rfl);(case hr=>first|(go_simp;done)|(go_simp;rfl));intro gb886 hg w71 hbox hb;have n0_:=qal.mk (qae (za2 HB) hb);have n1_:=qal.mk (hbox);have n2_:=qal.mk ((by rw[hg];exact(qad (za2 HB)):w.heap.size≤gb886));have n3_:=qal.mk ((by rw[hg];exact(qad (za2 HB)):w.heap.size≤gb886));clear HB;have HB:=n0_;have BK886:=n1_;have GW886:=n2_;have GE886:=n3_;clear n0_ n1_ n2_ n3_;clear hb hbox hg)|((with_reducible refine qai (f:=48) rfl ?_);refine qau (some 12) rfl rfl Try.func48 (by kernel_rfl) rfl #[.slice A0 l0.length c0,.int .i64 1048576] rfl (by(try simp only[List.map_toArray,List.map_cons,List.map_nil]);first|done|rfl|(simp only[List.length_drop,List.length_take];rfl)) ?_;(with_reducible refine(laws_szTripS.calls k _ _ l0 1048576 t887 _ ?side1 ?side2 A3.out).mono ?_);(case side1=>repeat(first|exact(Kd.C_below HR0.out HB.out)|(with_reducible refine Kd.C_alloc ?_ _)|(with_reducible refine Kd.C_drewN ?_ _)|(with_reducible refine Kd.C_drew ?_)));(case side2=>exact HC0.out);rintro e w72 ⟨rfl,hb⟩;refine⟨_,rfl,?_⟩;have n0_:=qal.mk (qac (g:=gb886) (o:=.cells #[.int .i64 a1_0,.int .i64 a1_1,.slice A1_2 l1_2.length c1_2] 57 (0,0)) (za0 BK886) hb);have n1_:=qal.mk (qae (za1 HB GE886) hb);clear BK886;clear HB;have BK886:=n0_;have HB:=n1_;clear n0_ n1_;(try clear hb);(try clear hb2);(try clear hk);(try clear hi);have hcz73_0:w72.cell? ⟨gb886,0,none⟩=some (.int .i64 a1_0):=(qab BK886.out 0).trans rfl;have hcz73_1:w72.cell? ⟨gb886,1,none⟩=some (.int .i64 a1_1):=(qab BK886.out 1).trans rfl;have hcz73_2:w72.cell? ⟨gb886,2,none⟩=some (.slice A1_2 l1_2.length c1_2):=(qab BK886.out 2).trans rfl;have hfz73_0:=qaa BK886.out 0;have hfz73_1:=qaa BK886.out 1;have hfz73_2:=qaa BK886.out 2)|((with_reducible refine qai (f:=36) rfl ?_);refine qau (some 17) rfl rfl Try.func36 (by kernel_rfl) rfl #[.agg #[.int .i64 a1_0,.int .i64 a1_1,.slice A1_2 l1_2.length c1_2],.int .i64 t887] rfl (by(try simp only[List.map_toArray,List.map_cons,List.map_nil]);first|done|rfl|(simp only[List.length_drop,List.length_take];rfl)) ?_;(with_reducible refine(laws_szRec.calls a1_0 a1_1 _ _ l1_2 t887 t888 _ ?side1 ?side2 A7.out).mono ?_);(case side1=>repeat(first|exact(Kd.C_below HR1_2.out HB.out)|(with_reducible refine Kd.C_alloc ?_ _)|(with_reducible refine Kd.C_drewN ?_ _)|(with_reducible refine Kd.C_drew ?_)));(case side2=>exact HC1_2.out);rintro e w74 ⟨rfl,hb⟩;refine⟨_,rfl,?_⟩;have n0_:=qal.mk (qac (g:=gb886) (o:=.cells #[.int .i64 a1_0,.int .i64 a1_1,.slice A1_2 l1_2.length c1_2] 57 (0,0)) (za0 BK886) hb);have n1_:=qal.mk (qae (za1 HB GE886) hb);clear BK886;clear HB;have BK886:=n0_;have HB:=n1_;clear n0_ n1_;(try clear hb);(try clear hb2);(try clear hk);(try clear hi)))
      have n0_:=qal.mk (qah BK886.out)
      have n1_:=qal.mk (qaq HB.out)
      clear BK886
      clear HB
      have BK886:=n0_
      have HB:=n1_
      clear n0_ n1_
      refine start_ (n:=6) (S:=fun w'=>w'.cell? ⟨gb886,0,none⟩=some (.int .i64 a1_0)∧w'.cell? ⟨gb886,1,none⟩=some (.int .i64 a1_1)∧w'.cell? ⟨gb886,2,none⟩=some (.slice A1_2 l1_2.length c1_2)) (ds:=[]) #[false,false,false,false,false,false] (by kernel_rfl) rfl rfl ⟨(qab BK886.out 0).trans rfl,(qab BK886.out 1).trans rfl,(qab BK886.out 2).trans rfl⟩ (fun hHeld=>?_)
      generalize w74.drew=w75 at BK886 HB hHeld ⊢
      refine qaz (i:=0) (N:=some 20) (v:=?_) (a':=?_) #[true,false,false,false,false,false] rfl rfl (by kernel_rfl) (fun _ _ _ h=>h) (Or.inl ⟨by rfl,?_⟩) ?_ ?_
      rotate_left
      ·intro w'
       go_simp
       with_reducible rfl
      rotate_left
      ·simp only[Act.put,List.setIfInBounds_toArray,List.set_cons_zero,List.set_cons_succ,qas,qat]
       rfl
      refine take_ (i:=2) (N:=some 22) (v:=?_) (a':=?_) #[true,false,true,false,false,false] rfl rfl (by kernel_rfl) (fun _ _ _ h=>h) (Or.inl ⟨by rfl,?_⟩) hHeld ?_ ?_
      rotate_left
      ·rintro w' ⟨s0,s1,s2⟩
       go_simp
       with_reducible rfl
      rotate_left
      ·simp only[Act.put,List.setIfInBounds_toArray,List.set_cons_zero,List.set_cons_succ,qas,qat]
       rfl
      refine one_ (i:=1) (N:=some 21) #[true,true,true,false,false,false] rfl rfl (by kernel_rfl) (by decide) (fun K hK=>?_)
      refine goes_ Try.func50 (by kernel_rfl) rfl #[.slice A0 l0.length c0] (by rfl) rfl rfl (by(try simp only[List.map_toArray,List.map_cons,List.map_nil]);first|done|rfl|(simp only[List.length_drop,List.length_take];rfl)) ?_
      with_reducible refine(laws_toTripS.calls k _ _ l0 t889 _ ?side1 ?side2 A13.out).mono ?_
      (case side1=>repeat(first|exact(Kd.C_below HR0.out HB.out)|(with_reducible refine Kd.C_alloc ?_ _)|(with_reducible refine Kd.C_drewN ?_ _)|(with_reducible refine Kd.C_drew ?_)))
      (case side2=>exact HC0.out)
      rintro e w76 ⟨v890,rfl,ho0,hb⟩
      refine⟨_,rfl,?_⟩
      have n0_:=qal.mk (Kd.S_lower ho0 (qad (za1 HB GE886)))
      have n1_:=qal.mk (qac (g:=gb886) (o:=.cells #[.int .i64 a1_0,.int .i64 a1_1,.slice A1_2 l1_2.length c1_2] 57 (0,0)) (za0 BK886) hb)
      have n2_:=qal.mk (qae (za1 HB GE886) hb)
      clear BK886
      clear HB
      have HO891:=n0_
      have BK886:=n1_
      have HB:=n2_
      clear n0_ n1_ n2_
      (try clear hb)
      (try clear hb2)
      (try clear hk)
      (try clear hi)
      (try clear ho0)
      refine hK.out _ _ ⟨(qab BK886.out 0).trans rfl,(qab BK886.out 1).trans rfl,(qab BK886.out 2).trans rfl⟩ (fun hHeld=>?_)
      clear hK K
      refine norm_ (a':=?_) ?_ ?_
      rotate_left
      ·show Act.put _ (some 21) _=_
       simp only[Act.put,List.setIfInBounds_toArray,List.set_cons_zero,List.set_cons_succ,qas,qat]
       rfl
      refine one_ (i:=3) (N:=some 23) #[true,true,true,true,false,false] rfl rfl (by kernel_rfl) (by decide) (fun K hK=>?_)
      refine goes_ Try.func39 (by kernel_rfl) rfl #[.agg #[.int .i64 a1_0,.int .i64 a1_1,.slice A1_2 l1_2.length c1_2]] (by rfl) rfl rfl (by(try simp only[List.map_toArray,List.map_cons,List.map_nil]);first|done|rfl|(simp only[List.length_drop,List.length_take];rfl)) ?_
      with_reducible refine(laws_toRec.calls k a1_0 a1_1 _ _ l1_2 t892 t893 t894 _ ?side1 ?side2 A14.out).mono ?_
      (case side1=>repeat(first|exact(Kd.C_below HR1_2.out HB.out)|(with_reducible refine Kd.C_alloc ?_ _)|(with_reducible refine Kd.C_drewN ?_ _)|(with_reducible refine Kd.C_drew ?_)))
      (case side2=>exact HC1_2.out)
      rintro e w77 ⟨v895,rfl,ho0,hb⟩
      refine⟨_,rfl,?_⟩
      have n0_:=qal.mk (Kd.S_elder' (za10 HO891) (Kd.R_base ho0) hb)
      have n1_:=qal.mk (Kd.R_lower ho0 (qad (za1 HB GE886)))
      have n2_:=qal.mk (qac (g:=gb886) (o:=.cells #[.int .i64 a1_0,.int .i64 a1_1,.slice A1_2 l1_2.length c1_2] 57 (0,0)) (za0 BK886) hb)
      have n3_:=qal.mk (qae (za1 HB GE886) hb)
      clear HO891
      clear BK886
      clear HB
      have HO891:=n0_
      have HO896:=n1_
      have BK886:=n2_
      have HB:=n3_
      clear n0_ n1_ n2_ n3_
      (try clear hb)
      (try clear hb2)
      (try clear hk)
      (try clear hi)
      (try clear ho0)
      obtain⟨Ao78,co78,eo78⟩:=Kd.S_slice HO891.out
      (first|subst eo78|(injection eo78 with f1_ f2_ f3_;have f4_:=f1_.symm;have f5_:=f3_.symm;clear f1_ f2_ f3_;subst f4_;subst f5_))
      obtain⟨Ao79,co79,eo79⟩:=Kd.R_slice HO896.out
      (first|subst eo79|(injection eo79 with f1_ f2_ f3_;have f4_:=f1_.symm;have f5_:=f3_.symm;clear f1_ f2_ f3_;subst f4_;subst f5_))
      refine hK.out _ _ ⟨(qab BK886.out 0).trans rfl,(qab BK886.out 1).trans rfl,(qab BK886.out 2).trans rfl⟩ (fun hHeld=>?_)
      clear hK K
      refine norm_ (a':=?_) ?_ ?_
      rotate_left
      ·show Act.put _ (some 23) _=_
       simp only[Act.put,List.setIfInBounds_toArray,List.set_cons_zero,List.set_cons_succ,qas,qat]
       rfl
      refine one_ (i:=4) (N:=some 24) #[true,true,true,true,true,false] rfl rfl (by kernel_rfl) (by decide) (fun K hK=>?_)
      refine goes_ Try.func49 (by kernel_rfl) rfl #[.slice Ao78 t889.length co78,.agg #[.int .i64 t892,.int .i64 t893,.slice Ao79 t894.length co79]] (by rfl) rfl rfl (by(try simp only[List.map_toArray,List.map_cons,List.map_nil]);first|done|rfl|(simp only[List.length_drop,List.length_take];rfl)) ?_
      with_reducible refine(spec_TripsMay.calls k _ _ t889 t892 t893 _ _ t894 t897 _ ?side1 ?side2 ?side3 ?side4 A15.out).mono ?_
      (case side1=>repeat(first|exact(Kd.S_reads' HO891.out).2.2|(with_reducible refine Kd.C_alloc ?_ _)|(with_reducible refine Kd.C_drewN ?_ _)|(with_reducible refine Kd.C_drew ?_)))
      (case side2=>exact(Kd.S_reads' HO891.out).2.1)
      (case side3=>repeat(first|exact(Kd.R_reads' HO896.out).2.2|(with_reducible refine Kd.C_alloc ?_ _)|(with_reducible refine Kd.C_drewN ?_ _)|(with_reducible refine Kd.C_drew ?_)))
      (case side4=>exact(Kd.R_reads' HO896.out).2.1)
      rintro e w80 ⟨rfl,hb⟩
      refine⟨_,rfl,?_⟩
      have n0_:=qal.mk (Kd.S_below (za10 HO891) hb)
      have n1_:=qal.mk (Kd.R_below (za4 HO896) hb)
      have n2_:=qal.mk (qac (g:=gb886) (o:=.cells #[.int .i64 a1_0,.int .i64 a1_1,.slice A1_2 l1_2.length c1_2] 57 (0,0)) (za0 BK886) hb)
      have n3_:=qal.mk (qae (za1 HB GE886) hb)
      clear HO891
      clear HO896
      clear BK886
      clear HB
      have HO891:=n0_
      have HO896:=n1_
      have BK886:=n2_
      have HB:=n3_
      clear n0_ n1_ n2_ n3_
      (try clear hb)
      (try clear hb2)
      (try clear hk)
      (try clear hi)
      refine hK.out _ _ ⟨(qab BK886.out 0).trans rfl,(qab BK886.out 1).trans rfl,(qab BK886.out 2).trans rfl⟩ (fun hHeld=>?_)
      clear hK K
      refine norm_ (a':=?_) ?_ ?_
      rotate_left
      ·show Act.put _ (some 24) _=_
       simp only[Act.put,List.setIfInBounds_toArray,List.set_cons_zero,List.set_cons_succ,qas,qat]
       rfl
      refine qaz (i:=5) (N:=some 6) (v:=?_) (a':=?_) #[true,true,true,true,true,true] rfl rfl (by kernel_rfl) (fun _ _ _ h=>h) (Or.inl ⟨by rfl,?_⟩) ?_ ?_
      rotate_left
      ·intro w'
       go_simp
       with_reducible rfl
      rotate_left
      ·simp only[Act.put,List.setIfInBounds_toArray,List.set_cons_zero,List.set_cons_succ,qas,qat]
       rfl
      refine done_ (by kernel_rfl) ?_
      try go_wp2_with(first|((with_reducible refine qai (f:=50) rfl ?_);refine qau (some 26) rfl rfl Try.func50 (by kernel_rfl) rfl #[.slice A0 l0.length c0] rfl (by(try simp only[List.map_toArray,List.map_cons,List.map_nil]);first|done|rfl|(simp only[List.length_drop,List.length_take];rfl)) ?_;(with_reducible refine(laws_toTripS.calls k _ _ l0 t898 _ ?side1 ?side2 A16.out).mono ?_);(case side1=>repeat(first|exact(Kd.C_below HR0.out HB.out)|(with_reducible refine Kd.C_alloc ?_ _)|(with_reducible refine Kd.C_drewN ?_ _)|(with_reducible refine Kd.C_drew ?_)));(case side2=>exact HC0.out);rintro e w81 ⟨v899,rfl,ho0,hb⟩;refine⟨_,rfl,?_⟩;have n0_:=qal.mk (Kd.S_elder' (za10 HO891) (Kd.S_base ho0) hb);have n1_:=qal.mk (Kd.R_below (za4 HO896) hb);have n2_:=qal.mk (Kd.S_lower (Kd.S_new' (Kd.S_new' ho0 (Kd.S_lt (za10 HO891))) (Kd.R_lt (za4 HO896))) (qad (za1 HB GE886)));have n3_:=qal.mk (qac (g:=gb886) (o:=.cells #[.int .i64 a1_0,.int .i64 a1_1,.slice A1_2 l1_2.length c1_2] 57 (0,0)) (za0 BK886) hb);have n4_:=qal.mk (qae (za1 HB GE886) hb);clear HO891;clear HO896;clear BK886;clear HB;have HO891:=n0_;have HO896:=n1_;have HO900:=n2_;have BK886:=n3_;have HB:=n4_;clear n0_ n1_ n2_ n3_ n4_;(try clear hb);(try clear hb2);(try clear hk);(try clear hi);(try clear ho0);have hcz82_0:w81.cell? ⟨gb886,0,none⟩=some (.int .i64 a1_0):=(qab BK886.out 0).trans rfl;have hcz82_1:w81.cell? ⟨gb886,1,none⟩=some (.int .i64 a1_1):=(qab BK886.out 1).trans rfl;have hcz82_2:w81.cell? ⟨gb886,2,none⟩=some (.slice A1_2 l1_2.length c1_2):=(qab BK886.out 2).trans rfl;have hfz82_0:=qaa BK886.out 0;have hfz82_1:=qaa BK886.out 1;have hfz82_2:=qaa BK886.out 2)|((with_reducible refine qai (f:=39) rfl ?_);refine qau (some 28) rfl rfl Try.func39 (by kernel_rfl) rfl #[.agg #[.int .i64 a1_0,.int .i64 a1_1,.slice A1_2 l1_2.length c1_2]] rfl (by(try simp only[List.map_toArray,List.map_cons,List.map_nil]);first|done|rfl|(simp only[List.length_drop,List.length_take];rfl)) ?_;(with_reducible refine(laws_toRec.calls k a1_0 a1_1 _ _ l1_2 t901 t902 t903 _ ?side1 ?side2 A17.out).mono ?_);(case side1=>repeat(first|exact(Kd.C_below HR1_2.out HB.out)|(with_reducible refine Kd.C_alloc ?_ _)|(with_reducible refine Kd.C_drewN ?_ _)|(with_reducible refine Kd.C_drew ?_)));(case side2=>exact HC1_2.out);rintro e w83 ⟨v904,rfl,ho0,hb⟩;refine⟨_,rfl,?_⟩;have n0_:=qal.mk (Kd.S_elder' (za10 HO891) (Kd.R_base ho0) hb);have n1_:=qal.mk (Kd.R_elder' (za4 HO896) (Kd.R_base ho0) hb);have n2_:=qal.mk (Kd.S_elder' (za10 HO900) (Kd.R_base ho0) hb);have n3_:=qal.mk (Kd.R_lower (Kd.R_new' ho0 (Kd.R_lt (za4 HO896))) (qad (za1 HB GE886)));have n4_:=qal.mk (qac (g:=gb886) (o:=.cells #[.int .i64 a1_0,.int .i64 a1_1,.slice A1_2 l1_2.length c1_2] 57 (0,0)) (za0 BK886) hb);have n5_:=qal.mk (qae (za1 HB GE886) hb);clear HO891;clear HO896;clear HO900;clear BK886;clear HB;have HO891:=n0_;have HO896:=n1_;have HO900:=n2_;have HO905:=n3_;have BK886:=n4_;have HB:=n5_;clear n0_ n1_ n2_ n3_ n4_ n5_;(try clear hb);(try clear hb2);(try clear hk);(try clear hi);(try clear ho0))|((with_reducible refine qak (N:=8) rfl ?_);refine qaj ?hg (N:=8) ?hd (cs:=#[.int .i64 0,.int .i64 0,.slice none 0 0]) (t:=62) ?hr ?_;(case hd=>rfl);(case hg=>rfl);(case hr=>first|(go_simp;done)|(go_simp;rfl));intro gb906 hg w84 hbox hb;have n0_:=qal.mk (Kd.S_below (za10 HO891) hb);have n1_:=qal.mk (Kd.R_below (za4 HO896) hb);have n2_:=qal.mk (Kd.S_below (za10 HO900) hb);have n3_:=qal.mk (Kd.R_below (za4 HO905) hb);have n4_:=qal.mk (qac (g:=gb886) (o:=.cells #[.int .i64 a1_0,.int .i64 a1_1,.slice A1_2 l1_2.length c1_2] 57 (0,0)) (za0 BK886) hb);have n5_:=qal.mk (qae (za1 HB GE886) hb);have n6_:=qal.mk (hbox);have n7_:=qal.mk ((by rw[hg];exact(qad (za1 HB GE886)):w.heap.size≤gb906));have n8_:=qal.mk ((by rw[hg];exact(qad (za1 HB GE886)):w.heap.size≤gb906));have n9_:=qal.mk ((by rw[hg];exact Nat.ne_of_lt (qao (g:=gb886) (o:=.cells #[.int .i64 a1_0,.int .i64 a1_1,.slice A1_2 l1_2.length c1_2] 57 (0,0)) (za0 BK886)):gb886≠gb906));have n10_:=qal.mk ((by rw[hg];exact Nat.ne_of_gt (qao (g:=gb886) (o:=.cells #[.int .i64 a1_0,.int .i64 a1_1,.slice A1_2 l1_2.length c1_2] 57 (0,0)) (za0 BK886)):gb906≠gb886));clear HO891;clear HO896;clear HO900;clear HO905;clear BK886;clear HB;have HO891:=n0_;have HO896:=n1_;have HO900:=n2_;have HO905:=n3_;have BK886:=n4_;have HB:=n5_;have BK906:=n6_;have GW906:=n7_;have GE906:=n8_;have NB886_906:=n9_;have NB906_886:=n10_;clear n0_ n1_ n2_ n3_ n4_ n5_ n6_ n7_ n8_ n9_ n10_;clear hb hbox hg;have hnb85:=NB906_886.out;have hnc85:=NB886_906.out;have hcz86_0:w84.cell? ⟨gb906,0,none⟩=some (.int .i64 0):=(qab BK906.out 0).trans rfl;have hcz86_1:w84.cell? ⟨gb906,1,none⟩=some (.int .i64 0):=(qab BK906.out 1).trans rfl;have hcz86_2:w84.cell? ⟨gb906,2,none⟩=some (.slice none 0 0):=(qab BK906.out 2).trans rfl;have hfz86_0:=qaa BK906.out 0;have hfz86_1:=qaa BK906.out 1;have hfz86_2:=qaa BK906.out 2;obtain⟨Ao87,co87,eo87⟩:=Kd.R_slice HO905.out;subst eo87;obtain⟨Ao88,co88,eo88⟩:=Kd.S_slice HO900.out;subst eo88)|((with_reducible refine qai (f:=51) rfl ?_);refine qau (some 31) rfl rfl Try.func51 (by kernel_rfl) rfl #[.slice Ao88 t898.length co88,.agg #[.int .i64 t901,.int .i64 t902,.slice Ao87 t903.length co87]] rfl (by(try simp only[List.map_toArray,List.map_cons,List.map_nil]);first|done|rfl|(simp only[List.length_drop,List.length_take];rfl)) ?_;(with_reducible refine(impl_TripsMay.calls k _ _ t898 t901 t902 _ _ t903 t907 _ ?side1 ?side2 ?side3 ?side4 A18.out).mono ?_);(case side1=>refine(Kd.S_reads' (e:=73) (base:=w.heap.size) (ok:=fun k_=>(((True∧some k_≠(.slice Ao78 t889.length co78:Value).ownBlock)∧some k_≠(.slice Ao79 t894.length co79:Value).ownBlock)∧some k_≠(.slice Ao87 t903.length co87:Value).ownBlock)) (n:=t898.length) (c:=co88) ?_).2.2;exact(by(with_reducible repeat(first|apply Kd.S_alloc|apply Kd.S_drewN|apply Kd.S_drew));exact(Kd.S_mono (Kd.S_far (p:=⟨gb906,2,none⟩) (Kd.S_far (p:=⟨gb906,1,none⟩) (Kd.S_far (p:=⟨gb906,0,none⟩) (Kd.S_types HO900.out BK906.out (by decide)) (fun _ hk=>hk.2) (.int .i64 t901)) (fun _ hk=>hk.2) (.int .i64 t902)) (fun _ hk=>hk.2) (.slice Ao87 t903.length co87)) (fun _ h_=>h_.1))));(case side2=>exact(Kd.S_reads' HO900.out).2.1);(case side3=>refine(Kd.R_reads' (e:=3) (base:=w.heap.size) (ok:=fun k_=>(True∧some k_≠(.slice Ao79 t894.length co79:Value).ownBlock)) (n:=t903.length) (c:=co87) ?_).2.2;exact(by(with_reducible repeat(first|apply Kd.R_alloc|apply Kd.R_drewN|apply Kd.R_drew));exact(Kd.R_mono (Kd.R_far (p:=⟨gb906,2,none⟩) (Kd.R_far (p:=⟨gb906,1,none⟩) (Kd.R_far (p:=⟨gb906,0,none⟩) (Kd.R_types HO905.out BK906.out (by decide)) (fun _ hk=>hk.2) (.int .i64 t901)) (fun _ hk=>hk.2) (.int .i64 t902)) (fun _ hk=>hk.2) (.slice Ao87 t903.length co87)) (fun _ h_=>h_.1))));(case side4=>exact(Kd.R_reads' HO905.out).2.1);rintro e w89 ⟨rfl,hb⟩;refine⟨_,rfl,?_⟩;have n0_:=qal.mk (Kd.S_below (by(with_reducible repeat(first|apply Kd.S_alloc|apply Kd.S_drewN|apply Kd.S_drew));exact(Kd.S_mono (Kd.S_far (p:=⟨gb906,2,none⟩) (Kd.S_far (p:=⟨gb906,1,none⟩) (Kd.S_far (p:=⟨gb906,0,none⟩) (Kd.S_types HO891.out BK906.out (by decide)) (fun _ hk=>hk.2) (.int .i64 t901)) (fun _ hk=>hk.2) (.int .i64 t902)) (fun _ hk=>hk.2) (.slice Ao87 t903.length co87)) (fun _ h_=>h_.1))) hb);have n1_:=qal.mk (Kd.R_below (by(with_reducible repeat(first|apply Kd.R_alloc|apply Kd.R_drewN|apply Kd.R_drew));exact(Kd.R_mono (Kd.R_far (p:=⟨gb906,2,none⟩) (Kd.R_far (p:=⟨gb906,1,none⟩) (Kd.R_far (p:=⟨gb906,0,none⟩) (Kd.R_types HO896.out BK906.out (by decide)) (fun _ hk=>hk.2) (.int .i64 t901)) (fun _ hk=>hk.2) (.int .i64 t902)) (fun _ hk=>hk.2) (.slice Ao87 t903.length co87)) (fun _ h_=>h_.1))) hb);have n2_:=qal.mk (Kd.S_below (by(with_reducible repeat(first|apply Kd.S_alloc|apply Kd.S_drewN|apply Kd.S_drew));exact(Kd.S_mono (Kd.S_far (p:=⟨gb906,2,none⟩) (Kd.S_far (p:=⟨gb906,1,none⟩) (Kd.S_far (p:=⟨gb906,0,none⟩) (Kd.S_types HO900.out BK906.out (by decide)) (fun _ hk=>hk.2) (.int .i64 t901)) (fun _ hk=>hk.2) (.int .i64 t902)) (fun _ hk=>hk.2) (.slice Ao87 t903.length co87)) (fun _ h_=>h_.1))) hb);have n3_:=qal.mk (Kd.R_below (by(with_reducible repeat(first|apply Kd.R_alloc|apply Kd.R_drewN|apply Kd.R_drew));exact(Kd.R_mono (Kd.R_far (p:=⟨gb906,2,none⟩) (Kd.R_far (p:=⟨gb906,1,none⟩) (Kd.R_far (p:=⟨gb906,0,none⟩) (Kd.R_types HO905.out BK906.out (by decide)) (fun _ hk=>hk.2) (.int .i64 t901)) (fun _ hk=>hk.2) (.int .i64 t902)) (fun _ hk=>hk.2) (.slice Ao87 t903.length co87)) (fun _ h_=>h_.1))) hb);have n4_:=qal.mk (qac (g:=gb886) (o:=.cells #[.int .i64 a1_0,.int .i64 a1_1,.slice A1_2 l1_2.length c1_2] 57 (0,0)) (za7 NB886_906 BK886) hb);have n5_:=qal.mk (qac (g:=gb906) (o:=.cells #[.int .i64 t901,.int .i64 t902,.slice Ao87 t903.length co87] 62 (0,0)) (by(with_reducible repeat(first|refine qag ?_ _|refine qah ?_|refine qaf ?_ _));refine qan (cs:=#[.int .i64 t901,.int .i64 t902,.slice none 0 0]) ?_ 2 _ rfl;(with_reducible repeat(first|refine qag ?_ _|refine qah ?_|refine qaf ?_ _));refine qan (cs:=#[.int .i64 t901,.int .i64 0,.slice none 0 0]) ?_ 1 _ rfl;(with_reducible repeat(first|refine qag ?_ _|refine qah ?_|refine qaf ?_ _));refine qan (cs:=#[.int .i64 0,.int .i64 0,.slice none 0 0]) ?_ 0 _ rfl;(with_reducible repeat(first|refine qag ?_ _|refine qah ?_|refine qaf ?_ _));exact BK906.out) hb);have n6_:=qal.mk (qae (za3 HB GE886 GE906) hb);clear HO891;clear HO896;clear HO900;clear HO905;clear BK886;clear BK906;clear HB;have HO891:=n0_;have HO896:=n1_;have HO900:=n2_;have HO905:=n3_;have BK886:=n4_;have BK906:=n5_;have HB:=n6_;clear n0_ n1_ n2_ n3_ n4_ n5_ n6_;(try clear hb);(try clear hb2);(try clear hk);(try clear hi))|((with_reducible refine qai (f:=50) rfl ?_);refine qau (some 37) rfl rfl Try.func50 (by kernel_rfl) rfl #[.slice A0 l0.length c0] rfl (by(try simp only[List.map_toArray,List.map_cons,List.map_nil]);first|done|rfl|(simp only[List.length_drop,List.length_take];rfl)) ?_;(with_reducible refine(laws_toTripS.calls k _ _ l0 t908 _ ?side1 ?side2 A39.out).mono ?_);(case side1=>repeat(first|exact(Kd.C_below HR0.out HB.out)|(with_reducible refine Kd.C_alloc ?_ _)|(with_reducible refine Kd.C_drewN ?_ _)|(with_reducible refine Kd.C_drew ?_)));(case side2=>exact HC0.out);rintro e w90 ⟨v909,rfl,ho0,hb⟩;refine⟨_,rfl,?_⟩;have n0_:=qal.mk (Kd.S_elder' (za10 HO891) (Kd.S_base ho0) hb);have n1_:=qal.mk (Kd.R_below (za4 HO896) hb);have n2_:=qal.mk (Kd.S_elder' (za10 HO900) (Kd.S_base ho0) hb);have n3_:=qal.mk (Kd.R_below (za4 HO905) hb);have n4_:=qal.mk (Kd.S_lower (Kd.S_new' (Kd.S_new' (Kd.S_new' (Kd.S_new' ho0 (Kd.S_lt (za10 HO891))) (Kd.R_lt (za4 HO896))) (Kd.S_lt (za10 HO900))) (Kd.R_lt (za4 HO905))) (qad (za3 HB GE886 GE906)));have n5_:=qal.mk (qac (g:=gb886) (o:=.cells #[.int .i64 a1_0,.int .i64 a1_1,.slice A1_2 l1_2.length c1_2] 57 (0,0)) (za0 BK886) hb);have n6_:=qal.mk (qac (g:=gb906) (o:=.cells #[.int .i64 t901,.int .i64 t902,.slice Ao87 t903.length co87] 62 (0,0)) (za0 BK906) hb);have n7_:=qal.mk (qae (za3 HB GE886 GE906) hb);clear HO891;clear HO896;clear HO900;clear HO905;clear BK886;clear BK906;clear HB;have HO891:=n0_;have HO896:=n1_;have HO900:=n2_;have HO905:=n3_;have HO910:=n4_;have BK886:=n5_;have BK906:=n6_;have HB:=n7_;clear n0_ n1_ n2_ n3_ n4_ n5_ n6_ n7_;(try clear hb);(try clear hb2);(try clear hk);(try clear hi);(try clear ho0);obtain⟨Ao91,co91,eo91⟩:=Kd.S_slice HO910.out;subst eo91)|((with_reducible refine qai (f:=52) rfl ?_);refine qau (some 38) rfl rfl Try.func52 (by kernel_rfl) rfl #[.slice Ao88 t898.length co88,.slice Ao91 t908.length co91] rfl (by(try simp only[List.map_toArray,List.map_cons,List.map_nil]);first|done|rfl|(simp only[List.length_drop,List.length_take];rfl)) ?_;(with_reducible refine(laws_eqTripS.calls k _ _ t898 _ _ t908 true _ ?side1 ?side2 ?side3 ?side4 A40.out).mono ?_);(case side1=>repeat(first|exact(Kd.S_reads' HO900.out).2.2|(with_reducible refine Kd.C_alloc ?_ _)|(with_reducible refine Kd.C_drewN ?_ _)|(with_reducible refine Kd.C_drew ?_)));(case side2=>exact(Kd.S_reads' HO900.out).2.1);(case side3=>repeat(first|exact(Kd.S_reads' HO910.out).2.2|(with_reducible refine Kd.C_alloc ?_ _)|(with_reducible refine Kd.C_drewN ?_ _)|(with_reducible refine Kd.C_drew ?_)));(case side4=>exact(Kd.S_reads' HO910.out).2.1);rintro e w92 ⟨rfl,hb⟩;refine⟨_,rfl,?_⟩;have n0_:=qal.mk (Kd.S_below (za10 HO891) hb);have n1_:=qal.mk (Kd.R_below (za4 HO896) hb);have n2_:=qal.mk (Kd.S_below (za10 HO900) hb);have n3_:=qal.mk (Kd.R_below (za4 HO905) hb);have n4_:=qal.mk (Kd.S_below (za10 HO910) hb);have n5_:=qal.mk (qac (g:=gb886) (o:=.cells #[.int .i64 a1_0,.int .i64 a1_1,.slice A1_2 l1_2.length c1_2] 57 (0,0)) (za0 BK886) hb);have n6_:=qal.mk (qac (g:=gb906) (o:=.cells #[.int .i64 t901,.int .i64 t902,.slice Ao87 t903.length co87] 62 (0,0)) (za0 BK906) hb);have n7_:=qal.mk (qae (za3 HB GE886 GE906) hb);clear HO891;clear HO896;clear HO900;clear HO905;clear HO910;clear BK886;clear BK906;clear HB;have HO891:=n0_;have HO896:=n1_;have HO900:=n2_;have HO905:=n3_;have HO910:=n4_;have BK886:=n5_;have BK906:=n6_;have HB:=n7_;clear n0_ n1_ n2_ n3_ n4_ n5_ n6_ n7_;(try clear hb);(try clear hb2);(try clear hk);(try clear hi)))
      have n0_:=qal.mk (Kd.S_drew HO891.out)
      have n1_:=qal.mk (Kd.R_drew HO896.out)
      have n2_:=qal.mk (Kd.S_drew HO900.out)
      have n3_:=qal.mk (Kd.R_drew HO905.out)
      have n4_:=qal.mk (Kd.S_drew HO910.out)
      have n5_:=qal.mk (qah BK886.out)
      have n6_:=qal.mk (qah BK906.out)
      have n7_:=qal.mk (qaq HB.out)
      clear HO891
      clear HO896
      clear HO900
      clear HO905
      clear HO910
      clear BK886
      clear BK906
      clear HB
      have HO891:=n0_
      have HO896:=n1_
      have HO900:=n2_
      have HO905:=n3_
      have HO910:=n4_
      have BK886:=n5_
      have BK906:=n6_
      have HB:=n7_
      clear n0_ n1_ n2_ n3_ n4_ n5_ n6_ n7_
      refine start_ (n:=5) (S:=fun w'=>w'.cell? ⟨gb906,0,none⟩=some (.int .i64 t901)∧w'.cell? ⟨gb906,1,none⟩=some (.int .i64 t902)∧w'.cell? ⟨gb906,2,none⟩=some (.slice Ao87 t903.length co87)∧w'.cell? ⟨gb886,0,none⟩=some (.int .i64 a1_0)∧w'.cell? ⟨gb886,1,none⟩=some (.int .i64 a1_1)∧w'.cell? ⟨gb886,2,none⟩=some (.slice A1_2 l1_2.length c1_2)) (ds:=[]) #[false,false,false,false,false] (by kernel_rfl) rfl rfl ⟨(qab BK906.out 0).trans rfl,(qab BK906.out 1).trans rfl,(qab BK906.out 2).trans rfl,(qab BK886.out 0).trans rfl,(qab BK886.out 1).trans rfl,(qab BK886.out 2).trans rfl⟩ (fun hHeld=>?_)
      generalize w92.drew=w93 at HO891 HO896 HO900 HO905 HO910 BK886 BK906 HB hHeld ⊢
      refine take_ (i:=0) (N:=some 40) (v:=?_) (a':=?_) #[true,false,false,false,false] rfl rfl (by kernel_rfl) (fun _ _ _ h=>h) (Or.inl ⟨by rfl,?_⟩) hHeld ?_ ?_
      rotate_left
      ·rintro w' ⟨s0,s1,s2,s3,s4,s5⟩
       go_simp
       with_reducible rfl
      rotate_left
      ·simp only[Act.put,List.setIfInBounds_toArray,List.set_cons_zero,List.set_cons_succ,qas,qat]
       rfl
      refine take_ (i:=1) (N:=some 41) (v:=?_) (a':=?_) #[true,true,false,false,false] rfl rfl (by kernel_rfl) (fun _ _ _ h=>h) (Or.inl ⟨by rfl,?_⟩) hHeld ?_ ?_
      rotate_left
      ·rintro w' ⟨s0,s1,s2,s3,s4,s5⟩
       go_simp
       with_reducible rfl
      rotate_left
      ·simp only[Act.put,List.setIfInBounds_toArray,List.set_cons_zero,List.set_cons_succ,qas,qat]
       rfl
      refine one_ (i:=2) (N:=some 42) #[true,true,true,false,false] rfl rfl (by kernel_rfl) (by decide) (fun K hK=>?_)
      refine goes_ Try.func39 (by kernel_rfl) rfl #[.agg #[.int .i64 a1_0,.int .i64 a1_1,.slice A1_2 l1_2.length c1_2]] (by rfl) rfl rfl (by(try simp only[List.map_toArray,List.map_cons,List.map_nil]);first|done|rfl|(simp only[List.length_drop,List.length_take];rfl)) ?_
      with_reducible refine(laws_toRec.calls k a1_0 a1_1 _ _ l1_2 t912 t913 t914 _ ?side1 ?side2 A42.out).mono ?_
      (case side1=>repeat(first|exact(Kd.C_below HR1_2.out HB.out)|(with_reducible refine Kd.C_alloc ?_ _)|(with_reducible refine Kd.C_drewN ?_ _)|(with_reducible refine Kd.C_drew ?_)))
      (case side2=>exact HC1_2.out)
      rintro e w94 ⟨v915,rfl,ho0,hb⟩
      refine⟨_,rfl,?_⟩
      have n0_:=qal.mk (Kd.S_elder' (za10 HO891) (Kd.R_base ho0) hb)
      have n1_:=qal.mk (Kd.R_elder' (za4 HO896) (Kd.R_base ho0) hb)
      have n2_:=qal.mk (Kd.S_elder' (za10 HO900) (Kd.R_base ho0) hb)
      have n3_:=qal.mk (Kd.R_elder' (za4 HO905) (Kd.R_base ho0) hb)
      have n4_:=qal.mk (Kd.S_elder' (za10 HO910) (Kd.R_base ho0) hb)
      have n5_:=qal.mk (Kd.R_lower (Kd.R_new' (Kd.R_new' ho0 (Kd.R_lt (za4 HO896))) (Kd.R_lt (za4 HO905))) (qad (za3 HB GE886 GE906)))
      have n6_:=qal.mk (qac (g:=gb886) (o:=.cells #[.int .i64 a1_0,.int .i64 a1_1,.slice A1_2 l1_2.length c1_2] 57 (0,0)) (za0 BK886) hb)
      have n7_:=qal.mk (qac (g:=gb906) (o:=.cells #[.int .i64 t901,.int .i64 t902,.slice Ao87 t903.length co87] 62 (0,0)) (za0 BK906) hb)
      have n8_:=qal.mk (qae (za3 HB GE886 GE906) hb)
      clear HO891
      clear HO896
      clear HO900
      clear HO905
      clear HO910
      clear BK886
      clear BK906
      clear HB
      have HO891:=n0_
      have HO896:=n1_
      have HO900:=n2_
      have HO905:=n3_
      have HO910:=n4_
      have HO916:=n5_
      have BK886:=n6_
      have BK906:=n7_
      have HB:=n8_
      clear n0_ n1_ n2_ n3_ n4_ n5_ n6_ n7_ n8_
      (try clear hb)
      (try clear hb2)
      (try clear hk)
      (try clear hi)
      (try clear ho0)
      obtain⟨Ao95,co95,eo95⟩:=Kd.R_slice HO916.out
      (first|subst eo95|(injection eo95 with f1_ f2_ f3_;have f4_:=f1_.symm;have f5_:=f3_.symm;clear f1_ f2_ f3_;subst f4_;subst f5_))
      refine hK.out _ _ ⟨(qab BK906.out 0).trans rfl,(qab BK906.out 1).trans rfl,(qab BK906.out 2).trans rfl,(qab BK886.out 0).trans rfl,(qab BK886.out 1).trans rfl,(qab BK886.out 2).trans rfl⟩ (fun hHeld=>?_)
      clear hK K
      refine norm_ (a':=?_) ?_ ?_
      rotate_left
      ·show Act.put _ (some 42) _=_
       simp only[Act.put,List.setIfInBounds_toArray,List.set_cons_zero,List.set_cons_succ,qas,qat]
       rfl
      refine one_ (i:=3) (N:=some 43) #[true,true,true,true,false] rfl rfl (by kernel_rfl) (by decide) (fun K hK=>?_)
      refine goes_ Try.func42 (by kernel_rfl) rfl #[.agg #[.int .i64 t901,.int .i64 t902,.slice Ao87 t903.length co87],.agg #[.int .i64 t912,.int .i64 t913,.slice Ao95 t914.length co95]] (by rfl) rfl rfl (by(try simp only[List.map_toArray,List.map_cons,List.map_nil]);first|done|rfl|(simp only[List.length_drop,List.length_take];rfl)) ?_
      with_reducible refine(laws_eqRec.calls k t901 t902 _ _ t903 t912 t913 _ _ t914 false _ ?side1 ?side2 ?side3 ?side4 A43.out).mono ?_
      (case side1=>repeat(first|exact(Kd.R_reads' HO905.out).2.2|(with_reducible refine Kd.C_alloc ?_ _)|(with_reducible refine Kd.C_drewN ?_ _)|(with_reducible refine Kd.C_drew ?_)))
      (case side2=>exact(Kd.R_reads' HO905.out).2.1)
      (case side3=>repeat(first|exact(Kd.R_reads' HO916.out).2.2|(with_reducible refine Kd.C_alloc ?_ _)|(with_reducible refine Kd.C_drewN ?_ _)|(with_reducible refine Kd.C_drew ?_)))
      (case side4=>exact(Kd.R_reads' HO916.out).2.1)
      rintro e w96 ⟨rfl,hb⟩
      refine⟨_,rfl,?_⟩
      have n0_:=qal.mk (Kd.S_below (za10 HO891) hb)
      have n1_:=qal.mk (Kd.R_below (za4 HO896) hb)
      have n2_:=qal.mk (Kd.S_below (za10 HO900) hb)
      have n3_:=qal.mk (Kd.R_below (za4 HO905) hb)
      have n4_:=qal.mk (Kd.S_below (za10 HO910) hb)
      have n5_:=qal.mk (Kd.R_below (za4 HO916) hb)
      have n6_:=qal.mk (qac (g:=gb886) (o:=.cells #[.int .i64 a1_0,.int .i64 a1_1,.slice A1_2 l1_2.length c1_2] 57 (0,0)) (za0 BK886) hb)
      have n7_:=qal.mk (qac (g:=gb906) (o:=.cells #[.int .i64 t901,.int .i64 t902,.slice Ao87 t903.length co87] 62 (0,0)) (za0 BK906) hb)
      have n8_:=qal.mk (qae (za3 HB GE886 GE906) hb)
      clear HO891
      clear HO896
      clear HO900
      clear HO905
      clear HO910
      clear HO916
      clear BK886
      clear BK906
      clear HB
      have HO891:=n0_
      have HO896:=n1_
      have HO900:=n2_
      have HO905:=n3_
      have HO910:=n4_
      have HO916:=n5_
      have BK886:=n6_
      have BK906:=n7_
      have HB:=n8_
      clear n0_ n1_ n2_ n3_ n4_ n5_ n6_ n7_ n8_
      (try clear hb)
      (try clear hb2)
      (try clear hk)
      (try clear hi)
      refine hK.out _ _ ⟨(qab BK906.out 0).trans rfl,(qab BK906.out 1).trans rfl,(qab BK906.out 2).trans rfl,(qab BK886.out 0).trans rfl,(qab BK886.out 1).trans rfl,(qab BK886.out 2).trans rfl⟩ (fun hHeld=>?_)
      clear hK K
      refine norm_ (a':=?_) ?_ ?_
      rotate_left
      ·show Act.put _ (some 43) _=_
       simp only[Act.put,List.setIfInBounds_toArray,List.set_cons_zero,List.set_cons_succ,qas,qat]
       rfl
      refine qaz (i:=4) (N:=some 44) (v:=?_) (a':=?_) #[true,true,true,true,true] rfl rfl (by kernel_rfl) (fun _ _ _ h=>h) (Or.inl ⟨by rfl,?_⟩) ?_ ?_
      rotate_left
      ·intro w'
       go_simp
       with_reducible rfl
      rotate_left
      ·simp only[Act.put,List.setIfInBounds_toArray,List.set_cons_zero,List.set_cons_succ,qas,qat]
       rfl
      refine done_ (by kernel_rfl) ?_
      try go_wp2
      go_ret
      exact⟨za9,za3 HB GE886 GE906⟩
    ·replace c41:=Bool.eq_false_iff.mpr c41
     subst c41
     have H1:(some false)=some r:=by rw[if_neg (show ¬(false=true) by decide)] at H;exact H
     clear H
     have H:=H1
     clear H1
     obtain rfl:=Option.some.inj H
     go_enter Try.func11,Try.ntmps11
     try go_wp2_with(first|((with_reducible refine qak (N:=3) rfl ?_);refine qaj ?hg (N:=3) ?hd (cs:=#[.int .i64 a1_0,.int .i64 a1_1,.slice A1_2 l1_2.length c1_2]) (t:=57) ?hr ?_;(case hd=>rfl);(case hg=>rfl);(case hr=>first|(go_simp;done)|(go_simp;rfl));intro gb886 hg w97 hbox hb;have n0_:=qal.mk (qae (za2 HB) hb);have n1_:=qal.mk (hbox);have n2_:=qal.mk ((by rw[hg];exact(qad (za2 HB)):w.heap.size≤gb886));have n3_:=qal.mk ((by rw[hg];exact(qad (za2 HB)):w.heap.size≤gb886));clear HB;have HB:=n0_;have BK886:=n1_;have GW886:=n2_;have GE886:=n3_;clear n0_ n1_ n2_ n3_;clear hb hbox hg)|((with_reducible refine qai (f:=48) rfl ?_);refine qau (some 12) rfl rfl Try.func48 (by kernel_rfl) rfl #[.slice A0 l0.length c0,.int .i64 1048576] rfl (by(try simp only[List.map_toArray,List.map_cons,List.map_nil]);first|done|rfl|(simp only[List.length_drop,List.length_take];rfl)) ?_;(with_reducible refine(laws_szTripS.calls k _ _ l0 1048576 t887 _ ?side1 ?side2 A3.out).mono ?_);(case side1=>repeat(first|exact(Kd.C_below HR0.out HB.out)|(with_reducible refine Kd.C_alloc ?_ _)|(with_reducible refine Kd.C_drewN ?_ _)|(with_reducible refine Kd.C_drew ?_)));(case side2=>exact HC0.out);rintro e w98 ⟨rfl,hb⟩;refine⟨_,rfl,?_⟩;have n0_:=qal.mk (qac (g:=gb886) (o:=.cells #[.int .i64 a1_0,.int .i64 a1_1,.slice A1_2 l1_2.length c1_2] 57 (0,0)) (za0 BK886) hb);have n1_:=qal.mk (qae (za1 HB GE886) hb);clear BK886;clear HB;have BK886:=n0_;have HB:=n1_;clear n0_ n1_;(try clear hb);(try clear hb2);(try clear hk);(try clear hi);have hcz99_0:w98.cell? ⟨gb886,0,none⟩=some (.int .i64 a1_0):=(qab BK886.out 0).trans rfl;have hcz99_1:w98.cell? ⟨gb886,1,none⟩=some (.int .i64 a1_1):=(qab BK886.out 1).trans rfl;have hcz99_2:w98.cell? ⟨gb886,2,none⟩=some (.slice A1_2 l1_2.length c1_2):=(qab BK886.out 2).trans rfl;have hfz99_0:=qaa BK886.out 0;have hfz99_1:=qaa BK886.out 1;have hfz99_2:=qaa BK886.out 2)|((with_reducible refine qai (f:=36) rfl ?_);refine qau (some 17) rfl rfl Try.func36 (by kernel_rfl) rfl #[.agg #[.int .i64 a1_0,.int .i64 a1_1,.slice A1_2 l1_2.length c1_2],.int .i64 t887] rfl (by(try simp only[List.map_toArray,List.map_cons,List.map_nil]);first|done|rfl|(simp only[List.length_drop,List.length_take];rfl)) ?_;(with_reducible refine(laws_szRec.calls a1_0 a1_1 _ _ l1_2 t887 t888 _ ?side1 ?side2 A7.out).mono ?_);(case side1=>repeat(first|exact(Kd.C_below HR1_2.out HB.out)|(with_reducible refine Kd.C_alloc ?_ _)|(with_reducible refine Kd.C_drewN ?_ _)|(with_reducible refine Kd.C_drew ?_)));(case side2=>exact HC1_2.out);rintro e w100 ⟨rfl,hb⟩;refine⟨_,rfl,?_⟩;have n0_:=qal.mk (qac (g:=gb886) (o:=.cells #[.int .i64 a1_0,.int .i64 a1_1,.slice A1_2 l1_2.length c1_2] 57 (0,0)) (za0 BK886) hb);have n1_:=qal.mk (qae (za1 HB GE886) hb);clear BK886;clear HB;have BK886:=n0_;have HB:=n1_;clear n0_ n1_;(try clear hb);(try clear hb2);(try clear hk);(try clear hi)))
     have n0_:=qal.mk (qah BK886.out)
     have n1_:=qal.mk (qaq HB.out)
     clear BK886
     clear HB
     have BK886:=n0_
     have HB:=n1_
     clear n0_ n1_
     refine start_ (n:=6) (S:=fun w'=>w'.cell? ⟨gb886,0,none⟩=some (.int .i64 a1_0)∧w'.cell? ⟨gb886,1,none⟩=some (.int .i64 a1_1)∧w'.cell? ⟨gb886,2,none⟩=some (.slice A1_2 l1_2.length c1_2)) (ds:=[]) #[false,false,false,false,false,false] (by kernel_rfl) rfl rfl ⟨(qab BK886.out 0).trans rfl,(qab BK886.out 1).trans rfl,(qab BK886.out 2).trans rfl⟩ (fun hHeld=>?_)
     generalize w100.drew=w101 at BK886 HB hHeld ⊢
     refine qaz (i:=0) (N:=some 20) (v:=?_) (a':=?_) #[true,false,false,false,false,false] rfl rfl (by kernel_rfl) (fun _ _ _ h=>h) (Or.inl ⟨by rfl,?_⟩) ?_ ?_
     rotate_left
     ·intro w'
      go_simp
      with_reducible rfl
     rotate_left
     ·simp only[Act.put,List.setIfInBounds_toArray,List.set_cons_zero,List.set_cons_succ,qas,qat]
      rfl
     refine take_ (i:=2) (N:=some 22) (v:=?_) (a':=?_) #[true,false,true,false,false,false] rfl rfl (by kernel_rfl) (fun _ _ _ h=>h) (Or.inl ⟨by rfl,?_⟩) hHeld ?_ ?_
     rotate_left
     ·rintro w' ⟨s0,s1,s2⟩
      go_simp
      with_reducible rfl
     rotate_left
     ·simp only[Act.put,List.setIfInBounds_toArray,List.set_cons_zero,List.set_cons_succ,qas,qat]
      rfl
     refine one_ (i:=1) (N:=some 21) #[true,true,true,false,false,false] rfl rfl (by kernel_rfl) (by decide) (fun K hK=>?_)
     refine goes_ Try.func50 (by kernel_rfl) rfl #[.slice A0 l0.length c0] (by rfl) rfl rfl (by(try simp only[List.map_toArray,List.map_cons,List.map_nil]);first|done|rfl|(simp only[List.length_drop,List.length_take];rfl)) ?_
     with_reducible refine(laws_toTripS.calls k _ _ l0 t889 _ ?side1 ?side2 A13.out).mono ?_
     (case side1=>repeat(first|exact(Kd.C_below HR0.out HB.out)|(with_reducible refine Kd.C_alloc ?_ _)|(with_reducible refine Kd.C_drewN ?_ _)|(with_reducible refine Kd.C_drew ?_)))
     (case side2=>exact HC0.out)
     rintro e w102 ⟨v890,rfl,ho0,hb⟩
     refine⟨_,rfl,?_⟩
     have n0_:=qal.mk (Kd.S_lower ho0 (qad (za1 HB GE886)))
     have n1_:=qal.mk (qac (g:=gb886) (o:=.cells #[.int .i64 a1_0,.int .i64 a1_1,.slice A1_2 l1_2.length c1_2] 57 (0,0)) (za0 BK886) hb)
     have n2_:=qal.mk (qae (za1 HB GE886) hb)
     clear BK886
     clear HB
     have HO891:=n0_
     have BK886:=n1_
     have HB:=n2_
     clear n0_ n1_ n2_
     (try clear hb)
     (try clear hb2)
     (try clear hk)
     (try clear hi)
     (try clear ho0)
     refine hK.out _ _ ⟨(qab BK886.out 0).trans rfl,(qab BK886.out 1).trans rfl,(qab BK886.out 2).trans rfl⟩ (fun hHeld=>?_)
     clear hK K
     refine norm_ (a':=?_) ?_ ?_
     rotate_left
     ·show Act.put _ (some 21) _=_
      simp only[Act.put,List.setIfInBounds_toArray,List.set_cons_zero,List.set_cons_succ,qas,qat]
      rfl
     refine one_ (i:=3) (N:=some 23) #[true,true,true,true,false,false] rfl rfl (by kernel_rfl) (by decide) (fun K hK=>?_)
     refine goes_ Try.func39 (by kernel_rfl) rfl #[.agg #[.int .i64 a1_0,.int .i64 a1_1,.slice A1_2 l1_2.length c1_2]] (by rfl) rfl rfl (by(try simp only[List.map_toArray,List.map_cons,List.map_nil]);first|done|rfl|(simp only[List.length_drop,List.length_take];rfl)) ?_
     with_reducible refine(laws_toRec.calls k a1_0 a1_1 _ _ l1_2 t892 t893 t894 _ ?side1 ?side2 A14.out).mono ?_
     (case side1=>repeat(first|exact(Kd.C_below HR1_2.out HB.out)|(with_reducible refine Kd.C_alloc ?_ _)|(with_reducible refine Kd.C_drewN ?_ _)|(with_reducible refine Kd.C_drew ?_)))
     (case side2=>exact HC1_2.out)
     rintro e w103 ⟨v895,rfl,ho0,hb⟩
     refine⟨_,rfl,?_⟩
     have n0_:=qal.mk (Kd.S_elder' (za10 HO891) (Kd.R_base ho0) hb)
     have n1_:=qal.mk (Kd.R_lower ho0 (qad (za1 HB GE886)))
     have n2_:=qal.mk (qac (g:=gb886) (o:=.cells #[.int .i64 a1_0,.int .i64 a1_1,.slice A1_2 l1_2.length c1_2] 57 (0,0)) (za0 BK886) hb)
     have n3_:=qal.mk (qae (za1 HB GE886) hb)
     clear HO891
     clear BK886
     clear HB
     have HO891:=n0_
     have HO896:=n1_
     have BK886:=n2_
     have HB:=n3_
     clear n0_ n1_ n2_ n3_
     (try clear hb)
     (try clear hb2)
     (try clear hk)
     (try clear hi)
     (try clear ho0)
     obtain⟨Ao104,co104,eo104⟩:=Kd.S_slice HO891.out
     (first|subst eo104|(injection eo104 with f1_ f2_ f3_;have f4_:=f1_.symm;have f5_:=f3_.symm;clear f1_ f2_ f3_;subst f4_;subst f5_))
     obtain⟨Ao105,co105,eo105⟩:=Kd.R_slice HO896.out
     (first|subst eo105|(injection eo105 with f1_ f2_ f3_;have f4_:=f1_.symm;have f5_:=f3_.symm;clear f1_ f2_ f3_;subst f4_;subst f5_))
     refine hK.out _ _ ⟨(qab BK886.out 0).trans rfl,(qab BK886.out 1).trans rfl,(qab BK886.out 2).trans rfl⟩ (fun hHeld=>?_)
     clear hK K
     refine norm_ (a':=?_) ?_ ?_
     rotate_left
     ·show Act.put _ (some 23) _=_
      simp only[Act.put,List.setIfInBounds_toArray,List.set_cons_zero,List.set_cons_succ,qas,qat]
      rfl
     refine one_ (i:=4) (N:=some 24) #[true,true,true,true,true,false] rfl rfl (by kernel_rfl) (by decide) (fun K hK=>?_)
     refine goes_ Try.func49 (by kernel_rfl) rfl #[.slice Ao104 t889.length co104,.agg #[.int .i64 t892,.int .i64 t893,.slice Ao105 t894.length co105]] (by rfl) rfl rfl (by(try simp only[List.map_toArray,List.map_cons,List.map_nil]);first|done|rfl|(simp only[List.length_drop,List.length_take];rfl)) ?_
     with_reducible refine(spec_TripsMay.calls k _ _ t889 t892 t893 _ _ t894 t897 _ ?side1 ?side2 ?side3 ?side4 A15.out).mono ?_
     (case side1=>repeat(first|exact(Kd.S_reads' HO891.out).2.2|(with_reducible refine Kd.C_alloc ?_ _)|(with_reducible refine Kd.C_drewN ?_ _)|(with_reducible refine Kd.C_drew ?_)))
     (case side2=>exact(Kd.S_reads' HO891.out).2.1)
     (case side3=>repeat(first|exact(Kd.R_reads' HO896.out).2.2|(with_reducible refine Kd.C_alloc ?_ _)|(with_reducible refine Kd.C_drewN ?_ _)|(with_reducible refine Kd.C_drew ?_)))
     (case side4=>exact(Kd.R_reads' HO896.out).2.1)
     rintro e w106 ⟨rfl,hb⟩
     refine⟨_,rfl,?_⟩
     have n0_:=qal.mk (Kd.S_below (za10 HO891) hb)
     have n1_:=qal.mk (Kd.R_below (za4 HO896) hb)
     have n2_:=qal.mk (qac (g:=gb886) (o:=.cells #[.int .i64 a1_0,.int .i64 a1_1,.slice A1_2 l1_2.length c1_2] 57 (0,0)) (za0 BK886) hb)
     have n3_:=qal.mk (qae (za1 HB GE886) hb)
     clear HO891
     clear HO896
     clear BK886
     clear HB
     have HO891:=n0_
     have HO896:=n1_
     have BK886:=n2_
     have HB:=n3_
     clear n0_ n1_ n2_ n3_
     (try clear hb)
     (try clear hb2)
     (try clear hk)
     (try clear hi)
     refine hK.out _ _ ⟨(qab BK886.out 0).trans rfl,(qab BK886.out 1).trans rfl,(qab BK886.out 2).trans rfl⟩ (fun hHeld=>?_)
     clear hK K
     refine norm_ (a':=?_) ?_ ?_
     rotate_left
     ·show Act.put _ (some 24) _=_
      simp only[Act.put,List.setIfInBounds_toArray,List.set_cons_zero,List.set_cons_succ,qas,qat]
      rfl
     refine qaz (i:=5) (N:=some 6) (v:=?_) (a':=?_) #[true,true,true,true,true,true] rfl rfl (by kernel_rfl) (fun _ _ _ h=>h) (Or.inl ⟨by rfl,?_⟩) ?_ ?_
     rotate_left
     ·intro w'
      go_simp
      with_reducible rfl
     rotate_left
     ·simp only[Act.put,List.setIfInBounds_toArray,List.set_cons_zero,List.set_cons_succ,qas,qat]
      rfl
     refine done_ (by kernel_rfl) ?_
     try go_wp2_with(first|((with_reducible refine qai (f:=50) rfl ?_);refine qau (some 26) rfl rfl Try.func50 (by kernel_rfl) rfl #[.slice A0 l0.length c0] rfl (by(try simp only[List.map_toArray,List.map_cons,List.map_nil]);first|done|rfl|(simp only[List.length_drop,List.length_take];rfl)) ?_;(with_reducible refine(laws_toTripS.calls k _ _ l0 t898 _ ?side1 ?side2 A16.out).mono ?_);(case side1=>repeat(first|exact(Kd.C_below HR0.out HB.out)|(with_reducible refine Kd.C_alloc ?_ _)|(with_reducible refine Kd.C_drewN ?_ _)|(with_reducible refine Kd.C_drew ?_)));(case side2=>exact HC0.out);rintro e w107 ⟨v899,rfl,ho0,hb⟩;refine⟨_,rfl,?_⟩;have n0_:=qal.mk (Kd.S_elder' (za10 HO891) (Kd.S_base ho0) hb);have n1_:=qal.mk (Kd.R_below (za4 HO896) hb);have n2_:=qal.mk (Kd.S_lower (Kd.S_new' (Kd.S_new' ho0 (Kd.S_lt (za10 HO891))) (Kd.R_lt (za4 HO896))) (qad (za1 HB GE886)));have n3_:=qal.mk (qac (g:=gb886) (o:=.cells #[.int .i64 a1_0,.int .i64 a1_1,.slice A1_2 l1_2.length c1_2] 57 (0,0)) (za0 BK886) hb);have n4_:=qal.mk (qae (za1 HB GE886) hb);clear HO891;clear HO896;clear BK886;clear HB;have HO891:=n0_;have HO896:=n1_;have HO900:=n2_;have BK886:=n3_;have HB:=n4_;clear n0_ n1_ n2_ n3_ n4_;(try clear hb);(try clear hb2);(try clear hk);(try clear hi);(try clear ho0);have hcz108_0:w107.cell? ⟨gb886,0,none⟩=some (.int .i64 a1_0):=(qab BK886.out 0).trans rfl;have hcz108_1:w107.cell? ⟨gb886,1,none⟩=some (.int .i64 a1_1):=(qab BK886.out 1).trans rfl;have hcz108_2:w107.cell? ⟨gb886,2,none⟩=some (.slice A1_2 l1_2.length c1_2):=(qab BK886.out 2).trans rfl;have hfz108_0:=qaa BK886.out 0;have hfz108_1:=qaa BK886.out 1;have hfz108_2:=qaa BK886.out 2)|((with_reducible refine qai (f:=39) rfl ?_);refine qau (some 28) rfl rfl Try.func39 (by kernel_rfl) rfl #[.agg #[.int .i64 a1_0,.int .i64 a1_1,.slice A1_2 l1_2.length c1_2]] rfl (by(try simp only[List.map_toArray,List.map_cons,List.map_nil]);first|done|rfl|(simp only[List.length_drop,List.length_take];rfl)) ?_;(with_reducible refine(laws_toRec.calls k a1_0 a1_1 _ _ l1_2 t901 t902 t903 _ ?side1 ?side2 A17.out).mono ?_);(case side1=>repeat(first|exact(Kd.C_below HR1_2.out HB.out)|(with_reducible refine Kd.C_alloc ?_ _)|(with_reducible refine Kd.C_drewN ?_ _)|(with_reducible refine Kd.C_drew ?_)));(case side2=>exact HC1_2.out);rintro e w109 ⟨v904,rfl,ho0,hb⟩;refine⟨_,rfl,?_⟩;have n0_:=qal.mk (Kd.S_elder' (za10 HO891) (Kd.R_base ho0) hb);have n1_:=qal.mk (Kd.R_elder' (za4 HO896) (Kd.R_base ho0) hb);have n2_:=qal.mk (Kd.S_elder' (za10 HO900) (Kd.R_base ho0) hb);have n3_:=qal.mk (Kd.R_lower (Kd.R_new' ho0 (Kd.R_lt (za4 HO896))) (qad (za1 HB GE886)));have n4_:=qal.mk (qac (g:=gb886) (o:=.cells #[.int .i64 a1_0,.int .i64 a1_1,.slice A1_2 l1_2.length c1_2] 57 (0,0)) (za0 BK886) hb);have n5_:=qal.mk (qae (za1 HB GE886) hb);clear HO891;clear HO896;clear HO900;clear BK886;clear HB;have HO891:=n0_;have HO896:=n1_;have HO900:=n2_;have HO905:=n3_;have BK886:=n4_;have HB:=n5_;clear n0_ n1_ n2_ n3_ n4_ n5_;(try clear hb);(try clear hb2);(try clear hk);(try clear hi);(try clear ho0))|((with_reducible refine qak (N:=8) rfl ?_);refine qaj ?hg (N:=8) ?hd (cs:=#[.int .i64 0,.int .i64 0,.slice none 0 0]) (t:=62) ?hr ?_;(case hd=>rfl);(case hg=>rfl);(case hr=>first|(go_simp;done)|(go_simp;rfl));intro gb906 hg w110 hbox hb;have n0_:=qal.mk (Kd.S_below (za10 HO891) hb);have n1_:=qal.mk (Kd.R_below (za4 HO896) hb);have n2_:=qal.mk (Kd.S_below (za10 HO900) hb);have n3_:=qal.mk (Kd.R_below (za4 HO905) hb);have n4_:=qal.mk (qac (g:=gb886) (o:=.cells #[.int .i64 a1_0,.int .i64 a1_1,.slice A1_2 l1_2.length c1_2] 57 (0,0)) (za0 BK886) hb);have n5_:=qal.mk (qae (za1 HB GE886) hb);have n6_:=qal.mk (hbox);have n7_:=qal.mk ((by rw[hg];exact(qad (za1 HB GE886)):w.heap.size≤gb906));have n8_:=qal.mk ((by rw[hg];exact(qad (za1 HB GE886)):w.heap.size≤gb906));have n9_:=qal.mk ((by rw[hg];exact Nat.ne_of_lt (qao (g:=gb886) (o:=.cells #[.int .i64 a1_0,.int .i64 a1_1,.slice A1_2 l1_2.length c1_2] 57 (0,0)) (za0 BK886)):gb886≠gb906));have n10_:=qal.mk ((by rw[hg];exact Nat.ne_of_gt (qao (g:=gb886) (o:=.cells #[.int .i64 a1_0,.int .i64 a1_1,.slice A1_2 l1_2.length c1_2] 57 (0,0)) (za0 BK886)):gb906≠gb886));clear HO891;clear HO896;clear HO900;clear HO905;clear BK886;clear HB;have HO891:=n0_;have HO896:=n1_;have HO900:=n2_;have HO905:=n3_;have BK886:=n4_;have HB:=n5_;have BK906:=n6_;have GW906:=n7_;have GE906:=n8_;have NB886_906:=n9_;have NB906_886:=n10_;clear n0_ n1_ n2_ n3_ n4_ n5_ n6_ n7_ n8_ n9_ n10_;clear hb hbox hg;have hnb111:=NB906_886.out;have hnc111:=NB886_906.out;have hcz112_0:w110.cell? ⟨gb906,0,none⟩=some (.int .i64 0):=(qab BK906.out 0).trans rfl;have hcz112_1:w110.cell? ⟨gb906,1,none⟩=some (.int .i64 0):=(qab BK906.out 1).trans rfl;have hcz112_2:w110.cell? ⟨gb906,2,none⟩=some (.slice none 0 0):=(qab BK906.out 2).trans rfl;have hfz112_0:=qaa BK906.out 0;have hfz112_1:=qaa BK906.out 1;have hfz112_2:=qaa BK906.out 2;obtain⟨Ao113,co113,eo113⟩:=Kd.R_slice HO905.out;subst eo113;obtain⟨Ao114,co114,eo114⟩:=Kd.S_slice HO900.out;subst eo114)|((with_reducible refine qai (f:=51) rfl ?_);refine qau (some 31) rfl rfl Try.func51 (by kernel_rfl) rfl #[.slice Ao114 t898.length co114,.agg #[.int .i64 t901,.int .i64 t902,.slice Ao113 t903.length co113]] rfl (by(try simp only[List.map_toArray,List.map_cons,List.map_nil]);first|done|rfl|(simp only[List.length_drop,List.length_take];rfl)) ?_;(with_reducible refine(impl_TripsMay.calls k _ _ t898 t901 t902 _ _ t903 t907 _ ?side1 ?side2 ?side3 ?side4 A18.out).mono ?_);(case side1=>refine(Kd.S_reads' (e:=73) (base:=w.heap.size) (ok:=fun k_=>(((True∧some k_≠(.slice Ao104 t889.length co104:Value).ownBlock)∧some k_≠(.slice Ao105 t894.length co105:Value).ownBlock)∧some k_≠(.slice Ao113 t903.length co113:Value).ownBlock)) (n:=t898.length) (c:=co114) ?_).2.2;exact(by(with_reducible repeat(first|apply Kd.S_alloc|apply Kd.S_drewN|apply Kd.S_drew));exact(Kd.S_mono (Kd.S_far (p:=⟨gb906,2,none⟩) (Kd.S_far (p:=⟨gb906,1,none⟩) (Kd.S_far (p:=⟨gb906,0,none⟩) (Kd.S_types HO900.out BK906.out (by decide)) (fun _ hk=>hk.2) (.int .i64 t901)) (fun _ hk=>hk.2) (.int .i64 t902)) (fun _ hk=>hk.2) (.slice Ao113 t903.length co113)) (fun _ h_=>h_.1))));(case side2=>exact(Kd.S_reads' HO900.out).2.1);(case side3=>refine(Kd.R_reads' (e:=3) (base:=w.heap.size) (ok:=fun k_=>(True∧some k_≠(.slice Ao105 t894.length co105:Value).ownBlock)) (n:=t903.length) (c:=co113) ?_).2.2;exact(by(with_reducible repeat(first|apply Kd.R_alloc|apply Kd.R_drewN|apply Kd.R_drew));exact(Kd.R_mono (Kd.R_far (p:=⟨gb906,2,none⟩) (Kd.R_far (p:=⟨gb906,1,none⟩) (Kd.R_far (p:=⟨gb906,0,none⟩) (Kd.R_types HO905.out BK906.out (by decide)) (fun _ hk=>hk.2) (.int .i64 t901)) (fun _ hk=>hk.2) (.int .i64 t902)) (fun _ hk=>hk.2) (.slice Ao113 t903.length co113)) (fun _ h_=>h_.1))));(case side4=>exact(Kd.R_reads' HO905.out).2.1);rintro e w115 ⟨rfl,hb⟩;refine⟨_,rfl,?_⟩;have n0_:=qal.mk (Kd.S_below (by(with_reducible repeat(first|apply Kd.S_alloc|apply Kd.S_drewN|apply Kd.S_drew));exact(Kd.S_mono (Kd.S_far (p:=⟨gb906,2,none⟩) (Kd.S_far (p:=⟨gb906,1,none⟩) (Kd.S_far (p:=⟨gb906,0,none⟩) (Kd.S_types HO891.out BK906.out (by decide)) (fun _ hk=>hk.2) (.int .i64 t901)) (fun _ hk=>hk.2) (.int .i64 t902)) (fun _ hk=>hk.2) (.slice Ao113 t903.length co113)) (fun _ h_=>h_.1))) hb);have n1_:=qal.mk (Kd.R_below (by(with_reducible repeat(first|apply Kd.R_alloc|apply Kd.R_drewN|apply Kd.R_drew));exact(Kd.R_mono (Kd.R_far (p:=⟨gb906,2,none⟩) (Kd.R_far (p:=⟨gb906,1,none⟩) (Kd.R_far (p:=⟨gb906,0,none⟩) (Kd.R_types HO896.out BK906.out (by decide)) (fun _ hk=>hk.2) (.int .i64 t901)) (fun _ hk=>hk.2) (.int .i64 t902)) (fun _ hk=>hk.2) (.slice Ao113 t903.length co113)) (fun _ h_=>h_.1))) hb);have n2_:=qal.mk (Kd.S_below (by(with_reducible repeat(first|apply Kd.S_alloc|apply Kd.S_drewN|apply Kd.S_drew));exact(Kd.S_mono (Kd.S_far (p:=⟨gb906,2,none⟩) (Kd.S_far (p:=⟨gb906,1,none⟩) (Kd.S_far (p:=⟨gb906,0,none⟩) (Kd.S_types HO900.out BK906.out (by decide)) (fun _ hk=>hk.2) (.int .i64 t901)) (fun _ hk=>hk.2) (.int .i64 t902)) (fun _ hk=>hk.2) (.slice Ao113 t903.length co113)) (fun _ h_=>h_.1))) hb);have n3_:=qal.mk (Kd.R_below (by(with_reducible repeat(first|apply Kd.R_alloc|apply Kd.R_drewN|apply Kd.R_drew));exact(Kd.R_mono (Kd.R_far (p:=⟨gb906,2,none⟩) (Kd.R_far (p:=⟨gb906,1,none⟩) (Kd.R_far (p:=⟨gb906,0,none⟩) (Kd.R_types HO905.out BK906.out (by decide)) (fun _ hk=>hk.2) (.int .i64 t901)) (fun _ hk=>hk.2) (.int .i64 t902)) (fun _ hk=>hk.2) (.slice Ao113 t903.length co113)) (fun _ h_=>h_.1))) hb);have n4_:=qal.mk (qac (g:=gb886) (o:=.cells #[.int .i64 a1_0,.int .i64 a1_1,.slice A1_2 l1_2.length c1_2] 57 (0,0)) (za7 NB886_906 BK886) hb);have n5_:=qal.mk (qac (g:=gb906) (o:=.cells #[.int .i64 t901,.int .i64 t902,.slice Ao113 t903.length co113] 62 (0,0)) (by(with_reducible repeat(first|refine qag ?_ _|refine qah ?_|refine qaf ?_ _));refine qan (cs:=#[.int .i64 t901,.int .i64 t902,.slice none 0 0]) ?_ 2 _ rfl;(with_reducible repeat(first|refine qag ?_ _|refine qah ?_|refine qaf ?_ _));refine qan (cs:=#[.int .i64 t901,.int .i64 0,.slice none 0 0]) ?_ 1 _ rfl;(with_reducible repeat(first|refine qag ?_ _|refine qah ?_|refine qaf ?_ _));refine qan (cs:=#[.int .i64 0,.int .i64 0,.slice none 0 0]) ?_ 0 _ rfl;(with_reducible repeat(first|refine qag ?_ _|refine qah ?_|refine qaf ?_ _));exact BK906.out) hb);have n6_:=qal.mk (qae (za3 HB GE886 GE906) hb);clear HO891;clear HO896;clear HO900;clear HO905;clear BK886;clear BK906;clear HB;have HO891:=n0_;have HO896:=n1_;have HO900:=n2_;have HO905:=n3_;have BK886:=n4_;have BK906:=n5_;have HB:=n6_;clear n0_ n1_ n2_ n3_ n4_ n5_ n6_;(try clear hb);(try clear hb2);(try clear hk);(try clear hi))|((with_reducible refine qai (f:=50) rfl ?_);refine qau (some 37) rfl rfl Try.func50 (by kernel_rfl) rfl #[.slice A0 l0.length c0] rfl (by(try simp only[List.map_toArray,List.map_cons,List.map_nil]);first|done|rfl|(simp only[List.length_drop,List.length_take];rfl)) ?_;(with_reducible refine(laws_toTripS.calls k _ _ l0 t908 _ ?side1 ?side2 A39.out).mono ?_);(case side1=>repeat(first|exact(Kd.C_below HR0.out HB.out)|(with_reducible refine Kd.C_alloc ?_ _)|(with_reducible refine Kd.C_drewN ?_ _)|(with_reducible refine Kd.C_drew ?_)));(case side2=>exact HC0.out);rintro e w116 ⟨v909,rfl,ho0,hb⟩;refine⟨_,rfl,?_⟩;have n0_:=qal.mk (Kd.S_elder' (za10 HO891) (Kd.S_base ho0) hb);have n1_:=qal.mk (Kd.R_below (za4 HO896) hb);have n2_:=qal.mk (Kd.S_elder' (za10 HO900) (Kd.S_base ho0) hb);have n3_:=qal.mk (Kd.R_below (za4 HO905) hb);have n4_:=qal.mk (Kd.S_lower (Kd.S_new' (Kd.S_new' (Kd.S_new' (Kd.S_new' ho0 (Kd.S_lt (za10 HO891))) (Kd.R_lt (za4 HO896))) (Kd.S_lt (za10 HO900))) (Kd.R_lt (za4 HO905))) (qad (za3 HB GE886 GE906)));have n5_:=qal.mk (qac (g:=gb886) (o:=.cells #[.int .i64 a1_0,.int .i64 a1_1,.slice A1_2 l1_2.length c1_2] 57 (0,0)) (za0 BK886) hb);have n6_:=qal.mk (qac (g:=gb906) (o:=.cells #[.int .i64 t901,.int .i64 t902,.slice Ao113 t903.length co113] 62 (0,0)) (za0 BK906) hb);have n7_:=qal.mk (qae (za3 HB GE886 GE906) hb);clear HO891;clear HO896;clear HO900;clear HO905;clear BK886;clear BK906;clear HB;have HO891:=n0_;have HO896:=n1_;have HO900:=n2_;have HO905:=n3_;have HO910:=n4_;have BK886:=n5_;have BK906:=n6_;have HB:=n7_;clear n0_ n1_ n2_ n3_ n4_ n5_ n6_ n7_;(try clear hb);(try clear hb2);(try clear hk);(try clear hi);(try clear ho0);obtain⟨Ao117,co117,eo117⟩:=Kd.S_slice HO910.out;subst eo117)|((with_reducible refine qai (f:=52) rfl ?_);refine qau (some 38) rfl rfl Try.func52 (by kernel_rfl) rfl #[.slice Ao114 t898.length co114,.slice Ao117 t908.length co117] rfl (by(try simp only[List.map_toArray,List.map_cons,List.map_nil]);first|done|rfl|(simp only[List.length_drop,List.length_take];rfl)) ?_;(with_reducible refine(laws_eqTripS.calls k _ _ t898 _ _ t908 false _ ?side1 ?side2 ?side3 ?side4 A40.out).mono ?_);(case side1=>repeat(first|exact(Kd.S_reads' HO900.out).2.2|(with_reducible refine Kd.C_alloc ?_ _)|(with_reducible refine Kd.C_drewN ?_ _)|(with_reducible refine Kd.C_drew ?_)));(case side2=>exact(Kd.S_reads' HO900.out).2.1);(case side3=>repeat(first|exact(Kd.S_reads' HO910.out).2.2|(with_reducible refine Kd.C_alloc ?_ _)|(with_reducible refine Kd.C_drewN ?_ _)|(with_reducible refine Kd.C_drew ?_)));(case side4=>exact(Kd.S_reads' HO910.out).2.1);rintro e w118 ⟨rfl,hb⟩;refine⟨_,rfl,?_⟩;have n0_:=qal.mk (Kd.S_below (za10 HO891) hb);have n1_:=qal.mk (Kd.R_below (za4 HO896) hb);have n2_:=qal.mk (Kd.S_below (za10 HO900) hb);have n3_:=qal.mk (Kd.R_below (za4 HO905) hb);have n4_:=qal.mk (Kd.S_below (za10 HO910) hb);have n5_:=qal.mk (qac (g:=gb886) (o:=.cells #[.int .i64 a1_0,.int .i64 a1_1,.slice A1_2 l1_2.length c1_2] 57 (0,0)) (za0 BK886) hb);have n6_:=qal.mk (qac (g:=gb906) (o:=.cells #[.int .i64 t901,.int .i64 t902,.slice Ao113 t903.length co113] 62 (0,0)) (za0 BK906) hb);have n7_:=qal.mk (qae (za3 HB GE886 GE906) hb);clear HO891;clear HO896;clear HO900;clear HO905;clear HO910;clear BK886;clear BK906;clear HB;have HO891:=n0_;have HO896:=n1_;have HO900:=n2_;have HO905:=n3_;have HO910:=n4_;have BK886:=n5_;have BK906:=n6_;have HB:=n7_;clear n0_ n1_ n2_ n3_ n4_ n5_ n6_ n7_;(try clear hb);(try clear hb2);(try clear hk);(try clear hi)))
     go_ret
     exact⟨za9,za3 HB GE886 GE906⟩
end Go.Proofs.Ytjccnaklodbbfaa.Print
