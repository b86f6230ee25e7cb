-- Written by squeeze.py, a program of this session, out of what print.sh and myprint.py had printed: cut to what is used, narrowed. Not trusted, Lean checks it.
import Derived.Test.YtkbjgmfghhgodaaZK
import Derived.Test.YtkbjgmfghhgodaaZb0
import Derived.Test.YtkbjgmfghhgodaaZc0
import Derived.Test.YtkbjgmfghhgodaaZd0
namespace Go.Proofs.Ytkbjgmfghhgodaa.Print
open Go.RowKit Go.Proofs.YtkbjgmfghhgodaaW.PrintWords Go.Proofs.YtkbjgmfghhgodaaW.PrintLast Go.Proofs.YtkbjgmfghhgodaaW.PrintMore
attribute [local go_sem] max2_int min2_int max_two min_two max_three min_three max_four min_four
set_option linter.unusedVariables false
set_option linter.unusedSimpArgs false
def impl_WordOk.f (a0_0:Int) (a0_1:Int) (a0_2:Int) (a0_3:Int):Option (Bool):=if a0_0=1 then((impl_in.f a0_3 1 3).bind fun t112=>((impl_in.f a0_0 1 7).bind fun t113=>(if t113=true then((impl_isHouse.f a0_1).bind fun t114=>(if t114=true then((impl_isTrip.f a0_2).bind fun t115=>(if t115=true then(some t112) else(some false))) else(some false))) else(some false)))) else((impl_in.f a0_0 1 7).bind fun t116=>(if t116=true then((impl_isHouse.f a0_1).bind fun t117=>(if t117=true then((impl_isTrip.f a0_2).bind fun t118=>(if t118=true then(some (a0_3 == 0)) else(some false))) else(some false))) else(some false)))
set_option maxHeartbeats 8000000 in
set_option maxRecDepth 100000 in
theorem impl_WordOk.calls (a0_0:Int) (a0_1:Int) (a0_2:Int) (a0_3:Int) (r:Bool) (w:World) (h:impl_WordOk.f a0_0 a0_1 a0_2 a0_3=some r) :
  Calls Try.prog 17 #[.agg #[.int .i64 a0_0,.int .i64 a0_1,.int .i64 a0_2,.int .i64 a0_3]] w fun e w'=>e=.returned (.bool r)∧Below w.heap.size w w':=by
 have hu26:=Try.underlying26
 have HB:=qbb.mk (Below.refl w.heap.size w)
 have H:(if a0_0=1 then((impl_in.f a0_3 1 3).bind fun t112=>((impl_in.f a0_0 1 7).bind fun t113=>(if t113=true then((impl_isHouse.f a0_1).bind fun t114=>(if t114=true then((impl_isTrip.f a0_2).bind fun t115=>(if t115=true then(some t112) else(some false))) else(some false))) else(some false)))) else((impl_in.f a0_0 1 7).bind fun t116=>(if t116=true then((impl_isHouse.f a0_1).bind fun t117=>(if t117=true then((impl_isTrip.f a0_2).bind fun t118=>(if t118=true then(some (a0_3 == 0)) else(some false))) else(some false))) else(some false))))=some r:=h
 clear h
 by_cases c2:a0_0=1
 ·rw[if_pos c2] at H
  have c2b0:(a0_0 == 1)=true:=beq_iff_eq.mpr c2
  have c2b1:(a0_0 != 1)=false:=bne_eq_false_iff_eq.mpr c2
  clear c2
  replace H:=Option.bind_eq_some_iff.mp H
  obtain⟨t112,A30,H⟩:=H
  replace H:((impl_in.f a0_0 1 7).bind fun t113=>(if t113=true then((impl_isHouse.f a0_1).bind fun t114=>(if t114=true then((impl_isTrip.f a0_2).bind fun t115=>(if t115=true then(some t112) else(some false))) else(some false))) else(some false)))=some r:=H
  have A3:=qbb.mk A30
  clear A30
  replace H:=Option.bind_eq_some_iff.mp H
  obtain⟨t113,A40,H⟩:=H
  replace H:(if t113=true then((impl_isHouse.f a0_1).bind fun t114=>(if t114=true then((impl_isTrip.f a0_2).bind fun t115=>(if t115=true then(some t112) else(some false))) else(some false))) else(some false))=some r:=H
  have A4:=qbb.mk A40
  clear A40
  by_cases c5:t113=true
  ·subst c5
   have H1:((impl_isHouse.f a0_1).bind fun t114=>(if t114=true then((impl_isTrip.f a0_2).bind fun t115=>(if t115=true then(some t112) else(some false))) else(some false)))=some r:=by rw[if_pos rfl] at H;exact H
   clear H
   have H:=H1
   clear H1
   replace H:=Option.bind_eq_some_iff.mp H
   obtain⟨t114,A60,H⟩:=H
   replace H:(if t114=true then((impl_isTrip.f a0_2).bind fun t115=>(if t115=true then(some t112) else(some false))) else(some false))=some r:=H
   have A6:=qbb.mk A60
   clear A60
   by_cases c7:t114=true
   ·subst c7
    have H1:((impl_isTrip.f a0_2).bind fun t115=>(if t115=true then(some t112) else(some false)))=some r:=by rw[if_pos rfl] at H;exact H
    clear H
    have H:=H1
    clear H1
    replace H:=Option.bind_eq_some_iff.mp H
    obtain⟨t115,A80,H⟩:=H
    replace H:(if t115=true then(some t112) else(some false))=some r:=H
    have A8:=qbb.mk A80
    clear A80
    by_cases c9:t115=true
    ·subst c9
     have H1:(some t112)=some r:=by rw[if_pos rfl] at H;exact H
     clear H
     have H:=H1
     clear H1
     obtain rfl:=Option.some.inj H
     go_enter Try.func17,Try.ntmps17
     go_wp2_with(first|((with_reducible refine qav (N:=1) rfl ?_);refine qat ?hg (N:=1) ?hd (cs:=#[.int .i64 a0_0,.int .i64 a0_1,.int .i64 a0_2,.int .i64 a0_3]) (t:=26) ?hr ?_;(case hd=>rfl);(case hg=>rfl);(case hr=>first|(go_simp;done)|(go_simp;rfl));intro gb111 hg w10 hbox hb;have n0_:=qbb.mk (qak (by repeat(first|(with_reducible first|exact HB.out|apply qac|apply qaa|apply qab)|exact HB.out)) hb);have n1_:=qbb.mk (hbox);have n2_:=qbb.mk ((by rw[hg];exact(qaj (by repeat(first|(with_reducible first|exact HB.out|apply qac|apply qaa|apply qab)|exact HB.out))):w.heap.size≤gb111));have n3_:=qbb.mk ((by rw[hg];exact(qaj (by repeat(first|(with_reducible first|exact HB.out|apply qac|apply qaa|apply qab)|exact HB.out))):w.heap.size≤gb111));clear HB;have HB:=n0_;have BK111:=n1_;have GW111:=n2_;have GE111:=n3_;clear n0_ n1_ n2_ n3_;clear hb hbox hg;have hcz11_0:w10.cell? ⟨gb111,0,none⟩=some (.int .i64 a0_0):=(qai BK111.out 0).trans rfl;have hcz11_1:w10.cell? ⟨gb111,1,none⟩=some (.int .i64 a0_1):=(qai BK111.out 1).trans rfl;have hcz11_2:w10.cell? ⟨gb111,2,none⟩=some (.int .i64 a0_2):=(qai BK111.out 2).trans rfl;have hcz11_3:w10.cell? ⟨gb111,3,none⟩=some (.int .i64 a0_3):=(qai BK111.out 3).trans rfl;have hfz11_0:=qah BK111.out 0;have hfz11_1:=qah BK111.out 1;have hfz11_2:=qah BK111.out 2;have hfz11_3:=qah BK111.out 3)|((with_reducible refine qao (f:=48) rfl ?_);refine qax (some 12) rfl rfl Try.func48 (by kernel_rfl) rfl #[.int .i64 a0_3,.int .i64 1,.int .i64 3] rfl (by(try simp only[List.map_toArray,List.map_cons,List.map_nil]);first|done|rfl|(simp only[List.length_drop,List.length_take];rfl)) ?_;(with_reducible refine(impl_in.calls a0_3 1 3 t112 _ A3.out).mono ?_);rintro e w' ⟨rfl,⟨nd,rfl⟩⟩;refine⟨_,rfl,?_⟩)|((with_reducible refine qao (f:=48) rfl ?_);refine qax (some 15) rfl rfl Try.func48 (by kernel_rfl) rfl #[.int .i64 a0_0,.int .i64 1,.int .i64 7] rfl (by(try simp only[List.map_toArray,List.map_cons,List.map_nil]);first|done|rfl|(simp only[List.length_drop,List.length_take];rfl)) ?_;(with_reducible refine(impl_in.calls a0_0 1 7 true _ A4.out).mono ?_);rintro e w' ⟨rfl,⟨nd,rfl⟩⟩;refine⟨_,rfl,?_⟩)|(go_at_call 49;(with_reducible refine(impl_isHouse.calls a0_1 true _ A6.out).mono ?_);rintro e w' ⟨rfl,⟨nd,rfl⟩⟩)|(go_at_call 50;(with_reducible refine(impl_isTrip.calls a0_2 true _ A8.out).mono ?_);rintro e w' ⟨rfl,⟨nd,rfl⟩⟩))
     go_ret
     exact⟨by first|rfl|(simp[qan,qam]<;>rfl)|(simp[*,qan,qam]<;>rfl),by repeat(first|(with_reducible first|exact HB.out|apply qac|apply qaa|apply qab|refine qag ?_ GE111.out)|exact HB.out)⟩
    ·replace c9:=Bool.eq_false_iff.mpr c9
     subst c9
     have H1:(some false)=some r:=by rw[if_neg (show ¬(false=true) by decide)] at H;exact H
     clear H
     have H:=H1
     clear H1
     obtain rfl:=Option.some.inj H
     go_enter Try.func17,Try.ntmps17
     go_wp2_with(first|((with_reducible refine qav (N:=1) rfl ?_);refine qat ?hg (N:=1) ?hd (cs:=#[.int .i64 a0_0,.int .i64 a0_1,.int .i64 a0_2,.int .i64 a0_3]) (t:=26) ?hr ?_;(case hd=>rfl);(case hg=>rfl);(case hr=>first|(go_simp;done)|(go_simp;rfl));intro gb111 hg w12 hbox hb;have n0_:=qbb.mk (qak (by repeat(first|(with_reducible first|exact HB.out|apply qac|apply qaa|apply qab)|exact HB.out)) hb);have n1_:=qbb.mk (hbox);have n2_:=qbb.mk ((by rw[hg];exact(qaj (by repeat(first|(with_reducible first|exact HB.out|apply qac|apply qaa|apply qab)|exact HB.out))):w.heap.size≤gb111));have n3_:=qbb.mk ((by rw[hg];exact(qaj (by repeat(first|(with_reducible first|exact HB.out|apply qac|apply qaa|apply qab)|exact HB.out))):w.heap.size≤gb111));clear HB;have HB:=n0_;have BK111:=n1_;have GW111:=n2_;have GE111:=n3_;clear n0_ n1_ n2_ n3_;clear hb hbox hg;have hcz13_0:w12.cell? ⟨gb111,0,none⟩=some (.int .i64 a0_0):=(qai BK111.out 0).trans rfl;have hcz13_1:w12.cell? ⟨gb111,1,none⟩=some (.int .i64 a0_1):=(qai BK111.out 1).trans rfl;have hcz13_2:w12.cell? ⟨gb111,2,none⟩=some (.int .i64 a0_2):=(qai BK111.out 2).trans rfl;have hcz13_3:w12.cell? ⟨gb111,3,none⟩=some (.int .i64 a0_3):=(qai BK111.out 3).trans rfl;have hfz13_0:=qah BK111.out 0;have hfz13_1:=qah BK111.out 1;have hfz13_2:=qah BK111.out 2;have hfz13_3:=qah BK111.out 3)|((with_reducible refine qao (f:=48) rfl ?_);refine qax (some 12) rfl rfl Try.func48 (by kernel_rfl) rfl #[.int .i64 a0_3,.int .i64 1,.int .i64 3] rfl (by(try simp only[List.map_toArray,List.map_cons,List.map_nil]);first|done|rfl|(simp only[List.length_drop,List.length_take];rfl)) ?_;(with_reducible refine(impl_in.calls a0_3 1 3 t112 _ A3.out).mono ?_);rintro e w' ⟨rfl,⟨nd,rfl⟩⟩;refine⟨_,rfl,?_⟩)|((with_reducible refine qao (f:=48) rfl ?_);refine qax (some 15) rfl rfl Try.func48 (by kernel_rfl) rfl #[.int .i64 a0_0,.int .i64 1,.int .i64 7] rfl (by(try simp only[List.map_toArray,List.map_cons,List.map_nil]);first|done|rfl|(simp only[List.length_drop,List.length_take];rfl)) ?_;(with_reducible refine(impl_in.calls a0_0 1 7 true _ A4.out).mono ?_);rintro e w' ⟨rfl,⟨nd,rfl⟩⟩;refine⟨_,rfl,?_⟩)|(go_at_call 49;(with_reducible refine(impl_isHouse.calls a0_1 true _ A6.out).mono ?_);rintro e w' ⟨rfl,⟨nd,rfl⟩⟩)|(go_at_call 50;(with_reducible refine(impl_isTrip.calls a0_2 false _ A8.out).mono ?_);rintro e w' ⟨rfl,⟨nd,rfl⟩⟩))
     go_ret
     exact⟨by first|rfl|(simp[qan,qam]<;>rfl)|(simp[*,qan,qam]<;>rfl),by repeat(first|(with_reducible first|exact HB.out|apply qac|apply qaa|apply qab|refine qag ?_ GE111.out)|exact HB.out)⟩
   ·replace c7:=Bool.eq_false_iff.mpr c7
    subst c7
    have H1:(some false)=some r:=by rw[if_neg (show ¬(false=true) by decide)] at H;exact H
    clear H
    have H:=H1
    clear H1
    obtain rfl:=Option.some.inj H
    go_enter Try.func17,Try.ntmps17
    go_wp2_with(first|((with_reducible refine qav (N:=1) rfl ?_);refine qat ?hg (N:=1) ?hd (cs:=#[.int .i64 a0_0,.int .i64 a0_1,.int .i64 a0_2,.int .i64 a0_3]) (t:=26) ?hr ?_;(case hd=>rfl);(case hg=>rfl);(case hr=>first|(go_simp;done)|(go_simp;rfl));intro gb111 hg w14 hbox hb;have n0_:=qbb.mk (qak (by repeat(first|(with_reducible first|exact HB.out|apply qac|apply qaa|apply qab)|exact HB.out)) hb);have n1_:=qbb.mk (hbox);have n2_:=qbb.mk ((by rw[hg];exact(qaj (by repeat(first|(with_reducible first|exact HB.out|apply qac|apply qaa|apply qab)|exact HB.out))):w.heap.size≤gb111));have n3_:=qbb.mk ((by rw[hg];exact(qaj (by repeat(first|(with_reducible first|exact HB.out|apply qac|apply qaa|apply qab)|exact HB.out))):w.heap.size≤gb111));clear HB;have HB:=n0_;have BK111:=n1_;have GW111:=n2_;have GE111:=n3_;clear n0_ n1_ n2_ n3_;clear hb hbox hg;have hcz15_0:w14.cell? ⟨gb111,0,none⟩=some (.int .i64 a0_0):=(qai BK111.out 0).trans rfl;have hcz15_1:w14.cell? ⟨gb111,1,none⟩=some (.int .i64 a0_1):=(qai BK111.out 1).trans rfl;have hcz15_2:w14.cell? ⟨gb111,2,none⟩=some (.int .i64 a0_2):=(qai BK111.out 2).trans rfl;have hcz15_3:w14.cell? ⟨gb111,3,none⟩=some (.int .i64 a0_3):=(qai BK111.out 3).trans rfl;have hfz15_0:=qah BK111.out 0;have hfz15_1:=qah BK111.out 1;have hfz15_2:=qah BK111.out 2;have hfz15_3:=qah BK111.out 3)|((with_reducible refine qao (f:=48) rfl ?_);refine qax (some 12) rfl rfl Try.func48 (by kernel_rfl) rfl #[.int .i64 a0_3,.int .i64 1,.int .i64 3] rfl (by(try simp only[List.map_toArray,List.map_cons,List.map_nil]);first|done|rfl|(simp only[List.length_drop,List.length_take];rfl)) ?_;(with_reducible refine(impl_in.calls a0_3 1 3 t112 _ A3.out).mono ?_);rintro e w' ⟨rfl,⟨nd,rfl⟩⟩;refine⟨_,rfl,?_⟩)|((with_reducible refine qao (f:=48) rfl ?_);refine qax (some 15) rfl rfl Try.func48 (by kernel_rfl) rfl #[.int .i64 a0_0,.int .i64 1,.int .i64 7] rfl (by(try simp only[List.map_toArray,List.map_cons,List.map_nil]);first|done|rfl|(simp only[List.length_drop,List.length_take];rfl)) ?_;(with_reducible refine(impl_in.calls a0_0 1 7 true _ A4.out).mono ?_);rintro e w' ⟨rfl,⟨nd,rfl⟩⟩;refine⟨_,rfl,?_⟩)|(go_at_call 49;(with_reducible refine(impl_isHouse.calls a0_1 false _ A6.out).mono ?_);rintro e w' ⟨rfl,⟨nd,rfl⟩⟩))
    go_ret
    exact⟨by first|rfl|(simp[qan,qam]<;>rfl)|(simp[*,qan,qam]<;>rfl),by repeat(first|(with_reducible first|exact HB.out|apply qac|apply qaa|apply qab|refine qag ?_ GE111.out)|exact HB.out)⟩
  ·replace c5:=Bool.eq_false_iff.mpr c5
   subst c5
   have H1:(some false)=some r:=by rw[if_neg (show ¬(false=true) by decide)] at H;exact H
   clear H
   have H:=H1
   clear H1
   obtain rfl:=Option.some.inj H
   go_enter Try.func17,Try.ntmps17
   go_wp2_with(first|((with_reducible refine qav (N:=1) rfl ?_);refine qat ?hg (N:=1) ?hd (cs:=#[.int .i64 a0_0,.int .i64 a0_1,.int .i64 a0_2,.int .i64 a0_3]) (t:=26) ?hr ?_;(case hd=>rfl);(case hg=>rfl);(case hr=>first|(go_simp;done)|(go_simp;rfl));intro gb111 hg w16 hbox hb;have n0_:=qbb.mk (qak (by repeat(first|(with_reducible first|exact HB.out|apply qac|apply qaa|apply qab)|exact HB.out)) hb);have n1_:=qbb.mk (hbox);have n2_:=qbb.mk ((by rw[hg];exact(qaj (by repeat(first|(with_reducible first|exact HB.out|apply qac|apply qaa|apply qab)|exact HB.out))):w.heap.size≤gb111));have n3_:=qbb.mk ((by rw[hg];exact(qaj (by repeat(first|(with_reducible first|exact HB.out|apply qac|apply qaa|apply qab)|exact HB.out))):w.heap.size≤gb111));clear HB;have HB:=n0_;have BK111:=n1_;have GW111:=n2_;have GE111:=n3_;clear n0_ n1_ n2_ n3_;clear hb hbox hg;have hcz17_0:w16.cell? ⟨gb111,0,none⟩=some (.int .i64 a0_0):=(qai BK111.out 0).trans rfl;have hcz17_1:w16.cell? ⟨gb111,1,none⟩=some (.int .i64 a0_1):=(qai BK111.out 1).trans rfl;have hcz17_2:w16.cell? ⟨gb111,2,none⟩=some (.int .i64 a0_2):=(qai BK111.out 2).trans rfl;have hcz17_3:w16.cell? ⟨gb111,3,none⟩=some (.int .i64 a0_3):=(qai BK111.out 3).trans rfl;have hfz17_0:=qah BK111.out 0;have hfz17_1:=qah BK111.out 1;have hfz17_2:=qah BK111.out 2;have hfz17_3:=qah BK111.out 3)|((with_reducible refine qao (f:=48) rfl ?_);refine qax (some 12) rfl rfl Try.func48 (by kernel_rfl) rfl #[.int .i64 a0_3,.int .i64 1,.int .i64 3] rfl (by(try simp only[List.map_toArray,List.map_cons,List.map_nil]);first|done|rfl|(simp only[List.length_drop,List.length_take];rfl)) ?_;(with_reducible refine(impl_in.calls a0_3 1 3 t112 _ A3.out).mono ?_);rintro e w' ⟨rfl,⟨nd,rfl⟩⟩;refine⟨_,rfl,?_⟩)|((with_reducible refine qao (f:=48) rfl ?_);refine qax (some 15) rfl rfl Try.func48 (by kernel_rfl) rfl #[.int .i64 a0_0,.int .i64 1,.int .i64 7] rfl (by(try simp only[List.map_toArray,List.map_cons,List.map_nil]);first|done|rfl|(simp only[List.length_drop,List.length_take];rfl)) ?_;(with_reducible refine(impl_in.calls a0_0 1 7 false _ A4.out).mono ?_);rintro e w' ⟨rfl,⟨nd,rfl⟩⟩;refine⟨_,rfl,?_⟩))
   go_ret
   exact⟨by first|rfl|(simp[qan,qam]<;>rfl)|(simp[*,qan,qam]<;>rfl),by repeat(first|(with_reducible first|exact HB.out|apply qac|apply qaa|apply qab|refine qag ?_ GE111.out)|exact HB.out)⟩
 ·rw[if_neg c2] at H
  have c2b0:(a0_0 == 1)=false:=beq_eq_false_iff_ne.mpr c2
  have c2b1:(a0_0 != 1)=true:=bne_iff_ne.mpr c2
  replace H:=Option.bind_eq_some_iff.mp H
  obtain⟨t116,A180,H⟩:=H
  replace H:(if t116=true then((impl_isHouse.f a0_1).bind fun t117=>(if t117=true then((impl_isTrip.f a0_2).bind fun t118=>(if t118=true then(some (a0_3 == 0)) else(some false))) else(some false))) else(some false))=some r:=H
  have A18:=qbb.mk A180
  clear A180
  by_cases c19:t116=true
  ·subst c19
   have H1:((impl_isHouse.f a0_1).bind fun t117=>(if t117=true then((impl_isTrip.f a0_2).bind fun t118=>(if t118=true then(some (a0_3 == 0)) else(some false))) else(some false)))=some r:=by rw[if_pos rfl] at H;exact H
   clear H
   have H:=H1
   clear H1
   replace H:=Option.bind_eq_some_iff.mp H
   obtain⟨t117,A200,H⟩:=H
   replace H:(if t117=true then((impl_isTrip.f a0_2).bind fun t118=>(if t118=true then(some (a0_3 == 0)) else(some false))) else(some false))=some r:=H
   have A20:=qbb.mk A200
   clear A200
   by_cases c21:t117=true
   ·subst c21
    have H1:((impl_isTrip.f a0_2).bind fun t118=>(if t118=true then(some (a0_3 == 0)) else(some false)))=some r:=by rw[if_pos rfl] at H;exact H
    clear H
    have H:=H1
    clear H1
    replace H:=Option.bind_eq_some_iff.mp H
    obtain⟨t118,A220,H⟩:=H
    replace H:(if t118=true then(some (a0_3 == 0)) else(some false))=some r:=H
    have A22:=qbb.mk A220
    clear A220
    by_cases c23:t118=true
    ·subst c23
     have H1:(some (a0_3 == 0))=some r:=by rw[if_pos rfl] at H;exact H
     clear H
     have H:=H1
     clear H1
     obtain rfl:=Option.some.inj H
     go_enter Try.func17,Try.ntmps17
     go_wp2_with(first|((with_reducible refine qav (N:=1) rfl ?_);refine qat ?hg (N:=1) ?hd (cs:=#[.int .i64 a0_0,.int .i64 a0_1,.int .i64 a0_2,.int .i64 a0_3]) (t:=26) ?hr ?_;(case hd=>rfl);(case hg=>rfl);(case hr=>first|(go_simp;done)|(go_simp;rfl));intro gb111 hg w24 hbox hb;have n0_:=qbb.mk (qak (by repeat(first|(with_reducible first|exact HB.out|apply qac|apply qaa|apply qab)|exact HB.out)) hb);have n1_:=qbb.mk (hbox);have n2_:=qbb.mk ((by rw[hg];exact(qaj (by repeat(first|(with_reducible first|exact HB.out|apply qac|apply qaa|apply qab)|exact HB.out))):w.heap.size≤gb111));have n3_:=qbb.mk ((by rw[hg];exact(qaj (by repeat(first|(with_reducible first|exact HB.out|apply qac|apply qaa|apply qab)|exact HB.out))):w.heap.size≤gb111));clear HB;have HB:=n0_;have BK111:=n1_;have GW111:=n2_;have GE111:=n3_;clear n0_ n1_ n2_ n3_;clear hb hbox hg;have hcz25_0:w24.cell? ⟨gb111,0,none⟩=some (.int .i64 a0_0):=(qai BK111.out 0).trans rfl;have hcz25_1:w24.cell? ⟨gb111,1,none⟩=some (.int .i64 a0_1):=(qai BK111.out 1).trans rfl;have hcz25_2:w24.cell? ⟨gb111,2,none⟩=some (.int .i64 a0_2):=(qai BK111.out 2).trans rfl;have hcz25_3:w24.cell? ⟨gb111,3,none⟩=some (.int .i64 a0_3):=(qai BK111.out 3).trans rfl;have hfz25_0:=qah BK111.out 0;have hfz25_1:=qah BK111.out 1;have hfz25_2:=qah BK111.out 2;have hfz25_3:=qah BK111.out 3)|((with_reducible refine qao (f:=48) rfl ?_);refine qax (some 15) rfl rfl Try.func48 (by kernel_rfl) rfl #[.int .i64 a0_0,.int .i64 1,.int .i64 7] rfl (by(try simp only[List.map_toArray,List.map_cons,List.map_nil]);first|done|rfl|(simp only[List.length_drop,List.length_take];rfl)) ?_;(with_reducible refine(impl_in.calls a0_0 1 7 true _ A18.out).mono ?_);rintro e w' ⟨rfl,⟨nd,rfl⟩⟩;refine⟨_,rfl,?_⟩)|(go_at_call 49;(with_reducible refine(impl_isHouse.calls a0_1 true _ A20.out).mono ?_);rintro e w' ⟨rfl,⟨nd,rfl⟩⟩)|(go_at_call 50;(with_reducible refine(impl_isTrip.calls a0_2 true _ A22.out).mono ?_);rintro e w' ⟨rfl,⟨nd,rfl⟩⟩))
     go_ret
     exact⟨by first|rfl|(simp[qan,qam]<;>rfl)|(simp[*,qan,qam]<;>rfl),by repeat(first|(with_reducible first|exact HB.out|apply qac|apply qaa|apply qab|refine qag ?_ GE111.out)|exact HB.out)⟩
    ·replace c23:=Bool.eq_false_iff.mpr c23
     subst c23
     have H1:(some false)=some r:=by rw[if_neg (show ¬(false=true) by decide)] at H;exact H
     clear H
     have H:=H1
     clear H1
     obtain rfl:=Option.some.inj H
     go_enter Try.func17,Try.ntmps17
     go_wp2_with(first|((with_reducible refine qav (N:=1) rfl ?_);refine qat ?hg (N:=1) ?hd (cs:=#[.int .i64 a0_0,.int .i64 a0_1,.int .i64 a0_2,.int .i64 a0_3]) (t:=26) ?hr ?_;(case hd=>rfl);(case hg=>rfl);(case hr=>first|(go_simp;done)|(go_simp;rfl));intro gb111 hg w26 hbox hb;have n0_:=qbb.mk (qak (by repeat(first|(with_reducible first|exact HB.out|apply qac|apply qaa|apply qab)|exact HB.out)) hb);have n1_:=qbb.mk (hbox);have n2_:=qbb.mk ((by rw[hg];exact(qaj (by repeat(first|(with_reducible first|exact HB.out|apply qac|apply qaa|apply qab)|exact HB.out))):w.heap.size≤gb111));have n3_:=qbb.mk ((by rw[hg];exact(qaj (by repeat(first|(with_reducible first|exact HB.out|apply qac|apply qaa|apply qab)|exact HB.out))):w.heap.size≤gb111));clear HB;have HB:=n0_;have BK111:=n1_;have GW111:=n2_;have GE111:=n3_;clear n0_ n1_ n2_ n3_;clear hb hbox hg;have hcz27_0:w26.cell? ⟨gb111,0,none⟩=some (.int .i64 a0_0):=(qai BK111.out 0).trans rfl;have hcz27_1:w26.cell? ⟨gb111,1,none⟩=some (.int .i64 a0_1):=(qai BK111.out 1).trans rfl;have hcz27_2:w26.cell? ⟨gb111,2,none⟩=some (.int .i64 a0_2):=(qai BK111.out 2).trans rfl;have hcz27_3:w26.cell? ⟨gb111,3,none⟩=some (.int .i64 a0_3):=(qai BK111.out 3).trans rfl;have hfz27_0:=qah BK111.out 0;have hfz27_1:=qah BK111.out 1;have hfz27_2:=qah BK111.out 2;have hfz27_3:=qah BK111.out 3)|((with_reducible refine qao (f:=48) rfl ?_);refine qax (some 15) rfl rfl Try.func48 (by kernel_rfl) rfl #[.int .i64 a0_0,.int .i64 1,.int .i64 7] rfl (by(try simp only[List.map_toArray,List.map_cons,List.map_nil]);first|done|rfl|(simp only[List.length_drop,List.length_take];rfl)) ?_;(with_reducible refine(impl_in.calls a0_0 1 7 true _ A18.out).mono ?_);rintro e w' ⟨rfl,⟨nd,rfl⟩⟩;refine⟨_,rfl,?_⟩)|(go_at_call 49;(with_reducible refine(impl_isHouse.calls a0_1 true _ A20.out).mono ?_);rintro e w' ⟨rfl,⟨nd,rfl⟩⟩)|(go_at_call 50;(with_reducible refine(impl_isTrip.calls a0_2 false _ A22.out).mono ?_);rintro e w' ⟨rfl,⟨nd,rfl⟩⟩))
     go_ret
     exact⟨by first|rfl|(simp[qan,qam]<;>rfl)|(simp[*,qan,qam]<;>rfl),by repeat(first|(with_reducible first|exact HB.out|apply qac|apply qaa|apply qab|refine qag ?_ GE111.out)|exact HB.out)⟩
   ·replace c21:=Bool.eq_false_iff.mpr c21
    subst c21
    have H1:(some false)=some r:=by rw[if_neg (show ¬(false=true) by decide)] at H;exact H
    clear H
    have H:=H1
    clear H1
    obtain rfl:=Option.some.inj H
    go_enter Try.func17,Try.ntmps17
    go_wp2_with(first|((with_reducible refine qav (N:=1) rfl ?_);refine qat ?hg (N:=1) ?hd (cs:=#[.int .i64 a0_0,.int .i64 a0_1,.int .i64 a0_2,.int .i64 a0_3]) (t:=26) ?hr ?_;(case hd=>rfl);(case hg=>rfl);(case hr=>first|(go_simp;done)|(go_simp;rfl));intro gb111 hg w28 hbox hb;have n0_:=qbb.mk (qak (by repeat(first|(with_reducible first|exact HB.out|apply qac|apply qaa|apply qab)|exact HB.out)) hb);have n1_:=qbb.mk (hbox);have n2_:=qbb.mk ((by rw[hg];exact(qaj (by repeat(first|(with_reducible first|exact HB.out|apply qac|apply qaa|apply qab)|exact HB.out))):w.heap.size≤gb111));have n3_:=qbb.mk ((by rw[hg];exact(qaj (by repeat(first|(with_reducible first|exact HB.out|apply qac|apply qaa|apply qab)|exact HB.out))):w.heap.size≤gb111));clear HB;have HB:=n0_;have BK111:=n1_;have GW111:=n2_;have GE111:=n3_;clear n0_ n1_ n2_ n3_;clear hb hbox hg;have hcz29_0:w28.cell? ⟨gb111,0,none⟩=some (.int .i64 a0_0):=(qai BK111.out 0).trans rfl;have hcz29_1:w28.cell? ⟨gb111,1,none⟩=some (.int .i64 a0_1):=(qai BK111.out 1).trans rfl;have hcz29_2:w28.cell? ⟨gb111,2,none⟩=some (.int .i64 a0_2):=(qai BK111.out 2).trans rfl;have hcz29_3:w28.cell? ⟨gb111,3,none⟩=some (.int .i64 a0_3):=(qai BK111.out 3).trans rfl;have hfz29_0:=qah BK111.out 0;have hfz29_1:=qah BK111.out 1;have hfz29_2:=qah BK111.out 2;have hfz29_3:=qah BK111.out 3)|((with_reducible refine qao (f:=48) rfl ?_);refine qax (some 15) rfl rfl Try.func48 (by kernel_rfl) rfl #[.int .i64 a0_0,.int .i64 1,.int .i64 7] rfl (by(try simp only[List.map_toArray,List.map_cons,List.map_nil]);first|done|rfl|(simp only[List.length_drop,List.length_take];rfl)) ?_;(with_reducible refine(impl_in.calls a0_0 1 7 true _ A18.out).mono ?_);rintro e w' ⟨rfl,⟨nd,rfl⟩⟩;refine⟨_,rfl,?_⟩)|(go_at_call 49;(with_reducible refine(impl_isHouse.calls a0_1 false _ A20.out).mono ?_);rintro e w' ⟨rfl,⟨nd,rfl⟩⟩))
    go_ret
    exact⟨by first|rfl|(simp[qan,qam]<;>rfl)|(simp[*,qan,qam]<;>rfl),by repeat(first|(with_reducible first|exact HB.out|apply qac|apply qaa|apply qab|refine qag ?_ GE111.out)|exact HB.out)⟩
  ·replace c19:=Bool.eq_false_iff.mpr c19
   subst c19
   have H1:(some false)=some r:=by rw[if_neg (show ¬(false=true) by decide)] at H;exact H
   clear H
   have H:=H1
   clear H1
   obtain rfl:=Option.some.inj H
   go_enter Try.func17,Try.ntmps17
   go_wp2_with(first|((with_reducible refine qav (N:=1) rfl ?_);refine qat ?hg (N:=1) ?hd (cs:=#[.int .i64 a0_0,.int .i64 a0_1,.int .i64 a0_2,.int .i64 a0_3]) (t:=26) ?hr ?_;(case hd=>rfl);(case hg=>rfl);(case hr=>first|(go_simp;done)|(go_simp;rfl));intro gb111 hg w30 hbox hb;have n0_:=qbb.mk (qak (by repeat(first|(with_reducible first|exact HB.out|apply qac|apply qaa|apply qab)|exact HB.out)) hb);have n1_:=qbb.mk (hbox);have n2_:=qbb.mk ((by rw[hg];exact(qaj (by repeat(first|(with_reducible first|exact HB.out|apply qac|apply qaa|apply qab)|exact HB.out))):w.heap.size≤gb111));have n3_:=qbb.mk ((by rw[hg];exact(qaj (by repeat(first|(with_reducible first|exact HB.out|apply qac|apply qaa|apply qab)|exact HB.out))):w.heap.size≤gb111));clear HB;have HB:=n0_;have BK111:=n1_;have GW111:=n2_;have GE111:=n3_;clear n0_ n1_ n2_ n3_;clear hb hbox hg;have hcz31_0:w30.cell? ⟨gb111,0,none⟩=some (.int .i64 a0_0):=(qai BK111.out 0).trans rfl;have hcz31_1:w30.cell? ⟨gb111,1,none⟩=some (.int .i64 a0_1):=(qai BK111.out 1).trans rfl;have hcz31_2:w30.cell? ⟨gb111,2,none⟩=some (.int .i64 a0_2):=(qai BK111.out 2).trans rfl;have hcz31_3:w30.cell? ⟨gb111,3,none⟩=some (.int .i64 a0_3):=(qai BK111.out 3).trans rfl;have hfz31_0:=qah BK111.out 0;have hfz31_1:=qah BK111.out 1;have hfz31_2:=qah BK111.out 2;have hfz31_3:=qah BK111.out 3)|((with_reducible refine qao (f:=48) rfl ?_);refine qax (some 15) rfl rfl Try.func48 (by kernel_rfl) rfl #[.int .i64 a0_0,.int .i64 1,.int .i64 7] rfl (by(try simp only[List.map_toArray,List.map_cons,List.map_nil]);first|done|rfl|(simp only[List.length_drop,List.length_take];rfl)) ?_;(with_reducible refine(impl_in.calls a0_0 1 7 false _ A18.out).mono ?_);rintro e w' ⟨rfl,⟨nd,rfl⟩⟩;refine⟨_,rfl,?_⟩))
   go_ret
   exact⟨by first|rfl|(simp[qan,qam]<;>rfl)|(simp[*,qan,qam]<;>rfl),by repeat(first|(with_reducible first|exact HB.out|apply qac|apply qaa|apply qab|refine qag ?_ GE111.out)|exact HB.out)⟩
end Go.Proofs.Ytkbjgmfghhgodaa.Print
