-- Written by squeeze.py, a program of this session, out of what print.sh and myprint.py had printed: cut to what is used, narrowed. Not trusted, Lean checks it.
import Derived.Test.YtkbjgmfghhgodaaZK
import Derived.Test.YtkbjgmfghhgodaaZw0
import Derived.Test.YtkbjgmfghhgodaaZx0
import Derived.Test.YtkbjgmfghhgodaaZx2
namespace Go.Proofs.Ytkbjgmfghhgodaa.Print
open Go.RowKit Go.Proofs.YtkbjgmfghhgodaaW.PrintWords Go.Proofs.YtkbjgmfghhgodaaW.PrintLast Go.Proofs.YtkbjgmfghhgodaaW.PrintMore
attribute [local go_sem] max2_int min2_int max_two min_two max_three min_three max_four min_four
set_option linter.unusedVariables false
set_option linter.unusedSimpArgs false
def laws_FnExactLogOk.f (k:Nat) (l0_0:List (S42)) (a0_1:Int):Option (Bool):=(laws_szLog.f k l0_0 a0_1 1048576).bind fun t646=>(if t646<0 then(some true) else((laws_toLog.f k l0_0 a0_1).bind fun bt647=>((spec_LogOk.f k bt647.1 bt647.2).bind fun t651=>((laws_toLog.f k l0_0 a0_1).bind fun bt652=>((impl_LogOk.f bt652.1 bt652.2).bind fun t657=>(if(t657 != t651)=true then(some false) else((laws_toLog.f k l0_0 a0_1).bind fun bt658=>((laws_eqLog.f k bt652.1 bt652.2 bt658.1 bt658.2).bind fun t662=>(if t662=true then(some true) else(some false))))))))))
theorem laws_FnExactLogOk.mono:∀a0 a1 k,LeO (laws_FnExactLogOk.f k a0 a1) (laws_FnExactLogOk.f (k+1) a0 a1):=by
 intro a0 a1 k
 unfold laws_FnExactLogOk.f
 repeat' first
   |(with_reducible exact laws_eqLog.mono _ _ _ _ _)
   |(with_reducible exact laws_szLog.mono _ _ _ _)
   |(with_reducible exact laws_toLog.mono _ _ _)
   |(with_reducible exact spec_LogOk.mono _ _ _)
   |(with_reducible exact LeO.refl _)
   |(with_reducible exact LeO.none _)
   |(with_reducible refine LeO.ite ?_ ?_)
   |(with_reducible refine LeO.bind ?_ (fun _=>?_))
   |exact laws_eqLog.mono _ _ _ _ _
   |exact laws_szLog.mono _ _ _ _
   |exact laws_toLog.mono _ _ _
   |exact spec_LogOk.mono _ _ _
   |exact LeO.none _
   |refine LeO.ite ?_ ?_
   |refine LeO.bind ?_ (fun _=>?_)
set_option maxHeartbeats 8000000 in
set_option maxRecDepth 100000 in
theorem laws_FnExactLogOk.calls (k:Nat) (A0_0:Option Addr) (c0_0:Nat) (l0_0:List (S42)) (a0_1:Int) (r:Bool) (w:World) (hr0_0:Kd.C k42 w A0_0 l0_0.length l0_0) (hc0_0:l0_0.length≤c0_0) (h:laws_FnExactLogOk.f k l0_0 a0_1=some r) :
  Calls Try.prog 14 #[.agg #[.slice A0_0 l0_0.length c0_0,.int .i64 a0_1]] w fun e w'=>e=.returned (.bool r)∧Below w.heap.size w w':=by
 have hu73:=Try.underlying73
 have hu68:=Try.underlying68
 have HR0_0:=qbb.mk hr0_0
 have HC0_0:=qbb.mk hc0_0
 clear hr0_0 hc0_0
 have HB:=qbb.mk (Below.refl w.heap.size w)
 have H:((laws_szLog.f k l0_0 a0_1 1048576).bind fun t646=>(if t646<0 then(some true) else((laws_toLog.f k l0_0 a0_1).bind fun bt647=>((spec_LogOk.f k bt647.1 bt647.2).bind fun t651=>((laws_toLog.f k l0_0 a0_1).bind fun bt652=>((impl_LogOk.f bt652.1 bt652.2).bind fun t657=>(if(t657 != t651)=true then(some false) else((laws_toLog.f k l0_0 a0_1).bind fun bt658=>((laws_eqLog.f k bt652.1 bt652.2 bt658.1 bt658.2).bind fun t662=>(if t662=true then(some true) else(some false)))))))))))=some r:=h
 clear h
 replace H:=Option.bind_eq_some_iff.mp H
 obtain⟨t646,A20,H⟩:=H
 replace H:(if t646<0 then(some true) else((laws_toLog.f k l0_0 a0_1).bind fun bt647=>((spec_LogOk.f k bt647.1 bt647.2).bind fun t651=>((laws_toLog.f k l0_0 a0_1).bind fun bt652=>((impl_LogOk.f bt652.1 bt652.2).bind fun t657=>(if(t657 != t651)=true then(some false) else((laws_toLog.f k l0_0 a0_1).bind fun bt658=>((laws_eqLog.f k bt652.1 bt652.2 bt658.1 bt658.2).bind fun t662=>(if t662=true then(some true) else(some false))))))))))=some r:=H
 have A2:=qbb.mk A20
 clear A20
 by_cases c3:t646<0
 ·rw[if_pos c3] at H
  have c3b0:decide (t646<0)=true:=decide_eq_true c3
  clear c3
  obtain rfl:=Option.some.inj H
  go_enter Try.func14,Try.ntmps14
  go_wp2_with(first|((with_reducible refine qav (N:=1) rfl ?_);refine qat ?hg (N:=1) ?hd (cs:=#[.slice A0_0 l0_0.length c0_0,.int .i64 a0_1]) (t:=73) ?hr ?_;(case hd=>rfl);(case hg=>rfl);(case hr=>first|(go_simp;done)|(go_simp;rfl));intro gb645 hg w4 hbox hb;have n0_:=qbb.mk (qak (by repeat(first|(with_reducible first|exact HB.out|apply qac|apply qaa|apply qab)|exact HB.out)) hb);have n1_:=qbb.mk (hbox);have n2_:=qbb.mk ((by rw[hg];exact(qaj (by repeat(first|(with_reducible first|exact HB.out|apply qac|apply qaa|apply qab)|exact HB.out))):w.heap.size≤gb645));have n3_:=qbb.mk ((by rw[hg];exact(qaj (by repeat(first|(with_reducible first|exact HB.out|apply qac|apply qaa|apply qab)|exact HB.out))):w.heap.size≤gb645));clear HB;have HB:=n0_;have BK645:=n1_;have GW645:=n2_;have GE645:=n3_;clear n0_ n1_ n2_ n3_;clear hb hbox hg;have hcz5_0:w4.cell? ⟨gb645,0,none⟩=some (.slice A0_0 l0_0.length c0_0):=(qai BK645.out 0).trans rfl;have hcz5_1:w4.cell? ⟨gb645,1,none⟩=some (.int .i64 a0_1):=(qai BK645.out 1).trans rfl;have hfz5_0:=qah BK645.out 0;have hfz5_1:=qah BK645.out 1)|((with_reducible refine qao (f:=44) rfl ?_);refine qax (some 9) rfl rfl Try.func44 (by kernel_rfl) rfl #[.agg #[.slice A0_0 l0_0.length c0_0,.int .i64 a0_1],.int .i64 1048576] rfl (by(try simp only[List.map_toArray,List.map_cons,List.map_nil]);first|done|rfl|(simp only[List.length_drop,List.length_take];rfl)) ?_;(with_reducible refine(laws_szLog.calls k _ _ l0_0 a0_1 1048576 t646 _ ?side1 ?side2 A2.out).mono ?_);(case side1=>repeat(first|exact(Kd.C_below HR0_0.out HB.out)|(with_reducible refine Kd.C_alloc ?_ _)|(with_reducible refine Kd.C_drewN ?_ _)|(with_reducible refine Kd.C_drew ?_)));(case side2=>exact HC0_0.out);rintro e w6 ⟨rfl,hb⟩;refine⟨_,rfl,?_⟩;have n0_:=qbb.mk (qal (g:=gb645) (o:=.cells #[.slice A0_0 l0_0.length c0_0,.int .i64 a0_1] 73 (0,0)) (by(with_reducible repeat(first|refine qae ?_ _|refine qaf ?_|refine qad ?_ _));exact BK645.out) hb);have n1_:=qbb.mk (qak (by repeat(first|(with_reducible first|exact HB.out|apply qac|apply qaa|apply qab|refine qag ?_ GE645.out)|exact HB.out)) hb);clear BK645;clear HB;have BK645:=n0_;have HB:=n1_;clear n0_ n1_;(try clear hb);(try clear hb2);(try clear hk);(try clear hi)))
  go_ret
  exact⟨by first|rfl|(simp[qan,qam]<;>rfl)|(simp[*,qan,qam]<;>rfl),by repeat(first|(with_reducible first|exact HB.out|apply qac|apply qaa|apply qab|refine qag ?_ GE645.out)|exact HB.out)⟩
 ·rw[if_neg c3] at H
  have c3b0:decide (t646<0)=false:=decide_eq_false c3
  clear c3
  replace H:=Option.bind_eq_some_iff.mp H
  obtain⟨⟨t647,t650⟩,A70,H⟩:=H
  replace H:((spec_LogOk.f k t647 t650).bind fun t651=>((laws_toLog.f k l0_0 a0_1).bind fun bt652=>((impl_LogOk.f bt652.1 bt652.2).bind fun t657=>(if(t657 != t651)=true then(some false) else((laws_toLog.f k l0_0 a0_1).bind fun bt658=>((laws_eqLog.f k bt652.1 bt652.2 bt658.1 bt658.2).bind fun t662=>(if t662=true then(some true) else(some false))))))))=some r:=H
  have A7:=qbb.mk A70
  clear A70
  replace H:=Option.bind_eq_some_iff.mp H
  obtain⟨t651,A80,H⟩:=H
  replace H:((laws_toLog.f k l0_0 a0_1).bind fun bt652=>((impl_LogOk.f bt652.1 bt652.2).bind fun t657=>(if(t657 != t651)=true then(some false) else((laws_toLog.f k l0_0 a0_1).bind fun bt658=>((laws_eqLog.f k bt652.1 bt652.2 bt658.1 bt658.2).bind fun t662=>(if t662=true then(some true) else(some false)))))))=some r:=H
  have A8:=qbb.mk A80
  clear A80
  replace H:=Option.bind_eq_some_iff.mp H
  obtain⟨⟨t652,t655⟩,A90,H⟩:=H
  replace H:((impl_LogOk.f t652 t655).bind fun t657=>(if(t657 != t651)=true then(some false) else((laws_toLog.f k l0_0 a0_1).bind fun bt658=>((laws_eqLog.f k t652 t655 bt658.1 bt658.2).bind fun t662=>(if t662=true then(some true) else(some false))))))=some r:=H
  have A9:=qbb.mk A90
  clear A90
  replace H:=Option.bind_eq_some_iff.mp H
  obtain⟨t657,A100,H⟩:=H
  replace H:(if(t657 != t651)=true then(some false) else((laws_toLog.f k l0_0 a0_1).bind fun bt658=>((laws_eqLog.f k t652 t655 bt658.1 bt658.2).bind fun t662=>(if t662=true then(some true) else(some false)))))=some r:=H
  have A10:=qbb.mk A100
  clear A100
  by_cases c11:(t657 != t651)=true
  ·rw[if_pos c11] at H
   have c11b0:(t657 != t651)=true:=c11
   (try(have c11b1:decide (t657=t651)=false:=by simpa using c11))
   (try(have c11b2:(t657 == t651)=false:=by simpa using c11))
   (try(have c11b3:¬(t657=t651):=by simpa using c11))
   clear c11
   obtain rfl:=Option.some.inj H
   go_enter Try.func14,Try.ntmps14
   go_wp2_with(first|((with_reducible refine qav (N:=1) rfl ?_);refine qat ?hg (N:=1) ?hd (cs:=#[.slice A0_0 l0_0.length c0_0,.int .i64 a0_1]) (t:=73) ?hr ?_;(case hd=>rfl);(case hg=>rfl);(case hr=>first|(go_simp;done)|(go_simp;rfl));intro gb645 hg w12 hbox hb;have n0_:=qbb.mk (qak (by repeat(first|(with_reducible first|exact HB.out|apply qac|apply qaa|apply qab)|exact HB.out)) hb);have n1_:=qbb.mk (hbox);have n2_:=qbb.mk ((by rw[hg];exact(qaj (by repeat(first|(with_reducible first|exact HB.out|apply qac|apply qaa|apply qab)|exact HB.out))):w.heap.size≤gb645));have n3_:=qbb.mk ((by rw[hg];exact(qaj (by repeat(first|(with_reducible first|exact HB.out|apply qac|apply qaa|apply qab)|exact HB.out))):w.heap.size≤gb645));clear HB;have HB:=n0_;have BK645:=n1_;have GW645:=n2_;have GE645:=n3_;clear n0_ n1_ n2_ n3_;clear hb hbox hg;have hcz13_0:w12.cell? ⟨gb645,0,none⟩=some (.slice A0_0 l0_0.length c0_0):=(qai BK645.out 0).trans rfl;have hcz13_1:w12.cell? ⟨gb645,1,none⟩=some (.int .i64 a0_1):=(qai BK645.out 1).trans rfl;have hfz13_0:=qah BK645.out 0;have hfz13_1:=qah BK645.out 1)|((with_reducible refine qao (f:=44) rfl ?_);refine qax (some 9) rfl rfl Try.func44 (by kernel_rfl) rfl #[.agg #[.slice A0_0 l0_0.length c0_0,.int .i64 a0_1],.int .i64 1048576] rfl (by(try simp only[List.map_toArray,List.map_cons,List.map_nil]);first|done|rfl|(simp only[List.length_drop,List.length_take];rfl)) ?_;(with_reducible refine(laws_szLog.calls k _ _ l0_0 a0_1 1048576 t646 _ ?side1 ?side2 A2.out).mono ?_);(case side1=>repeat(first|exact(Kd.C_below HR0_0.out HB.out)|(with_reducible refine Kd.C_alloc ?_ _)|(with_reducible refine Kd.C_drewN ?_ _)|(with_reducible refine Kd.C_drew ?_)));(case side2=>exact HC0_0.out);rintro e w14 ⟨rfl,hb⟩;refine⟨_,rfl,?_⟩;have n0_:=qbb.mk (qal (g:=gb645) (o:=.cells #[.slice A0_0 l0_0.length c0_0,.int .i64 a0_1] 73 (0,0)) (by(with_reducible repeat(first|refine qae ?_ _|refine qaf ?_|refine qad ?_ _));exact BK645.out) hb);have n1_:=qbb.mk (qak (by repeat(first|(with_reducible first|exact HB.out|apply qac|apply qaa|apply qab|refine qag ?_ GE645.out)|exact HB.out)) hb);clear BK645;clear HB;have BK645:=n0_;have HB:=n1_;clear n0_ n1_;(try clear hb);(try clear hb2);(try clear hk);(try clear hi);have hcz15_0:w14.cell? ⟨gb645,0,none⟩=some (.slice A0_0 l0_0.length c0_0):=(qai BK645.out 0).trans rfl;have hcz15_1:w14.cell? ⟨gb645,1,none⟩=some (.int .i64 a0_1):=(qai BK645.out 1).trans rfl;have hfz15_0:=qah BK645.out 0;have hfz15_1:=qah BK645.out 1)|((with_reducible refine qao (f:=45) rfl ?_);refine qax (some 13) rfl rfl Try.func45 (by kernel_rfl) rfl #[.agg #[.slice A0_0 l0_0.length c0_0,.int .i64 a0_1]] rfl (by(try simp only[List.map_toArray,List.map_cons,List.map_nil]);first|done|rfl|(simp only[List.length_drop,List.length_take];rfl)) ?_;(with_reducible refine(laws_toLog.calls k _ _ l0_0 a0_1 t647 t650 _ ?side1 ?side2 A7.out).mono ?_);(case side1=>repeat(first|exact(Kd.C_below HR0_0.out HB.out)|(with_reducible refine Kd.C_alloc ?_ _)|(with_reducible refine Kd.C_drewN ?_ _)|(with_reducible refine Kd.C_drew ?_)));(case side2=>exact HC0_0.out);rintro e w16 ⟨v648,rfl,ho0,hb⟩;refine⟨_,rfl,?_⟩;have n0_:=qbb.mk (Kd.S_lower ho0 (qaj (by repeat(first|(with_reducible first|exact HB.out|apply qac|apply qaa|apply qab|refine qag ?_ GE645.out)|exact HB.out))));have n1_:=qbb.mk (qal (g:=gb645) (o:=.cells #[.slice A0_0 l0_0.length c0_0,.int .i64 a0_1] 73 (0,0)) (by(with_reducible repeat(first|refine qae ?_ _|refine qaf ?_|refine qad ?_ _));exact BK645.out) hb);have n2_:=qbb.mk (qak (by repeat(first|(with_reducible first|exact HB.out|apply qac|apply qaa|apply qab|refine qag ?_ GE645.out)|exact HB.out)) hb);clear BK645;clear HB;have HO649:=n0_;have BK645:=n1_;have HB:=n2_;clear n0_ n1_ n2_;(try clear hb);(try clear hb2);(try clear hk);(try clear hi);(try clear ho0);obtain⟨Ao17,co17,eo17⟩:=Kd.S_slice HO649.out;subst eo17)|((with_reducible refine qao (f:=43) rfl ?_);refine qax (some 14) rfl rfl Try.func43 (by kernel_rfl) rfl #[.agg #[.slice Ao17 t647.length co17,.int .i64 t650]] rfl (by(try simp only[List.map_toArray,List.map_cons,List.map_nil]);first|done|rfl|(simp only[List.length_drop,List.length_take];rfl)) ?_;(with_reducible refine(spec_LogOk.calls k _ _ t647 t650 t651 _ ?side1 ?side2 A8.out).mono ?_);(case side1=>repeat(first|exact(Kd.S_reads' HO649.out).2.2|(with_reducible refine Kd.C_alloc ?_ _)|(with_reducible refine Kd.C_drewN ?_ _)|(with_reducible refine Kd.C_drew ?_)));(case side2=>exact(Kd.S_reads' HO649.out).2.1);rintro e w18 ⟨rfl,hb⟩;refine⟨_,rfl,?_⟩;have n0_:=qbb.mk (Kd.S_below (by(with_reducible repeat(first|apply Kd.S_alloc|apply Kd.S_drewN|apply Kd.S_drew));exact HO649.out) hb);have n1_:=qbb.mk (qal (g:=gb645) (o:=.cells #[.slice A0_0 l0_0.length c0_0,.int .i64 a0_1] 73 (0,0)) (by(with_reducible repeat(first|refine qae ?_ _|refine qaf ?_|refine qad ?_ _));exact BK645.out) hb);have n2_:=qbb.mk (qak (by repeat(first|(with_reducible first|exact HB.out|apply qac|apply qaa|apply qab|refine qag ?_ GE645.out)|exact HB.out)) hb);clear HO649;clear BK645;clear HB;have HO649:=n0_;have BK645:=n1_;have HB:=n2_;clear n0_ n1_ n2_;(try clear hb);(try clear hb2);(try clear hk);(try clear hi);have hcz19_0:w18.cell? ⟨gb645,0,none⟩=some (.slice A0_0 l0_0.length c0_0):=(qai BK645.out 0).trans rfl;have hcz19_1:w18.cell? ⟨gb645,1,none⟩=some (.int .i64 a0_1):=(qai BK645.out 1).trans rfl;have hfz19_0:=qah BK645.out 0;have hfz19_1:=qah BK645.out 1)|((with_reducible refine qao (f:=45) rfl ?_);refine qax (some 16) rfl rfl Try.func45 (by kernel_rfl) rfl #[.agg #[.slice A0_0 l0_0.length c0_0,.int .i64 a0_1]] rfl (by(try simp only[List.map_toArray,List.map_cons,List.map_nil]);first|done|rfl|(simp only[List.length_drop,List.length_take];rfl)) ?_;(with_reducible refine(laws_toLog.calls k _ _ l0_0 a0_1 t652 t655 _ ?side1 ?side2 A9.out).mono ?_);(case side1=>repeat(first|exact(Kd.C_below HR0_0.out HB.out)|(with_reducible refine Kd.C_alloc ?_ _)|(with_reducible refine Kd.C_drewN ?_ _)|(with_reducible refine Kd.C_drew ?_)));(case side2=>exact HC0_0.out);rintro e w20 ⟨v653,rfl,ho0,hb⟩;refine⟨_,rfl,?_⟩;have n0_:=qbb.mk (Kd.S_elder' (by(with_reducible repeat(first|apply Kd.S_alloc|apply Kd.S_drewN|apply Kd.S_drew));exact HO649.out) (Kd.S_base ho0) hb);have n1_:=qbb.mk (Kd.S_lower (Kd.S_new' ho0 (Kd.S_lt (by(with_reducible repeat(first|apply Kd.S_alloc|apply Kd.S_drewN|apply Kd.S_drew));exact HO649.out))) (qaj (by repeat(first|(with_reducible first|exact HB.out|apply qac|apply qaa|apply qab|refine qag ?_ GE645.out)|exact HB.out))));have n2_:=qbb.mk (qal (g:=gb645) (o:=.cells #[.slice A0_0 l0_0.length c0_0,.int .i64 a0_1] 73 (0,0)) (by(with_reducible repeat(first|refine qae ?_ _|refine qaf ?_|refine qad ?_ _));exact BK645.out) hb);have n3_:=qbb.mk (qak (by repeat(first|(with_reducible first|exact HB.out|apply qac|apply qaa|apply qab|refine qag ?_ GE645.out)|exact HB.out)) hb);clear HO649;clear BK645;clear HB;have HO649:=n0_;have HO654:=n1_;have BK645:=n2_;have HB:=n3_;clear n0_ n1_ n2_ n3_;(try clear hb);(try clear hb2);(try clear hk);(try clear hi);(try clear ho0))|((with_reducible refine qav (N:=5) rfl ?_);refine qat ?hg (N:=5) ?hd (cs:=#[.slice none 0 0,.int .i64 0]) (t:=68) ?hr ?_;(case hd=>rfl);(case hg=>rfl);(case hr=>first|(go_simp;done)|(go_simp;rfl));intro gb656 hg w21 hbox hb;have n0_:=qbb.mk (Kd.S_below (by(with_reducible repeat(first|apply Kd.S_alloc|apply Kd.S_drewN|apply Kd.S_drew));exact HO649.out) hb);have n1_:=qbb.mk (Kd.S_below (by(with_reducible repeat(first|apply Kd.S_alloc|apply Kd.S_drewN|apply Kd.S_drew));exact HO654.out) hb);have n2_:=qbb.mk (qal (g:=gb645) (o:=.cells #[.slice A0_0 l0_0.length c0_0,.int .i64 a0_1] 73 (0,0)) (by(with_reducible repeat(first|refine qae ?_ _|refine qaf ?_|refine qad ?_ _));exact BK645.out) hb);have n3_:=qbb.mk (qak (by repeat(first|(with_reducible first|exact HB.out|apply qac|apply qaa|apply qab|refine qag ?_ GE645.out)|exact HB.out)) hb);have n4_:=qbb.mk (hbox);have n5_:=qbb.mk ((by rw[hg];exact(qaj (by repeat(first|(with_reducible first|exact HB.out|apply qac|apply qaa|apply qab|refine qag ?_ GE645.out)|exact HB.out))):w.heap.size≤gb656));have n6_:=qbb.mk ((by rw[hg];exact(qaj (by repeat(first|(with_reducible first|exact HB.out|apply qac|apply qaa|apply qab|refine qag ?_ GE645.out)|exact HB.out))):w.heap.size≤gb656));have n7_:=qbb.mk ((by rw[hg];exact Nat.ne_of_lt (qbc (g:=gb645) (o:=.cells #[.slice A0_0 l0_0.length c0_0,.int .i64 a0_1] 73 (0,0)) (by(with_reducible repeat(first|refine qae ?_ _|refine qaf ?_|refine qad ?_ _));exact BK645.out)):gb645≠gb656));have n8_:=qbb.mk ((by rw[hg];exact Nat.ne_of_gt (qbc (g:=gb645) (o:=.cells #[.slice A0_0 l0_0.length c0_0,.int .i64 a0_1] 73 (0,0)) (by(with_reducible repeat(first|refine qae ?_ _|refine qaf ?_|refine qad ?_ _));exact BK645.out)):gb656≠gb645));clear HO649;clear HO654;clear BK645;clear HB;have HO649:=n0_;have HO654:=n1_;have BK645:=n2_;have HB:=n3_;have BK656:=n4_;have GW656:=n5_;have GE656:=n6_;have NB645_656:=n7_;have NB656_645:=n8_;clear n0_ n1_ n2_ n3_ n4_ n5_ n6_ n7_ n8_;clear hb hbox hg;obtain⟨Ao22,co22,eo22⟩:=Kd.S_slice HO654.out;subst eo22;have hnb23:=NB656_645.out;have hnc23:=NB645_656.out;have hcz24_0:w21.cell? ⟨gb656,0,none⟩=some (.slice none 0 0):=(qai BK656.out 0).trans rfl;have hcz24_1:w21.cell? ⟨gb656,1,none⟩=some (.int .i64 0):=(qai BK656.out 1).trans rfl;have hfz24_0:=qah BK656.out 0;have hfz24_1:=qah BK656.out 1)|((with_reducible refine qao (f:=42) rfl ?_);refine qax (some 18) rfl rfl Try.func42 (by kernel_rfl) rfl #[.agg #[.slice Ao22 t652.length co22,.int .i64 t655]] rfl (by(try simp only[List.map_toArray,List.map_cons,List.map_nil]);first|done|rfl|(simp only[List.length_drop,List.length_take];rfl)) ?_;(with_reducible refine(impl_LogOk.calls _ _ t652 t655 t657 _ ?side1 ?side2 A10.out).mono ?_);(case side1=>refine(Kd.S_reads' (e:=45) (base:=w.heap.size) (ok:=fun k_=>(True∧some k_≠(.slice Ao17 t647.length co17:Value).ownBlock)) (n:=t652.length) (c:=co22) ?_).2.2;exact(by(with_reducible repeat(first|apply Kd.S_alloc|apply Kd.S_drewN|apply Kd.S_drew));exact(Kd.S_mono (Kd.S_far (p:=⟨gb656,1,none⟩) (Kd.S_far (p:=⟨gb656,0,none⟩) (Kd.S_types HO654.out BK656.out (by decide)) (fun _ hk=>hk.2) (.slice Ao22 t652.length co22)) (fun _ hk=>hk.2) (.int .i64 t655)) (fun _ h_=>h_.1))));(case side2=>exact(Kd.S_reads' HO654.out).2.1);rintro e w25 ⟨rfl,hb⟩;refine⟨_,rfl,?_⟩;have n0_:=qbb.mk (Kd.S_below (by(with_reducible repeat(first|apply Kd.S_alloc|apply Kd.S_drewN|apply Kd.S_drew));exact(Kd.S_mono (Kd.S_far (p:=⟨gb656,1,none⟩) (Kd.S_far (p:=⟨gb656,0,none⟩) (Kd.S_types HO649.out BK656.out (by decide)) (fun _ hk=>hk.2) (.slice Ao22 t652.length co22)) (fun _ hk=>hk.2) (.int .i64 t655)) (fun _ h_=>h_.1))) hb);have n1_:=qbb.mk (Kd.S_below (by(with_reducible repeat(first|apply Kd.S_alloc|apply Kd.S_drewN|apply Kd.S_drew));exact(Kd.S_mono (Kd.S_far (p:=⟨gb656,1,none⟩) (Kd.S_far (p:=⟨gb656,0,none⟩) (Kd.S_types HO654.out BK656.out (by decide)) (fun _ hk=>hk.2) (.slice Ao22 t652.length co22)) (fun _ hk=>hk.2) (.int .i64 t655)) (fun _ h_=>h_.1))) hb);have n2_:=qbb.mk (qal (g:=gb645) (o:=.cells #[.slice A0_0 l0_0.length c0_0,.int .i64 a0_1] 73 (0,0)) (by(with_reducible repeat(first|refine qae ?_ _|refine qaf ?_|refine qad ?_ _));refine qap ?_ NB645_656.out _;(with_reducible repeat(first|refine qae ?_ _|refine qaf ?_|refine qad ?_ _));refine qap ?_ NB645_656.out _;(with_reducible repeat(first|refine qae ?_ _|refine qaf ?_|refine qad ?_ _));exact BK645.out) hb);have n3_:=qbb.mk (qal (g:=gb656) (o:=.cells #[.slice Ao22 t652.length co22,.int .i64 t655] 68 (0,0)) (by(with_reducible repeat(first|refine qae ?_ _|refine qaf ?_|refine qad ?_ _));refine qaq (cs:=#[.slice Ao22 t652.length co22,.int .i64 0]) ?_ 1 _ rfl;(with_reducible repeat(first|refine qae ?_ _|refine qaf ?_|refine qad ?_ _));refine qaq (cs:=#[.slice none 0 0,.int .i64 0]) ?_ 0 _ rfl;(with_reducible repeat(first|refine qae ?_ _|refine qaf ?_|refine qad ?_ _));exact BK656.out) hb);have n4_:=qbb.mk (qak (by repeat(first|(with_reducible first|exact HB.out|apply qac|apply qaa|apply qab|refine qag ?_ GE645.out|refine qag ?_ GE656.out)|exact HB.out)) hb);clear HO649;clear HO654;clear BK645;clear BK656;clear HB;have HO649:=n0_;have HO654:=n1_;have BK645:=n2_;have BK656:=n3_;have HB:=n4_;clear n0_ n1_ n2_ n3_ n4_;(try clear hb);(try clear hb2);(try clear hk);(try clear hi)))
   go_ret
   exact⟨by first|rfl|(simp[qan,qam]<;>rfl)|(simp[*,qan,qam]<;>rfl),by repeat(first|(with_reducible first|exact HB.out|apply qac|apply qaa|apply qab|refine qag ?_ GE645.out|refine qag ?_ GE656.out)|exact HB.out)⟩
  ·rw[if_neg c11] at H
   have c11b0:(t657 != t651)=false:=by simpa using c11
   (try(have c11b1:decide (t657=t651)=true:=by simpa using c11))
   (try(have c11b2:(t657 == t651)=true:=by simpa using c11))
   clear c11
   replace H:=Option.bind_eq_some_iff.mp H
   obtain⟨⟨t658,t661⟩,A260,H⟩:=H
   replace H:((laws_eqLog.f k t652 t655 t658 t661).bind fun t662=>(if t662=true then(some true) else(some false)))=some r:=H
   have A26:=qbb.mk A260
   clear A260
   replace H:=Option.bind_eq_some_iff.mp H
   obtain⟨t662,A270,H⟩:=H
   replace H:(if t662=true then(some true) else(some false))=some r:=H
   have A27:=qbb.mk A270
   clear A270
   by_cases c28:t662=true
   ·subst c28
    have H1:(some true)=some r:=by rw[if_pos rfl] at H;exact H
    clear H
    have H:=H1
    clear H1
    obtain rfl:=Option.some.inj H
    go_enter Try.func14,Try.ntmps14
    try go_wp2_with(first|((with_reducible refine qav (N:=1) rfl ?_);refine qat ?hg (N:=1) ?hd (cs:=#[.slice A0_0 l0_0.length c0_0,.int .i64 a0_1]) (t:=73) ?hr ?_;(case hd=>rfl);(case hg=>rfl);(case hr=>first|(go_simp;done)|(go_simp;rfl));intro gb645 hg w29 hbox hb;have n0_:=qbb.mk (qak (by repeat(first|(with_reducible first|exact HB.out|apply qac|apply qaa|apply qab)|exact HB.out)) hb);have n1_:=qbb.mk (hbox);have n2_:=qbb.mk ((by rw[hg];exact(qaj (by repeat(first|(with_reducible first|exact HB.out|apply qac|apply qaa|apply qab)|exact HB.out))):w.heap.size≤gb645));have n3_:=qbb.mk ((by rw[hg];exact(qaj (by repeat(first|(with_reducible first|exact HB.out|apply qac|apply qaa|apply qab)|exact HB.out))):w.heap.size≤gb645));clear HB;have HB:=n0_;have BK645:=n1_;have GW645:=n2_;have GE645:=n3_;clear n0_ n1_ n2_ n3_;clear hb hbox hg;have hcz30_0:w29.cell? ⟨gb645,0,none⟩=some (.slice A0_0 l0_0.length c0_0):=(qai BK645.out 0).trans rfl;have hcz30_1:w29.cell? ⟨gb645,1,none⟩=some (.int .i64 a0_1):=(qai BK645.out 1).trans rfl;have hfz30_0:=qah BK645.out 0;have hfz30_1:=qah BK645.out 1)|((with_reducible refine qao (f:=44) rfl ?_);refine qax (some 9) rfl rfl Try.func44 (by kernel_rfl) rfl #[.agg #[.slice A0_0 l0_0.length c0_0,.int .i64 a0_1],.int .i64 1048576] rfl (by(try simp only[List.map_toArray,List.map_cons,List.map_nil]);first|done|rfl|(simp only[List.length_drop,List.length_take];rfl)) ?_;(with_reducible refine(laws_szLog.calls k _ _ l0_0 a0_1 1048576 t646 _ ?side1 ?side2 A2.out).mono ?_);(case side1=>repeat(first|exact(Kd.C_below HR0_0.out HB.out)|(with_reducible refine Kd.C_alloc ?_ _)|(with_reducible refine Kd.C_drewN ?_ _)|(with_reducible refine Kd.C_drew ?_)));(case side2=>exact HC0_0.out);rintro e w31 ⟨rfl,hb⟩;refine⟨_,rfl,?_⟩;have n0_:=qbb.mk (qal (g:=gb645) (o:=.cells #[.slice A0_0 l0_0.length c0_0,.int .i64 a0_1] 73 (0,0)) (by(with_reducible repeat(first|refine qae ?_ _|refine qaf ?_|refine qad ?_ _));exact BK645.out) hb);have n1_:=qbb.mk (qak (by repeat(first|(with_reducible first|exact HB.out|apply qac|apply qaa|apply qab|refine qag ?_ GE645.out)|exact HB.out)) hb);clear BK645;clear HB;have BK645:=n0_;have HB:=n1_;clear n0_ n1_;(try clear hb);(try clear hb2);(try clear hk);(try clear hi);have hcz32_0:w31.cell? ⟨gb645,0,none⟩=some (.slice A0_0 l0_0.length c0_0):=(qai BK645.out 0).trans rfl;have hcz32_1:w31.cell? ⟨gb645,1,none⟩=some (.int .i64 a0_1):=(qai BK645.out 1).trans rfl;have hfz32_0:=qah BK645.out 0;have hfz32_1:=qah BK645.out 1)|((with_reducible refine qao (f:=45) rfl ?_);refine qax (some 13) rfl rfl Try.func45 (by kernel_rfl) rfl #[.agg #[.slice A0_0 l0_0.length c0_0,.int .i64 a0_1]] rfl (by(try simp only[List.map_toArray,List.map_cons,List.map_nil]);first|done|rfl|(simp only[List.length_drop,List.length_take];rfl)) ?_;(with_reducible refine(laws_toLog.calls k _ _ l0_0 a0_1 t647 t650 _ ?side1 ?side2 A7.out).mono ?_);(case side1=>repeat(first|exact(Kd.C_below HR0_0.out HB.out)|(with_reducible refine Kd.C_alloc ?_ _)|(with_reducible refine Kd.C_drewN ?_ _)|(with_reducible refine Kd.C_drew ?_)));(case side2=>exact HC0_0.out);rintro e w33 ⟨v648,rfl,ho0,hb⟩;refine⟨_,rfl,?_⟩;have n0_:=qbb.mk (Kd.S_lower ho0 (qaj (by repeat(first|(with_reducible first|exact HB.out|apply qac|apply qaa|apply qab|refine qag ?_ GE645.out)|exact HB.out))));have n1_:=qbb.mk (qal (g:=gb645) (o:=.cells #[.slice A0_0 l0_0.length c0_0,.int .i64 a0_1] 73 (0,0)) (by(with_reducible repeat(first|refine qae ?_ _|refine qaf ?_|refine qad ?_ _));exact BK645.out) hb);have n2_:=qbb.mk (qak (by repeat(first|(with_reducible first|exact HB.out|apply qac|apply qaa|apply qab|refine qag ?_ GE645.out)|exact HB.out)) hb);clear BK645;clear HB;have HO649:=n0_;have BK645:=n1_;have HB:=n2_;clear n0_ n1_ n2_;(try clear hb);(try clear hb2);(try clear hk);(try clear hi);(try clear ho0);obtain⟨Ao34,co34,eo34⟩:=Kd.S_slice HO649.out;subst eo34)|((with_reducible refine qao (f:=43) rfl ?_);refine qax (some 14) rfl rfl Try.func43 (by kernel_rfl) rfl #[.agg #[.slice Ao34 t647.length co34,.int .i64 t650]] rfl (by(try simp only[List.map_toArray,List.map_cons,List.map_nil]);first|done|rfl|(simp only[List.length_drop,List.length_take];rfl)) ?_;(with_reducible refine(spec_LogOk.calls k _ _ t647 t650 t651 _ ?side1 ?side2 A8.out).mono ?_);(case side1=>repeat(first|exact(Kd.S_reads' HO649.out).2.2|(with_reducible refine Kd.C_alloc ?_ _)|(with_reducible refine Kd.C_drewN ?_ _)|(with_reducible refine Kd.C_drew ?_)));(case side2=>exact(Kd.S_reads' HO649.out).2.1);rintro e w35 ⟨rfl,hb⟩;refine⟨_,rfl,?_⟩;have n0_:=qbb.mk (Kd.S_below (by(with_reducible repeat(first|apply Kd.S_alloc|apply Kd.S_drewN|apply Kd.S_drew));exact HO649.out) hb);have n1_:=qbb.mk (qal (g:=gb645) (o:=.cells #[.slice A0_0 l0_0.length c0_0,.int .i64 a0_1] 73 (0,0)) (by(with_reducible repeat(first|refine qae ?_ _|refine qaf ?_|refine qad ?_ _));exact BK645.out) hb);have n2_:=qbb.mk (qak (by repeat(first|(with_reducible first|exact HB.out|apply qac|apply qaa|apply qab|refine qag ?_ GE645.out)|exact HB.out)) hb);clear HO649;clear BK645;clear HB;have HO649:=n0_;have BK645:=n1_;have HB:=n2_;clear n0_ n1_ n2_;(try clear hb);(try clear hb2);(try clear hk);(try clear hi);have hcz36_0:w35.cell? ⟨gb645,0,none⟩=some (.slice A0_0 l0_0.length c0_0):=(qai BK645.out 0).trans rfl;have hcz36_1:w35.cell? ⟨gb645,1,none⟩=some (.int .i64 a0_1):=(qai BK645.out 1).trans rfl;have hfz36_0:=qah BK645.out 0;have hfz36_1:=qah BK645.out 1)|((with_reducible refine qao (f:=45) rfl ?_);refine qax (some 16) rfl rfl Try.func45 (by kernel_rfl) rfl #[.agg #[.slice A0_0 l0_0.length c0_0,.int .i64 a0_1]] rfl (by(try simp only[List.map_toArray,List.map_cons,List.map_nil]);first|done|rfl|(simp only[List.length_drop,List.length_take];rfl)) ?_;(with_reducible refine(laws_toLog.calls k _ _ l0_0 a0_1 t652 t655 _ ?side1 ?side2 A9.out).mono ?_);(case side1=>repeat(first|exact(Kd.C_below HR0_0.out HB.out)|(with_reducible refine Kd.C_alloc ?_ _)|(with_reducible refine Kd.C_drewN ?_ _)|(with_reducible refine Kd.C_drew ?_)));(case side2=>exact HC0_0.out);rintro e w37 ⟨v653,rfl,ho0,hb⟩;refine⟨_,rfl,?_⟩;have n0_:=qbb.mk (Kd.S_elder' (by(with_reducible repeat(first|apply Kd.S_alloc|apply Kd.S_drewN|apply Kd.S_drew));exact HO649.out) (Kd.S_base ho0) hb);have n1_:=qbb.mk (Kd.S_lower (Kd.S_new' ho0 (Kd.S_lt (by(with_reducible repeat(first|apply Kd.S_alloc|apply Kd.S_drewN|apply Kd.S_drew));exact HO649.out))) (qaj (by repeat(first|(with_reducible first|exact HB.out|apply qac|apply qaa|apply qab|refine qag ?_ GE645.out)|exact HB.out))));have n2_:=qbb.mk (qal (g:=gb645) (o:=.cells #[.slice A0_0 l0_0.length c0_0,.int .i64 a0_1] 73 (0,0)) (by(with_reducible repeat(first|refine qae ?_ _|refine qaf ?_|refine qad ?_ _));exact BK645.out) hb);have n3_:=qbb.mk (qak (by repeat(first|(with_reducible first|exact HB.out|apply qac|apply qaa|apply qab|refine qag ?_ GE645.out)|exact HB.out)) hb);clear HO649;clear BK645;clear HB;have HO649:=n0_;have HO654:=n1_;have BK645:=n2_;have HB:=n3_;clear n0_ n1_ n2_ n3_;(try clear hb);(try clear hb2);(try clear hk);(try clear hi);(try clear ho0))|((with_reducible refine qav (N:=5) rfl ?_);refine qat ?hg (N:=5) ?hd (cs:=#[.slice none 0 0,.int .i64 0]) (t:=68) ?hr ?_;(case hd=>rfl);(case hg=>rfl);(case hr=>first|(go_simp;done)|(go_simp;rfl));intro gb656 hg w38 hbox hb;have n0_:=qbb.mk (Kd.S_below (by(with_reducible repeat(first|apply Kd.S_alloc|apply Kd.S_drewN|apply Kd.S_drew));exact HO649.out) hb);have n1_:=qbb.mk (Kd.S_below (by(with_reducible repeat(first|apply Kd.S_alloc|apply Kd.S_drewN|apply Kd.S_drew));exact HO654.out) hb);have n2_:=qbb.mk (qal (g:=gb645) (o:=.cells #[.slice A0_0 l0_0.length c0_0,.int .i64 a0_1] 73 (0,0)) (by(with_reducible repeat(first|refine qae ?_ _|refine qaf ?_|refine qad ?_ _));exact BK645.out) hb);have n3_:=qbb.mk (qak (by repeat(first|(with_reducible first|exact HB.out|apply qac|apply qaa|apply qab|refine qag ?_ GE645.out)|exact HB.out)) hb);have n4_:=qbb.mk (hbox);have n5_:=qbb.mk ((by rw[hg];exact(qaj (by repeat(first|(with_reducible first|exact HB.out|apply qac|apply qaa|apply qab|refine qag ?_ GE645.out)|exact HB.out))):w.heap.size≤gb656));have n6_:=qbb.mk ((by rw[hg];exact(qaj (by repeat(first|(with_reducible first|exact HB.out|apply qac|apply qaa|apply qab|refine qag ?_ GE645.out)|exact HB.out))):w.heap.size≤gb656));have n7_:=qbb.mk ((by rw[hg];exact Nat.ne_of_lt (qbc (g:=gb645) (o:=.cells #[.slice A0_0 l0_0.length c0_0,.int .i64 a0_1] 73 (0,0)) (by(with_reducible repeat(first|refine qae ?_ _|refine qaf ?_|refine qad ?_ _));exact BK645.out)):gb645≠gb656));have n8_:=qbb.mk ((by rw[hg];exact Nat.ne_of_gt (qbc (g:=gb645) (o:=.cells #[.slice A0_0 l0_0.length c0_0,.int .i64 a0_1] 73 (0,0)) (by(with_reducible repeat(first|refine qae ?_ _|refine qaf ?_|refine qad ?_ _));exact BK645.out)):gb656≠gb645));clear HO649;clear HO654;clear BK645;clear HB;have HO649:=n0_;have HO654:=n1_;have BK645:=n2_;have HB:=n3_;have BK656:=n4_;have GW656:=n5_;have GE656:=n6_;have NB645_656:=n7_;have NB656_645:=n8_;clear n0_ n1_ n2_ n3_ n4_ n5_ n6_ n7_ n8_;clear hb hbox hg;obtain⟨Ao39,co39,eo39⟩:=Kd.S_slice HO654.out;subst eo39;have hnb40:=NB656_645.out;have hnc40:=NB645_656.out;have hcz41_0:w38.cell? ⟨gb656,0,none⟩=some (.slice none 0 0):=(qai BK656.out 0).trans rfl;have hcz41_1:w38.cell? ⟨gb656,1,none⟩=some (.int .i64 0):=(qai BK656.out 1).trans rfl;have hfz41_0:=qah BK656.out 0;have hfz41_1:=qah BK656.out 1)|((with_reducible refine qao (f:=42) rfl ?_);refine qax (some 18) rfl rfl Try.func42 (by kernel_rfl) rfl #[.agg #[.slice Ao39 t652.length co39,.int .i64 t655]] rfl (by(try simp only[List.map_toArray,List.map_cons,List.map_nil]);first|done|rfl|(simp only[List.length_drop,List.length_take];rfl)) ?_;(with_reducible refine(impl_LogOk.calls _ _ t652 t655 t657 _ ?side1 ?side2 A10.out).mono ?_);(case side1=>refine(Kd.S_reads' (e:=45) (base:=w.heap.size) (ok:=fun k_=>(True∧some k_≠(.slice Ao34 t647.length co34:Value).ownBlock)) (n:=t652.length) (c:=co39) ?_).2.2;exact(by(with_reducible repeat(first|apply Kd.S_alloc|apply Kd.S_drewN|apply Kd.S_drew));exact(Kd.S_mono (Kd.S_far (p:=⟨gb656,1,none⟩) (Kd.S_far (p:=⟨gb656,0,none⟩) (Kd.S_types HO654.out BK656.out (by decide)) (fun _ hk=>hk.2) (.slice Ao39 t652.length co39)) (fun _ hk=>hk.2) (.int .i64 t655)) (fun _ h_=>h_.1))));(case side2=>exact(Kd.S_reads' HO654.out).2.1);rintro e w42 ⟨rfl,hb⟩;refine⟨_,rfl,?_⟩;have n0_:=qbb.mk (Kd.S_below (by(with_reducible repeat(first|apply Kd.S_alloc|apply Kd.S_drewN|apply Kd.S_drew));exact(Kd.S_mono (Kd.S_far (p:=⟨gb656,1,none⟩) (Kd.S_far (p:=⟨gb656,0,none⟩) (Kd.S_types HO649.out BK656.out (by decide)) (fun _ hk=>hk.2) (.slice Ao39 t652.length co39)) (fun _ hk=>hk.2) (.int .i64 t655)) (fun _ h_=>h_.1))) hb);have n1_:=qbb.mk (Kd.S_below (by(with_reducible repeat(first|apply Kd.S_alloc|apply Kd.S_drewN|apply Kd.S_drew));exact(Kd.S_mono (Kd.S_far (p:=⟨gb656,1,none⟩) (Kd.S_far (p:=⟨gb656,0,none⟩) (Kd.S_types HO654.out BK656.out (by decide)) (fun _ hk=>hk.2) (.slice Ao39 t652.length co39)) (fun _ hk=>hk.2) (.int .i64 t655)) (fun _ h_=>h_.1))) hb);have n2_:=qbb.mk (qal (g:=gb645) (o:=.cells #[.slice A0_0 l0_0.length c0_0,.int .i64 a0_1] 73 (0,0)) (by(with_reducible repeat(first|refine qae ?_ _|refine qaf ?_|refine qad ?_ _));refine qap ?_ NB645_656.out _;(with_reducible repeat(first|refine qae ?_ _|refine qaf ?_|refine qad ?_ _));refine qap ?_ NB645_656.out _;(with_reducible repeat(first|refine qae ?_ _|refine qaf ?_|refine qad ?_ _));exact BK645.out) hb);have n3_:=qbb.mk (qal (g:=gb656) (o:=.cells #[.slice Ao39 t652.length co39,.int .i64 t655] 68 (0,0)) (by(with_reducible repeat(first|refine qae ?_ _|refine qaf ?_|refine qad ?_ _));refine qaq (cs:=#[.slice Ao39 t652.length co39,.int .i64 0]) ?_ 1 _ rfl;(with_reducible repeat(first|refine qae ?_ _|refine qaf ?_|refine qad ?_ _));refine qaq (cs:=#[.slice none 0 0,.int .i64 0]) ?_ 0 _ rfl;(with_reducible repeat(first|refine qae ?_ _|refine qaf ?_|refine qad ?_ _));exact BK656.out) hb);have n4_:=qbb.mk (qak (by repeat(first|(with_reducible first|exact HB.out|apply qac|apply qaa|apply qab|refine qag ?_ GE645.out|refine qag ?_ GE656.out)|exact HB.out)) hb);clear HO649;clear HO654;clear BK645;clear BK656;clear HB;have HO649:=n0_;have HO654:=n1_;have BK645:=n2_;have BK656:=n3_;have HB:=n4_;clear n0_ n1_ n2_ n3_ n4_;(try clear hb);(try clear hb2);(try clear hk);(try clear hi)))
    have n0_:=qbb.mk (Kd.S_drew HO649.out)
    have n1_:=qbb.mk (Kd.S_drew HO654.out)
    have n2_:=qbb.mk (qaf BK645.out)
    have n3_:=qbb.mk (qaf BK656.out)
    have n4_:=qbb.mk (qab HB.out)
    clear HO649
    clear HO654
    clear BK645
    clear BK656
    clear HB
    have HO649:=n0_
    have HO654:=n1_
    have BK645:=n2_
    have BK656:=n3_
    have HB:=n4_
    clear n0_ n1_ n2_ n3_ n4_
    refine start_ (n:=5) (S:=fun w'=>w'.cell? ⟨gb656,0,none⟩=some (.slice Ao39 t652.length co39)∧w'.cell? ⟨gb656,1,none⟩=some (.int .i64 t655)∧w'.cell? ⟨gb645,0,none⟩=some (.slice A0_0 l0_0.length c0_0)∧w'.cell? ⟨gb645,1,none⟩=some (.int .i64 a0_1)) (ds:=[]) #[false,false,false,false,false] (by kernel_rfl) rfl rfl ⟨(qai BK656.out 0).trans rfl,(qai BK656.out 1).trans rfl,(qai BK645.out 0).trans rfl,(qai BK645.out 1).trans rfl⟩ (fun hHeld=>?_)
    generalize w42.drew=w43 at HO649 HO654 BK645 BK656 HB hHeld ⊢
    refine take_ (i:=0) (N:=some 22) (v:=?_) (a':=?_) #[true,false,false,false,false] rfl rfl (by kernel_rfl) (fun _ _ _ h=>h) (Or.inl ⟨by rfl,?_⟩) hHeld ?_ ?_
    rotate_left
    ·rintro w' ⟨s0,s1,s2,s3⟩
     go_simp
     with_reducible rfl
    rotate_left
    ·simp only[Act.put,List.setIfInBounds_toArray,List.set_cons_zero,List.set_cons_succ,qay,qaz]
     rfl
    refine take_ (i:=1) (N:=some 23) (v:=?_) (a':=?_) #[true,true,false,false,false] rfl rfl (by kernel_rfl) (fun _ _ _ h=>h) (Or.inl ⟨by rfl,?_⟩) hHeld ?_ ?_
    rotate_left
    ·rintro w' ⟨s0,s1,s2,s3⟩
     go_simp
     with_reducible rfl
    rotate_left
    ·simp only[Act.put,List.setIfInBounds_toArray,List.set_cons_zero,List.set_cons_succ,qay,qaz]
     rfl
    refine one_ (i:=2) (N:=some 24) #[true,true,true,false,false] rfl rfl (by kernel_rfl) (by decide) (fun K hK=>?_)
    refine goes_ Try.func45 (by kernel_rfl) rfl #[.agg #[.slice A0_0 l0_0.length c0_0,.int .i64 a0_1]] (by rfl) rfl rfl (by(try simp only[List.map_toArray,List.map_cons,List.map_nil]);first|done|rfl|(simp only[List.length_drop,List.length_take];rfl)) ?_
    with_reducible refine(laws_toLog.calls k _ _ l0_0 a0_1 t658 t661 _ ?side1 ?side2 A26.out).mono ?_
    (case side1=>repeat(first|exact(Kd.C_below HR0_0.out HB.out)|(with_reducible refine Kd.C_alloc ?_ _)|(with_reducible refine Kd.C_drewN ?_ _)|(with_reducible refine Kd.C_drew ?_)))
    (case side2=>exact HC0_0.out)
    rintro e w44 ⟨v659,rfl,ho0,hb⟩
    refine⟨_,rfl,?_⟩
    have n0_:=qbb.mk (Kd.S_elder' (by(with_reducible repeat(first|apply Kd.S_alloc|apply Kd.S_drewN|apply Kd.S_drew));exact HO649.out) (Kd.S_base ho0) hb)
    have n1_:=qbb.mk (Kd.S_elder' (by(with_reducible repeat(first|apply Kd.S_alloc|apply Kd.S_drewN|apply Kd.S_drew));exact HO654.out) (Kd.S_base ho0) hb)
    have n2_:=qbb.mk (Kd.S_lower (Kd.S_new' (Kd.S_new' ho0 (Kd.S_lt (by(with_reducible repeat(first|apply Kd.S_alloc|apply Kd.S_drewN|apply Kd.S_drew));exact HO649.out))) (Kd.S_lt (by(with_reducible repeat(first|apply Kd.S_alloc|apply Kd.S_drewN|apply Kd.S_drew));exact HO654.out))) (qaj (by repeat(first|(with_reducible first|exact HB.out|apply qac|apply qaa|apply qab|refine qag ?_ GE645.out|refine qag ?_ GE656.out)|exact HB.out))))
    have n3_:=qbb.mk (qal (g:=gb645) (o:=.cells #[.slice A0_0 l0_0.length c0_0,.int .i64 a0_1] 73 (0,0)) (by(with_reducible repeat(first|refine qae ?_ _|refine qaf ?_|refine qad ?_ _));exact BK645.out) hb)
    have n4_:=qbb.mk (qal (g:=gb656) (o:=.cells #[.slice Ao39 t652.length co39,.int .i64 t655] 68 (0,0)) (by(with_reducible repeat(first|refine qae ?_ _|refine qaf ?_|refine qad ?_ _));exact BK656.out) hb)
    have n5_:=qbb.mk (qak (by repeat(first|(with_reducible first|exact HB.out|apply qac|apply qaa|apply qab|refine qag ?_ GE645.out|refine qag ?_ GE656.out)|exact HB.out)) hb)
    clear HO649
    clear HO654
    clear BK645
    clear BK656
    clear HB
    have HO649:=n0_
    have HO654:=n1_
    have HO660:=n2_
    have BK645:=n3_
    have BK656:=n4_
    have HB:=n5_
    clear n0_ n1_ n2_ n3_ n4_ n5_
    (try clear hb)
    (try clear hb2)
    (try clear hk)
    (try clear hi)
    (try clear ho0)
    obtain⟨Ao45,co45,eo45⟩:=Kd.S_slice HO660.out
    (first|subst eo45|(injection eo45 with f1_ f2_ f3_;have f4_:=f1_.symm;have f5_:=f3_.symm;clear f1_ f2_ f3_;subst f4_;subst f5_))
    refine hK.out _ _ ⟨(qai BK656.out 0).trans rfl,(qai BK656.out 1).trans rfl,(qai BK645.out 0).trans rfl,(qai BK645.out 1).trans rfl⟩ (fun hHeld=>?_)
    clear hK K
    refine norm_ (a':=?_) ?_ ?_
    rotate_left
    ·show Act.put _ (some 24) _=_
     simp only[Act.put,List.setIfInBounds_toArray,List.set_cons_zero,List.set_cons_succ,qay,qaz]
     rfl
    refine one_ (i:=3) (N:=some 25) #[true,true,true,true,false] rfl rfl (by kernel_rfl) (by decide) (fun K hK=>?_)
    refine goes_ Try.func46 (by kernel_rfl) rfl #[.agg #[.slice Ao39 t652.length co39,.int .i64 t655],.agg #[.slice Ao45 t658.length co45,.int .i64 t661]] (by rfl) rfl rfl (by(try simp only[List.map_toArray,List.map_cons,List.map_nil]);first|done|rfl|(simp only[List.length_drop,List.length_take];rfl)) ?_
    with_reducible refine(laws_eqLog.calls k _ _ t652 t655 _ _ t658 t661 true _ ?side1 ?side2 ?side3 ?side4 A27.out).mono ?_
    (case side1=>repeat(first|exact(Kd.S_reads' HO654.out).2.2|(with_reducible refine Kd.C_alloc ?_ _)|(with_reducible refine Kd.C_drewN ?_ _)|(with_reducible refine Kd.C_drew ?_)))
    (case side2=>exact(Kd.S_reads' HO654.out).2.1)
    (case side3=>repeat(first|exact(Kd.S_reads' HO660.out).2.2|(with_reducible refine Kd.C_alloc ?_ _)|(with_reducible refine Kd.C_drewN ?_ _)|(with_reducible refine Kd.C_drew ?_)))
    (case side4=>exact(Kd.S_reads' HO660.out).2.1)
    rintro e w46 ⟨rfl,hb⟩
    refine⟨_,rfl,?_⟩
    have n0_:=qbb.mk (Kd.S_below (by(with_reducible repeat(first|apply Kd.S_alloc|apply Kd.S_drewN|apply Kd.S_drew));exact HO649.out) hb)
    have n1_:=qbb.mk (Kd.S_below (by(with_reducible repeat(first|apply Kd.S_alloc|apply Kd.S_drewN|apply Kd.S_drew));exact HO654.out) hb)
    have n2_:=qbb.mk (Kd.S_below (by(with_reducible repeat(first|apply Kd.S_alloc|apply Kd.S_drewN|apply Kd.S_drew));exact HO660.out) hb)
    have n3_:=qbb.mk (qal (g:=gb645) (o:=.cells #[.slice A0_0 l0_0.length c0_0,.int .i64 a0_1] 73 (0,0)) (by(with_reducible repeat(first|refine qae ?_ _|refine qaf ?_|refine qad ?_ _));exact BK645.out) hb)
    have n4_:=qbb.mk (qal (g:=gb656) (o:=.cells #[.slice Ao39 t652.length co39,.int .i64 t655] 68 (0,0)) (by(with_reducible repeat(first|refine qae ?_ _|refine qaf ?_|refine qad ?_ _));exact BK656.out) hb)
    have n5_:=qbb.mk (qak (by repeat(first|(with_reducible first|exact HB.out|apply qac|apply qaa|apply qab|refine qag ?_ GE645.out|refine qag ?_ GE656.out)|exact HB.out)) hb)
    clear HO649
    clear HO654
    clear HO660
    clear BK645
    clear BK656
    clear HB
    have HO649:=n0_
    have HO654:=n1_
    have HO660:=n2_
    have BK645:=n3_
    have BK656:=n4_
    have HB:=n5_
    clear n0_ n1_ n2_ n3_ n4_ n5_
    (try clear hb)
    (try clear hb2)
    (try clear hk)
    (try clear hi)
    refine hK.out _ _ ⟨(qai BK656.out 0).trans rfl,(qai BK656.out 1).trans rfl,(qai BK645.out 0).trans rfl,(qai BK645.out 1).trans rfl⟩ (fun hHeld=>?_)
    clear hK K
    refine norm_ (a':=?_) ?_ ?_
    rotate_left
    ·show Act.put _ (some 25) _=_
     simp only[Act.put,List.setIfInBounds_toArray,List.set_cons_zero,List.set_cons_succ,qay,qaz]
     rfl
    refine qbd (i:=4) (N:=some 26) (v:=?_) (a':=?_) #[true,true,true,true,true] rfl rfl (by kernel_rfl) (fun _ _ _ h=>h) (Or.inl ⟨by rfl,?_⟩) ?_ ?_
    rotate_left
    ·intro w'
     go_simp
     with_reducible rfl
    rotate_left
    ·simp only[Act.put,List.setIfInBounds_toArray,List.set_cons_zero,List.set_cons_succ,qay,qaz]
     rfl
    refine done_ (by kernel_rfl) ?_
    try go_wp2
    go_ret
    exact⟨by first|rfl|(simp[qan,qam]<;>rfl)|(simp[*,qan,qam]<;>rfl),by repeat(first|(with_reducible first|exact HB.out|apply qac|apply qaa|apply qab|refine qag ?_ GE645.out|refine qag ?_ GE656.out)|exact HB.out)⟩
   ·replace c28:=Bool.eq_false_iff.mpr c28
    subst c28
    have H1:(some false)=some r:=by rw[if_neg (show ¬(false=true) by decide)] at H;exact H
    clear H
    have H:=H1
    clear H1
    obtain rfl:=Option.some.inj H
    go_enter Try.func14,Try.ntmps14
    try go_wp2_with(first|((with_reducible refine qav (N:=1) rfl ?_);refine qat ?hg (N:=1) ?hd (cs:=#[.slice A0_0 l0_0.length c0_0,.int .i64 a0_1]) (t:=73) ?hr ?_;(case hd=>rfl);(case hg=>rfl);(case hr=>first|(go_simp;done)|(go_simp;rfl));intro gb645 hg w47 hbox hb;have n0_:=qbb.mk (qak (by repeat(first|(with_reducible first|exact HB.out|apply qac|apply qaa|apply qab)|exact HB.out)) hb);have n1_:=qbb.mk (hbox);have n2_:=qbb.mk ((by rw[hg];exact(qaj (by repeat(first|(with_reducible first|exact HB.out|apply qac|apply qaa|apply qab)|exact HB.out))):w.heap.size≤gb645));have n3_:=qbb.mk ((by rw[hg];exact(qaj (by repeat(first|(with_reducible first|exact HB.out|apply qac|apply qaa|apply qab)|exact HB.out))):w.heap.size≤gb645));clear HB;have HB:=n0_;have BK645:=n1_;have GW645:=n2_;have GE645:=n3_;clear n0_ n1_ n2_ n3_;clear hb hbox hg;have hcz48_0:w47.cell? ⟨gb645,0,none⟩=some (.slice A0_0 l0_0.length c0_0):=(qai BK645.out 0).trans rfl;have hcz48_1:w47.cell? ⟨gb645,1,none⟩=some (.int .i64 a0_1):=(qai BK645.out 1).trans rfl;have hfz48_0:=qah BK645.out 0;have hfz48_1:=qah BK645.out 1)|((with_reducible refine qao (f:=44) rfl ?_);refine qax (some 9) rfl rfl Try.func44 (by kernel_rfl) rfl #[.agg #[.slice A0_0 l0_0.length c0_0,.int .i64 a0_1],.int .i64 1048576] rfl (by(try simp only[List.map_toArray,List.map_cons,List.map_nil]);first|done|rfl|(simp only[List.length_drop,List.length_take];rfl)) ?_;(with_reducible refine(laws_szLog.calls k _ _ l0_0 a0_1 1048576 t646 _ ?side1 ?side2 A2.out).mono ?_);(case side1=>repeat(first|exact(Kd.C_below HR0_0.out HB.out)|(with_reducible refine Kd.C_alloc ?_ _)|(with_reducible refine Kd.C_drewN ?_ _)|(with_reducible refine Kd.C_drew ?_)));(case side2=>exact HC0_0.out);rintro e w49 ⟨rfl,hb⟩;refine⟨_,rfl,?_⟩;have n0_:=qbb.mk (qal (g:=gb645) (o:=.cells #[.slice A0_0 l0_0.length c0_0,.int .i64 a0_1] 73 (0,0)) (by(with_reducible repeat(first|refine qae ?_ _|refine qaf ?_|refine qad ?_ _));exact BK645.out) hb);have n1_:=qbb.mk (qak (by repeat(first|(with_reducible first|exact HB.out|apply qac|apply qaa|apply qab|refine qag ?_ GE645.out)|exact HB.out)) hb);clear BK645;clear HB;have BK645:=n0_;have HB:=n1_;clear n0_ n1_;(try clear hb);(try clear hb2);(try clear hk);(try clear hi);have hcz50_0:w49.cell? ⟨gb645,0,none⟩=some (.slice A0_0 l0_0.length c0_0):=(qai BK645.out 0).trans rfl;have hcz50_1:w49.cell? ⟨gb645,1,none⟩=some (.int .i64 a0_1):=(qai BK645.out 1).trans rfl;have hfz50_0:=qah BK645.out 0;have hfz50_1:=qah BK645.out 1)|((with_reducible refine qao (f:=45) rfl ?_);refine qax (some 13) rfl rfl Try.func45 (by kernel_rfl) rfl #[.agg #[.slice A0_0 l0_0.length c0_0,.int .i64 a0_1]] rfl (by(try simp only[List.map_toArray,List.map_cons,List.map_nil]);first|done|rfl|(simp only[List.length_drop,List.length_take];rfl)) ?_;(with_reducible refine(laws_toLog.calls k _ _ l0_0 a0_1 t647 t650 _ ?side1 ?side2 A7.out).mono ?_);(case side1=>repeat(first|exact(Kd.C_below HR0_0.out HB.out)|(with_reducible refine Kd.C_alloc ?_ _)|(with_reducible refine Kd.C_drewN ?_ _)|(with_reducible refine Kd.C_drew ?_)));(case side2=>exact HC0_0.out);rintro e w51 ⟨v648,rfl,ho0,hb⟩;refine⟨_,rfl,?_⟩;have n0_:=qbb.mk (Kd.S_lower ho0 (qaj (by repeat(first|(with_reducible first|exact HB.out|apply qac|apply qaa|apply qab|refine qag ?_ GE645.out)|exact HB.out))));have n1_:=qbb.mk (qal (g:=gb645) (o:=.cells #[.slice A0_0 l0_0.length c0_0,.int .i64 a0_1] 73 (0,0)) (by(with_reducible repeat(first|refine qae ?_ _|refine qaf ?_|refine qad ?_ _));exact BK645.out) hb);have n2_:=qbb.mk (qak (by repeat(first|(with_reducible first|exact HB.out|apply qac|apply qaa|apply qab|refine qag ?_ GE645.out)|exact HB.out)) hb);clear BK645;clear HB;have HO649:=n0_;have BK645:=n1_;have HB:=n2_;clear n0_ n1_ n2_;(try clear hb);(try clear hb2);(try clear hk);(try clear hi);(try clear ho0);obtain⟨Ao52,co52,eo52⟩:=Kd.S_slice HO649.out;subst eo52)|((with_reducible refine qao (f:=43) rfl ?_);refine qax (some 14) rfl rfl Try.func43 (by kernel_rfl) rfl #[.agg #[.slice Ao52 t647.length co52,.int .i64 t650]] rfl (by(try simp only[List.map_toArray,List.map_cons,List.map_nil]);first|done|rfl|(simp only[List.length_drop,List.length_take];rfl)) ?_;(with_reducible refine(spec_LogOk.calls k _ _ t647 t650 t651 _ ?side1 ?side2 A8.out).mono ?_);(case side1=>repeat(first|exact(Kd.S_reads' HO649.out).2.2|(with_reducible refine Kd.C_alloc ?_ _)|(with_reducible refine Kd.C_drewN ?_ _)|(with_reducible refine Kd.C_drew ?_)));(case side2=>exact(Kd.S_reads' HO649.out).2.1);rintro e w53 ⟨rfl,hb⟩;refine⟨_,rfl,?_⟩;have n0_:=qbb.mk (Kd.S_below (by(with_reducible repeat(first|apply Kd.S_alloc|apply Kd.S_drewN|apply Kd.S_drew));exact HO649.out) hb);have n1_:=qbb.mk (qal (g:=gb645) (o:=.cells #[.slice A0_0 l0_0.length c0_0,.int .i64 a0_1] 73 (0,0)) (by(with_reducible repeat(first|refine qae ?_ _|refine qaf ?_|refine qad ?_ _));exact BK645.out) hb);have n2_:=qbb.mk (qak (by repeat(first|(with_reducible first|exact HB.out|apply qac|apply qaa|apply qab|refine qag ?_ GE645.out)|exact HB.out)) hb);clear HO649;clear BK645;clear HB;have HO649:=n0_;have BK645:=n1_;have HB:=n2_;clear n0_ n1_ n2_;(try clear hb);(try clear hb2);(try clear hk);(try clear hi);have hcz54_0:w53.cell? ⟨gb645,0,none⟩=some (.slice A0_0 l0_0.length c0_0):=(qai BK645.out 0).trans rfl;have hcz54_1:w53.cell? ⟨gb645,1,none⟩=some (.int .i64 a0_1):=(qai BK645.out 1).trans rfl;have hfz54_0:=qah BK645.out 0;have hfz54_1:=qah BK645.out 1)|((with_reducible refine qao (f:=45) rfl ?_);refine qax (some 16) rfl rfl Try.func45 (by kernel_rfl) rfl #[.agg #[.slice A0_0 l0_0.length c0_0,.int .i64 a0_1]] rfl (by(try simp only[List.map_toArray,List.map_cons,List.map_nil]);first|done|rfl|(simp only[List.length_drop,List.length_take];rfl)) ?_;(with_reducible refine(laws_toLog.calls k _ _ l0_0 a0_1 t652 t655 _ ?side1 ?side2 A9.out).mono ?_);(case side1=>repeat(first|exact(Kd.C_below HR0_0.out HB.out)|(with_reducible refine Kd.C_alloc ?_ _)|(with_reducible refine Kd.C_drewN ?_ _)|(with_reducible refine Kd.C_drew ?_)));(case side2=>exact HC0_0.out);rintro e w55 ⟨v653,rfl,ho0,hb⟩;refine⟨_,rfl,?_⟩;have n0_:=qbb.mk (Kd.S_elder' (by(with_reducible repeat(first|apply Kd.S_alloc|apply Kd.S_drewN|apply Kd.S_drew));exact HO649.out) (Kd.S_base ho0) hb);have n1_:=qbb.mk (Kd.S_lower (Kd.S_new' ho0 (Kd.S_lt (by(with_reducible repeat(first|apply Kd.S_alloc|apply Kd.S_drewN|apply Kd.S_drew));exact HO649.out))) (qaj (by repeat(first|(with_reducible first|exact HB.out|apply qac|apply qaa|apply qab|refine qag ?_ GE645.out)|exact HB.out))));have n2_:=qbb.mk (qal (g:=gb645) (o:=.cells #[.slice A0_0 l0_0.length c0_0,.int .i64 a0_1] 73 (0,0)) (by(with_reducible repeat(first|refine qae ?_ _|refine qaf ?_|refine qad ?_ _));exact BK645.out) hb);have n3_:=qbb.mk (qak (by repeat(first|(with_reducible first|exact HB.out|apply qac|apply qaa|apply qab|refine qag ?_ GE645.out)|exact HB.out)) hb);clear HO649;clear BK645;clear HB;have HO649:=n0_;have HO654:=n1_;have BK645:=n2_;have HB:=n3_;clear n0_ n1_ n2_ n3_;(try clear hb);(try clear hb2);(try clear hk);(try clear hi);(try clear ho0))|((with_reducible refine qav (N:=5) rfl ?_);refine qat ?hg (N:=5) ?hd (cs:=#[.slice none 0 0,.int .i64 0]) (t:=68) ?hr ?_;(case hd=>rfl);(case hg=>rfl);(case hr=>first|(go_simp;done)|(go_simp;rfl));intro gb656 hg w56 hbox hb;have n0_:=qbb.mk (Kd.S_below (by(with_reducible repeat(first|apply Kd.S_alloc|apply Kd.S_drewN|apply Kd.S_drew));exact HO649.out) hb);have n1_:=qbb.mk (Kd.S_below (by(with_reducible repeat(first|apply Kd.S_alloc|apply Kd.S_drewN|apply Kd.S_drew));exact HO654.out) hb);have n2_:=qbb.mk (qal (g:=gb645) (o:=.cells #[.slice A0_0 l0_0.length c0_0,.int .i64 a0_1] 73 (0,0)) (by(with_reducible repeat(first|refine qae ?_ _|refine qaf ?_|refine qad ?_ _));exact BK645.out) hb);have n3_:=qbb.mk (qak (by repeat(first|(with_reducible first|exact HB.out|apply qac|apply qaa|apply qab|refine qag ?_ GE645.out)|exact HB.out)) hb);have n4_:=qbb.mk (hbox);have n5_:=qbb.mk ((by rw[hg];exact(qaj (by repeat(first|(with_reducible first|exact HB.out|apply qac|apply qaa|apply qab|refine qag ?_ GE645.out)|exact HB.out))):w.heap.size≤gb656));have n6_:=qbb.mk ((by rw[hg];exact(qaj (by repeat(first|(with_reducible first|exact HB.out|apply qac|apply qaa|apply qab|refine qag ?_ GE645.out)|exact HB.out))):w.heap.size≤gb656));have n7_:=qbb.mk ((by rw[hg];exact Nat.ne_of_lt (qbc (g:=gb645) (o:=.cells #[.slice A0_0 l0_0.length c0_0,.int .i64 a0_1] 73 (0,0)) (by(with_reducible repeat(first|refine qae ?_ _|refine qaf ?_|refine qad ?_ _));exact BK645.out)):gb645≠gb656));have n8_:=qbb.mk ((by rw[hg];exact Nat.ne_of_gt (qbc (g:=gb645) (o:=.cells #[.slice A0_0 l0_0.length c0_0,.int .i64 a0_1] 73 (0,0)) (by(with_reducible repeat(first|refine qae ?_ _|refine qaf ?_|refine qad ?_ _));exact BK645.out)):gb656≠gb645));clear HO649;clear HO654;clear BK645;clear HB;have HO649:=n0_;have HO654:=n1_;have BK645:=n2_;have HB:=n3_;have BK656:=n4_;have GW656:=n5_;have GE656:=n6_;have NB645_656:=n7_;have NB656_645:=n8_;clear n0_ n1_ n2_ n3_ n4_ n5_ n6_ n7_ n8_;clear hb hbox hg;obtain⟨Ao57,co57,eo57⟩:=Kd.S_slice HO654.out;subst eo57;have hnb58:=NB656_645.out;have hnc58:=NB645_656.out;have hcz59_0:w56.cell? ⟨gb656,0,none⟩=some (.slice none 0 0):=(qai BK656.out 0).trans rfl;have hcz59_1:w56.cell? ⟨gb656,1,none⟩=some (.int .i64 0):=(qai BK656.out 1).trans rfl;have hfz59_0:=qah BK656.out 0;have hfz59_1:=qah BK656.out 1)|((with_reducible refine qao (f:=42) rfl ?_);refine qax (some 18) rfl rfl Try.func42 (by kernel_rfl) rfl #[.agg #[.slice Ao57 t652.length co57,.int .i64 t655]] rfl (by(try simp only[List.map_toArray,List.map_cons,List.map_nil]);first|done|rfl|(simp only[List.length_drop,List.length_take];rfl)) ?_;(with_reducible refine(impl_LogOk.calls _ _ t652 t655 t657 _ ?side1 ?side2 A10.out).mono ?_);(case side1=>refine(Kd.S_reads' (e:=45) (base:=w.heap.size) (ok:=fun k_=>(True∧some k_≠(.slice Ao52 t647.length co52:Value).ownBlock)) (n:=t652.length) (c:=co57) ?_).2.2;exact(by(with_reducible repeat(first|apply Kd.S_alloc|apply Kd.S_drewN|apply Kd.S_drew));exact(Kd.S_mono (Kd.S_far (p:=⟨gb656,1,none⟩) (Kd.S_far (p:=⟨gb656,0,none⟩) (Kd.S_types HO654.out BK656.out (by decide)) (fun _ hk=>hk.2) (.slice Ao57 t652.length co57)) (fun _ hk=>hk.2) (.int .i64 t655)) (fun _ h_=>h_.1))));(case side2=>exact(Kd.S_reads' HO654.out).2.1);rintro e w60 ⟨rfl,hb⟩;refine⟨_,rfl,?_⟩;have n0_:=qbb.mk (Kd.S_below (by(with_reducible repeat(first|apply Kd.S_alloc|apply Kd.S_drewN|apply Kd.S_drew));exact(Kd.S_mono (Kd.S_far (p:=⟨gb656,1,none⟩) (Kd.S_far (p:=⟨gb656,0,none⟩) (Kd.S_types HO649.out BK656.out (by decide)) (fun _ hk=>hk.2) (.slice Ao57 t652.length co57)) (fun _ hk=>hk.2) (.int .i64 t655)) (fun _ h_=>h_.1))) hb);have n1_:=qbb.mk (Kd.S_below (by(with_reducible repeat(first|apply Kd.S_alloc|apply Kd.S_drewN|apply Kd.S_drew));exact(Kd.S_mono (Kd.S_far (p:=⟨gb656,1,none⟩) (Kd.S_far (p:=⟨gb656,0,none⟩) (Kd.S_types HO654.out BK656.out (by decide)) (fun _ hk=>hk.2) (.slice Ao57 t652.length co57)) (fun _ hk=>hk.2) (.int .i64 t655)) (fun _ h_=>h_.1))) hb);have n2_:=qbb.mk (qal (g:=gb645) (o:=.cells #[.slice A0_0 l0_0.length c0_0,.int .i64 a0_1] 73 (0,0)) (by(with_reducible repeat(first|refine qae ?_ _|refine qaf ?_|refine qad ?_ _));refine qap ?_ NB645_656.out _;(with_reducible repeat(first|refine qae ?_ _|refine qaf ?_|refine qad ?_ _));refine qap ?_ NB645_656.out _;(with_reducible repeat(first|refine qae ?_ _|refine qaf ?_|refine qad ?_ _));exact BK645.out) hb);have n3_:=qbb.mk (qal (g:=gb656) (o:=.cells #[.slice Ao57 t652.length co57,.int .i64 t655] 68 (0,0)) (by(with_reducible repeat(first|refine qae ?_ _|refine qaf ?_|refine qad ?_ _));refine qaq (cs:=#[.slice Ao57 t652.length co57,.int .i64 0]) ?_ 1 _ rfl;(with_reducible repeat(first|refine qae ?_ _|refine qaf ?_|refine qad ?_ _));refine qaq (cs:=#[.slice none 0 0,.int .i64 0]) ?_ 0 _ rfl;(with_reducible repeat(first|refine qae ?_ _|refine qaf ?_|refine qad ?_ _));exact BK656.out) hb);have n4_:=qbb.mk (qak (by repeat(first|(with_reducible first|exact HB.out|apply qac|apply qaa|apply qab|refine qag ?_ GE645.out|refine qag ?_ GE656.out)|exact HB.out)) hb);clear HO649;clear HO654;clear BK645;clear BK656;clear HB;have HO649:=n0_;have HO654:=n1_;have BK645:=n2_;have BK656:=n3_;have HB:=n4_;clear n0_ n1_ n2_ n3_ n4_;(try clear hb);(try clear hb2);(try clear hk);(try clear hi)))
    have n0_:=qbb.mk (Kd.S_drew HO649.out)
    have n1_:=qbb.mk (Kd.S_drew HO654.out)
    have n2_:=qbb.mk (qaf BK645.out)
    have n3_:=qbb.mk (qaf BK656.out)
    have n4_:=qbb.mk (qab HB.out)
    clear HO649
    clear HO654
    clear BK645
    clear BK656
    clear HB
    have HO649:=n0_
    have HO654:=n1_
    have BK645:=n2_
    have BK656:=n3_
    have HB:=n4_
    clear n0_ n1_ n2_ n3_ n4_
    refine start_ (n:=5) (S:=fun w'=>w'.cell? ⟨gb656,0,none⟩=some (.slice Ao57 t652.length co57)∧w'.cell? ⟨gb656,1,none⟩=some (.int .i64 t655)∧w'.cell? ⟨gb645,0,none⟩=some (.slice A0_0 l0_0.length c0_0)∧w'.cell? ⟨gb645,1,none⟩=some (.int .i64 a0_1)) (ds:=[]) #[false,false,false,false,false] (by kernel_rfl) rfl rfl ⟨(qai BK656.out 0).trans rfl,(qai BK656.out 1).trans rfl,(qai BK645.out 0).trans rfl,(qai BK645.out 1).trans rfl⟩ (fun hHeld=>?_)
    generalize w60.drew=w61 at HO649 HO654 BK645 BK656 HB hHeld ⊢
    refine take_ (i:=0) (N:=some 22) (v:=?_) (a':=?_) #[true,false,false,false,false] rfl rfl (by kernel_rfl) (fun _ _ _ h=>h) (Or.inl ⟨by rfl,?_⟩) hHeld ?_ ?_
    rotate_left
    ·rintro w' ⟨s0,s1,s2,s3⟩
     go_simp
     with_reducible rfl
    rotate_left
    ·simp only[Act.put,List.setIfInBounds_toArray,List.set_cons_zero,List.set_cons_succ,qay,qaz]
     rfl
    refine take_ (i:=1) (N:=some 23) (v:=?_) (a':=?_) #[true,true,false,false,false] rfl rfl (by kernel_rfl) (fun _ _ _ h=>h) (Or.inl ⟨by rfl,?_⟩) hHeld ?_ ?_
    rotate_left
    ·rintro w' ⟨s0,s1,s2,s3⟩
     go_simp
     with_reducible rfl
    rotate_left
    ·simp only[Act.put,List.setIfInBounds_toArray,List.set_cons_zero,List.set_cons_succ,qay,qaz]
     rfl
    refine one_ (i:=2) (N:=some 24) #[true,true,true,false,false] rfl rfl (by kernel_rfl) (by decide) (fun K hK=>?_)
    refine goes_ Try.func45 (by kernel_rfl) rfl #[.agg #[.slice A0_0 l0_0.length c0_0,.int .i64 a0_1]] (by rfl) rfl rfl (by(try simp only[List.map_toArray,List.map_cons,List.map_nil]);first|done|rfl|(simp only[List.length_drop,List.length_take];rfl)) ?_
    with_reducible refine(laws_toLog.calls k _ _ l0_0 a0_1 t658 t661 _ ?side1 ?side2 A26.out).mono ?_
    (case side1=>repeat(first|exact(Kd.C_below HR0_0.out HB.out)|(with_reducible refine Kd.C_alloc ?_ _)|(with_reducible refine Kd.C_drewN ?_ _)|(with_reducible refine Kd.C_drew ?_)))
    (case side2=>exact HC0_0.out)
    rintro e w62 ⟨v659,rfl,ho0,hb⟩
    refine⟨_,rfl,?_⟩
    have n0_:=qbb.mk (Kd.S_elder' (by(with_reducible repeat(first|apply Kd.S_alloc|apply Kd.S_drewN|apply Kd.S_drew));exact HO649.out) (Kd.S_base ho0) hb)
    have n1_:=qbb.mk (Kd.S_elder' (by(with_reducible repeat(first|apply Kd.S_alloc|apply Kd.S_drewN|apply Kd.S_drew));exact HO654.out) (Kd.S_base ho0) hb)
    have n2_:=qbb.mk (Kd.S_lower (Kd.S_new' (Kd.S_new' ho0 (Kd.S_lt (by(with_reducible repeat(first|apply Kd.S_alloc|apply Kd.S_drewN|apply Kd.S_drew));exact HO649.out))) (Kd.S_lt (by(with_reducible repeat(first|apply Kd.S_alloc|apply Kd.S_drewN|apply Kd.S_drew));exact HO654.out))) (qaj (by repeat(first|(with_reducible first|exact HB.out|apply qac|apply qaa|apply qab|refine qag ?_ GE645.out|refine qag ?_ GE656.out)|exact HB.out))))
    have n3_:=qbb.mk (qal (g:=gb645) (o:=.cells #[.slice A0_0 l0_0.length c0_0,.int .i64 a0_1] 73 (0,0)) (by(with_reducible repeat(first|refine qae ?_ _|refine qaf ?_|refine qad ?_ _));exact BK645.out) hb)
    have n4_:=qbb.mk (qal (g:=gb656) (o:=.cells #[.slice Ao57 t652.length co57,.int .i64 t655] 68 (0,0)) (by(with_reducible repeat(first|refine qae ?_ _|refine qaf ?_|refine qad ?_ _));exact BK656.out) hb)
    have n5_:=qbb.mk (qak (by repeat(first|(with_reducible first|exact HB.out|apply qac|apply qaa|apply qab|refine qag ?_ GE645.out|refine qag ?_ GE656.out)|exact HB.out)) hb)
    clear HO649
    clear HO654
    clear BK645
    clear BK656
    clear HB
    have HO649:=n0_
    have HO654:=n1_
    have HO660:=n2_
    have BK645:=n3_
    have BK656:=n4_
    have HB:=n5_
    clear n0_ n1_ n2_ n3_ n4_ n5_
    (try clear hb)
    (try clear hb2)
    (try clear hk)
    (try clear hi)
    (try clear ho0)
    obtain⟨Ao63,co63,eo63⟩:=Kd.S_slice HO660.out
    (first|subst eo63|(injection eo63 with f1_ f2_ f3_;have f4_:=f1_.symm;have f5_:=f3_.symm;clear f1_ f2_ f3_;subst f4_;subst f5_))
    refine hK.out _ _ ⟨(qai BK656.out 0).trans rfl,(qai BK656.out 1).trans rfl,(qai BK645.out 0).trans rfl,(qai BK645.out 1).trans rfl⟩ (fun hHeld=>?_)
    clear hK K
    refine norm_ (a':=?_) ?_ ?_
    rotate_left
    ·show Act.put _ (some 24) _=_
     simp only[Act.put,List.setIfInBounds_toArray,List.set_cons_zero,List.set_cons_succ,qay,qaz]
     rfl
    refine one_ (i:=3) (N:=some 25) #[true,true,true,true,false] rfl rfl (by kernel_rfl) (by decide) (fun K hK=>?_)
    refine goes_ Try.func46 (by kernel_rfl) rfl #[.agg #[.slice Ao57 t652.length co57,.int .i64 t655],.agg #[.slice Ao63 t658.length co63,.int .i64 t661]] (by rfl) rfl rfl (by(try simp only[List.map_toArray,List.map_cons,List.map_nil]);first|done|rfl|(simp only[List.length_drop,List.length_take];rfl)) ?_
    with_reducible refine(laws_eqLog.calls k _ _ t652 t655 _ _ t658 t661 false _ ?side1 ?side2 ?side3 ?side4 A27.out).mono ?_
    (case side1=>repeat(first|exact(Kd.S_reads' HO654.out).2.2|(with_reducible refine Kd.C_alloc ?_ _)|(with_reducible refine Kd.C_drewN ?_ _)|(with_reducible refine Kd.C_drew ?_)))
    (case side2=>exact(Kd.S_reads' HO654.out).2.1)
    (case side3=>repeat(first|exact(Kd.S_reads' HO660.out).2.2|(with_reducible refine Kd.C_alloc ?_ _)|(with_reducible refine Kd.C_drewN ?_ _)|(with_reducible refine Kd.C_drew ?_)))
    (case side4=>exact(Kd.S_reads' HO660.out).2.1)
    rintro e w64 ⟨rfl,hb⟩
    refine⟨_,rfl,?_⟩
    have n0_:=qbb.mk (Kd.S_below (by(with_reducible repeat(first|apply Kd.S_alloc|apply Kd.S_drewN|apply Kd.S_drew));exact HO649.out) hb)
    have n1_:=qbb.mk (Kd.S_below (by(with_reducible repeat(first|apply Kd.S_alloc|apply Kd.S_drewN|apply Kd.S_drew));exact HO654.out) hb)
    have n2_:=qbb.mk (Kd.S_below (by(with_reducible repeat(first|apply Kd.S_alloc|apply Kd.S_drewN|apply Kd.S_drew));exact HO660.out) hb)
    have n3_:=qbb.mk (qal (g:=gb645) (o:=.cells #[.slice A0_0 l0_0.length c0_0,.int .i64 a0_1] 73 (0,0)) (by(with_reducible repeat(first|refine qae ?_ _|refine qaf ?_|refine qad ?_ _));exact BK645.out) hb)
    have n4_:=qbb.mk (qal (g:=gb656) (o:=.cells #[.slice Ao57 t652.length co57,.int .i64 t655] 68 (0,0)) (by(with_reducible repeat(first|refine qae ?_ _|refine qaf ?_|refine qad ?_ _));exact BK656.out) hb)
    have n5_:=qbb.mk (qak (by repeat(first|(with_reducible first|exact HB.out|apply qac|apply qaa|apply qab|refine qag ?_ GE645.out|refine qag ?_ GE656.out)|exact HB.out)) hb)
    clear HO649
    clear HO654
    clear HO660
    clear BK645
    clear BK656
    clear HB
    have HO649:=n0_
    have HO654:=n1_
    have HO660:=n2_
    have BK645:=n3_
    have BK656:=n4_
    have HB:=n5_
    clear n0_ n1_ n2_ n3_ n4_ n5_
    (try clear hb)
    (try clear hb2)
    (try clear hk)
    (try clear hi)
    refine hK.out _ _ ⟨(qai BK656.out 0).trans rfl,(qai BK656.out 1).trans rfl,(qai BK645.out 0).trans rfl,(qai BK645.out 1).trans rfl⟩ (fun hHeld=>?_)
    clear hK K
    refine norm_ (a':=?_) ?_ ?_
    rotate_left
    ·show Act.put _ (some 25) _=_
     simp only[Act.put,List.setIfInBounds_toArray,List.set_cons_zero,List.set_cons_succ,qay,qaz]
     rfl
    refine qbd (i:=4) (N:=some 26) (v:=?_) (a':=?_) #[true,true,true,true,true] rfl rfl (by kernel_rfl) (fun _ _ _ h=>h) (Or.inl ⟨by rfl,?_⟩) ?_ ?_
    rotate_left
    ·intro w'
     go_simp
     with_reducible rfl
    rotate_left
    ·simp only[Act.put,List.setIfInBounds_toArray,List.set_cons_zero,List.set_cons_succ,qay,qaz]
     rfl
    refine done_ (by kernel_rfl) ?_
    try go_wp2
    go_ret
    exact⟨by first|rfl|(simp[qan,qam]<;>rfl)|(simp[*,qan,qam]<;>rfl),by repeat(first|(with_reducible first|exact HB.out|apply qac|apply qaa|apply qab|refine qag ?_ GE645.out|refine qag ?_ GE656.out)|exact HB.out)⟩
end Go.Proofs.Ytkbjgmfghhgodaa.Print
