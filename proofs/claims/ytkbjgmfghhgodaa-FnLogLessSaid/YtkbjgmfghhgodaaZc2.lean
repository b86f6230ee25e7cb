-- Written by squeeze.py, a program of this session, out of what print.sh and myprint.py had printed: cut to what is used, narrowed. Not trusted, Lean checks it.
import Derived.Test.YtkbjgmfghhgodaaZK
import Derived.Test.YtkbjgmfghhgodaaZc0
import Derived.Test.YtkbjgmfghhgodaaZc1
namespace Go.Proofs.Ytkbjgmfghhgodaa.Print
open Go.RowKit Go.Proofs.YtkbjgmfghhgodaaW.PrintWords Go.Proofs.YtkbjgmfghhgodaaW.PrintLast Go.Proofs.YtkbjgmfghhgodaaW.PrintMore
attribute [local go_sem] max2_int min2_int max_two min_two max_three min_three max_four min_four
set_option linter.unusedVariables false
set_option linter.unusedSimpArgs false
def laws_FnExactWordOk.f (k:Nat) (a0_0:Int) (a0_1:Int) (a0_2:Int) (a0_3:Int):Option (Bool):=(laws_toWord.f a0_0 a0_1 a0_2 a0_3).bind fun bt120=>((spec_WordOk.f k bt120.1 bt120.2.1 bt120.2.2.1 bt120.2.2.2).bind fun t124=>((laws_toWord.f a0_0 a0_1 a0_2 a0_3).bind fun bt125=>((impl_WordOk.f bt125.1 bt125.2.1 bt125.2.2.1 bt125.2.2.2).bind fun t129=>(if(t129 != t124)=true then(some false) else(some true)))))
theorem laws_FnExactWordOk.mono:∀a0 a1 a2 a3 k,LeO (laws_FnExactWordOk.f k a0 a1 a2 a3) (laws_FnExactWordOk.f (k+1) a0 a1 a2 a3):=by
 intro a0 a1 a2 a3 k
 unfold laws_FnExactWordOk.f
 repeat' first
   |(with_reducible exact spec_WordOk.mono _ _ _ _ _)
   |(with_reducible exact LeO.refl _)
   |(with_reducible exact LeO.none _)
   |(with_reducible refine LeO.ite ?_ ?_)
   |(with_reducible refine LeO.bind ?_ (fun _=>?_))
   |exact spec_WordOk.mono _ _ _ _ _
   |exact LeO.none _
   |refine LeO.ite ?_ ?_
   |refine LeO.bind ?_ (fun _=>?_)
set_option maxHeartbeats 8000000 in
set_option maxRecDepth 100000 in
theorem laws_FnExactWordOk.calls (k:Nat) (a0_0:Int) (a0_1:Int) (a0_2:Int) (a0_3:Int) (r:Bool) (w:World) (h:laws_FnExactWordOk.f k a0_0 a0_1 a0_2 a0_3=some r) :
  Calls Try.prog 4 #[.agg #[.int .i64 a0_0,.int .i64 a0_1,.int .i64 a0_2,.int .i64 a0_3]] w fun e w'=>e=.returned (.bool r)∧Below w.heap.size w w':=by
 have hu24:=Try.underlying24
 have HB:=qbb.mk (Below.refl w.heap.size w)
 have H:((laws_toWord.f a0_0 a0_1 a0_2 a0_3).bind fun bt120=>((spec_WordOk.f k bt120.1 bt120.2.1 bt120.2.2.1 bt120.2.2.2).bind fun t124=>((laws_toWord.f a0_0 a0_1 a0_2 a0_3).bind fun bt125=>((impl_WordOk.f bt125.1 bt125.2.1 bt125.2.2.1 bt125.2.2.2).bind fun t129=>(if(t129 != t124)=true then(some false) else(some true))))))=some r:=h
 clear h
 replace H:=Option.bind_eq_some_iff.mp H
 obtain⟨⟨t120,t121,t122,t123⟩,A20,H⟩:=H
 replace H:((spec_WordOk.f k t120 t121 t122 t123).bind fun t124=>((laws_toWord.f a0_0 a0_1 a0_2 a0_3).bind fun bt125=>((impl_WordOk.f bt125.1 bt125.2.1 bt125.2.2.1 bt125.2.2.2).bind fun t129=>(if(t129 != t124)=true then(some false) else(some true)))))=some r:=H
 have A2:=qbb.mk A20
 clear A20
 replace H:=Option.bind_eq_some_iff.mp H
 obtain⟨t124,A30,H⟩:=H
 replace H:((laws_toWord.f a0_0 a0_1 a0_2 a0_3).bind fun bt125=>((impl_WordOk.f bt125.1 bt125.2.1 bt125.2.2.1 bt125.2.2.2).bind fun t129=>(if(t129 != t124)=true then(some false) else(some true))))=some r:=H
 have A3:=qbb.mk A30
 clear A30
 replace H:=Option.bind_eq_some_iff.mp H
 obtain⟨⟨t125,t126,t127,t128⟩,A40,H⟩:=H
 replace H:((impl_WordOk.f t125 t126 t127 t128).bind fun t129=>(if(t129 != t124)=true then(some false) else(some true)))=some r:=H
 have A4:=qbb.mk A40
 clear A40
 replace H:=Option.bind_eq_some_iff.mp H
 obtain⟨t129,A50,H⟩:=H
 replace H:(if(t129 != t124)=true then(some false) else(some true))=some r:=H
 have A5:=qbb.mk A50
 clear A50
 by_cases c6:(t129 != t124)=true
 ·rw[if_pos c6] at H
  have c6b0:(t129 != t124)=true:=c6
  (try(have c6b1:decide (t129=t124)=false:=by simpa using c6))
  (try(have c6b2:(t129 == t124)=false:=by simpa using c6))
  (try(have c6b3:¬(t129=t124):=by simpa using c6))
  clear c6
  obtain rfl:=Option.some.inj H
  go_enter Try.func4,Try.ntmps4
  go_wp2_with(first|((with_reducible refine qav (N:=1) rfl ?_);refine qat ?hg (N:=1) ?hd (cs:=#[.int .i64 a0_0,.int .i64 a0_1,.int .i64 a0_2,.int .i64 a0_3]) (t:=24) ?hr ?_;(case hd=>rfl);(case hg=>rfl);(case hr=>first|(go_simp;done)|(go_simp;rfl));intro gb119 hg w7 hbox hb;have n0_:=qbb.mk (qak (by repeat(first|(with_reducible first|exact HB.out|apply qac|apply qaa|apply qab)|exact HB.out)) hb);have n1_:=qbb.mk (hbox);have n2_:=qbb.mk ((by rw[hg];exact(qaj (by repeat(first|(with_reducible first|exact HB.out|apply qac|apply qaa|apply qab)|exact HB.out))):w.heap.size≤gb119));have n3_:=qbb.mk ((by rw[hg];exact(qaj (by repeat(first|(with_reducible first|exact HB.out|apply qac|apply qaa|apply qab)|exact HB.out))):w.heap.size≤gb119));clear HB;have HB:=n0_;have BK119:=n1_;have GW119:=n2_;have GE119:=n3_;clear n0_ n1_ n2_ n3_;clear hb hbox hg;have hcz8_0:w7.cell? ⟨gb119,0,none⟩=some (.int .i64 a0_0):=(qai BK119.out 0).trans rfl;have hcz8_1:w7.cell? ⟨gb119,1,none⟩=some (.int .i64 a0_1):=(qai BK119.out 1).trans rfl;have hcz8_2:w7.cell? ⟨gb119,2,none⟩=some (.int .i64 a0_2):=(qai BK119.out 2).trans rfl;have hcz8_3:w7.cell? ⟨gb119,3,none⟩=some (.int .i64 a0_3):=(qai BK119.out 3).trans rfl;have hfz8_0:=qah BK119.out 0;have hfz8_1:=qah BK119.out 1;have hfz8_2:=qah BK119.out 2;have hfz8_3:=qah BK119.out 3)|((with_reducible refine qao (f:=16) rfl ?_);refine qax (some 6) rfl rfl Try.func16 (by kernel_rfl) rfl #[.agg #[.int .i64 a0_0,.int .i64 a0_1,.int .i64 a0_2,.int .i64 a0_3]] rfl (by(try simp only[List.map_toArray,List.map_cons,List.map_nil]);first|done|rfl|(simp only[List.length_drop,List.length_take];rfl)) ?_;(with_reducible refine(laws_toWord.calls a0_0 a0_1 a0_2 a0_3 t120 t121 t122 t123 _ A2.out).mono ?_);rintro e w9 ⟨rfl,hb⟩;refine⟨_,rfl,?_⟩;have n0_:=qbb.mk (qal (g:=gb119) (o:=.cells #[.int .i64 a0_0,.int .i64 a0_1,.int .i64 a0_2,.int .i64 a0_3] 24 (0,0)) (by(with_reducible repeat(first|refine qae ?_ _|refine qaf ?_|refine qad ?_ _));exact BK119.out) hb);have n1_:=qbb.mk (qak (by repeat(first|(with_reducible first|exact HB.out|apply qac|apply qaa|apply qab|refine qag ?_ GE119.out)|exact HB.out)) hb);clear BK119;clear HB;have BK119:=n0_;have HB:=n1_;clear n0_ n1_;(try clear hb);(try clear hb2);(try clear hk);(try clear hi))|((with_reducible refine qao (f:=15) rfl ?_);refine qax (some 7) rfl rfl Try.func15 (by kernel_rfl) rfl #[.agg #[.int .i64 t120,.int .i64 t121,.int .i64 t122,.int .i64 t123]] rfl (by(try simp only[List.map_toArray,List.map_cons,List.map_nil]);first|done|rfl|(simp only[List.length_drop,List.length_take];rfl)) ?_;(with_reducible refine(spec_WordOk.calls k t120 t121 t122 t123 t124 _ A3.out).mono ?_);rintro e w10 ⟨rfl,hb⟩;refine⟨_,rfl,?_⟩;have n0_:=qbb.mk (qal (g:=gb119) (o:=.cells #[.int .i64 a0_0,.int .i64 a0_1,.int .i64 a0_2,.int .i64 a0_3] 24 (0,0)) (by(with_reducible repeat(first|refine qae ?_ _|refine qaf ?_|refine qad ?_ _));exact BK119.out) hb);have n1_:=qbb.mk (qak (by repeat(first|(with_reducible first|exact HB.out|apply qac|apply qaa|apply qab|refine qag ?_ GE119.out)|exact HB.out)) hb);clear BK119;clear HB;have BK119:=n0_;have HB:=n1_;clear n0_ n1_;(try clear hb);(try clear hb2);(try clear hk);(try clear hi);have hcz11_0:w10.cell? ⟨gb119,0,none⟩=some (.int .i64 a0_0):=(qai BK119.out 0).trans rfl;have hcz11_1:w10.cell? ⟨gb119,1,none⟩=some (.int .i64 a0_1):=(qai BK119.out 1).trans rfl;have hcz11_2:w10.cell? ⟨gb119,2,none⟩=some (.int .i64 a0_2):=(qai BK119.out 2).trans rfl;have hcz11_3:w10.cell? ⟨gb119,3,none⟩=some (.int .i64 a0_3):=(qai BK119.out 3).trans rfl;have hfz11_0:=qah BK119.out 0;have hfz11_1:=qah BK119.out 1;have hfz11_2:=qah BK119.out 2;have hfz11_3:=qah BK119.out 3)|((with_reducible refine qao (f:=16) rfl ?_);refine qax (some 9) rfl rfl Try.func16 (by kernel_rfl) rfl #[.agg #[.int .i64 a0_0,.int .i64 a0_1,.int .i64 a0_2,.int .i64 a0_3]] rfl (by(try simp only[List.map_toArray,List.map_cons,List.map_nil]);first|done|rfl|(simp only[List.length_drop,List.length_take];rfl)) ?_;(with_reducible refine(laws_toWord.calls a0_0 a0_1 a0_2 a0_3 t125 t126 t127 t128 _ A4.out).mono ?_);rintro e w12 ⟨rfl,hb⟩;refine⟨_,rfl,?_⟩;have n0_:=qbb.mk (qal (g:=gb119) (o:=.cells #[.int .i64 a0_0,.int .i64 a0_1,.int .i64 a0_2,.int .i64 a0_3] 24 (0,0)) (by(with_reducible repeat(first|refine qae ?_ _|refine qaf ?_|refine qad ?_ _));exact BK119.out) hb);have n1_:=qbb.mk (qak (by repeat(first|(with_reducible first|exact HB.out|apply qac|apply qaa|apply qab|refine qag ?_ GE119.out)|exact HB.out)) hb);clear BK119;clear HB;have BK119:=n0_;have HB:=n1_;clear n0_ n1_;(try clear hb);(try clear hb2);(try clear hk);(try clear hi))|((with_reducible refine qao (f:=17) rfl ?_);refine qax (some 10) rfl rfl Try.func17 (by kernel_rfl) rfl #[.agg #[.int .i64 t125,.int .i64 t126,.int .i64 t127,.int .i64 t128]] rfl (by(try simp only[List.map_toArray,List.map_cons,List.map_nil]);first|done|rfl|(simp only[List.length_drop,List.length_take];rfl)) ?_;(with_reducible refine(impl_WordOk.calls t125 t126 t127 t128 t129 _ A5.out).mono ?_);rintro e w13 ⟨rfl,hb⟩;refine⟨_,rfl,?_⟩;have n0_:=qbb.mk (qal (g:=gb119) (o:=.cells #[.int .i64 a0_0,.int .i64 a0_1,.int .i64 a0_2,.int .i64 a0_3] 24 (0,0)) (by(with_reducible repeat(first|refine qae ?_ _|refine qaf ?_|refine qad ?_ _));exact BK119.out) hb);have n1_:=qbb.mk (qak (by repeat(first|(with_reducible first|exact HB.out|apply qac|apply qaa|apply qab|refine qag ?_ GE119.out)|exact HB.out)) hb);clear BK119;clear HB;have BK119:=n0_;have HB:=n1_;clear n0_ n1_;(try clear hb);(try clear hb2);(try clear hk);(try clear hi)))
  go_ret
  exact⟨by first|rfl|(simp[qan,qam]<;>rfl)|(simp[*,qan,qam]<;>rfl),by repeat(first|(with_reducible first|exact HB.out|apply qac|apply qaa|apply qab|refine qag ?_ GE119.out)|exact HB.out)⟩
 ·rw[if_neg c6] at H
  have c6b0:(t129 != t124)=false:=by simpa using c6
  (try(have c6b1:decide (t129=t124)=true:=by simpa using c6))
  (try(have c6b2:(t129 == t124)=true:=by simpa using c6))
  clear c6
  obtain rfl:=Option.some.inj H
  go_enter Try.func4,Try.ntmps4
  go_wp2_with(first|((with_reducible refine qav (N:=1) rfl ?_);refine qat ?hg (N:=1) ?hd (cs:=#[.int .i64 a0_0,.int .i64 a0_1,.int .i64 a0_2,.int .i64 a0_3]) (t:=24) ?hr ?_;(case hd=>rfl);(case hg=>rfl);(case hr=>first|(go_simp;done)|(go_simp;rfl));intro gb119 hg w14 hbox hb;have n0_:=qbb.mk (qak (by repeat(first|(with_reducible first|exact HB.out|apply qac|apply qaa|apply qab)|exact HB.out)) hb);have n1_:=qbb.mk (hbox);have n2_:=qbb.mk ((by rw[hg];exact(qaj (by repeat(first|(with_reducible first|exact HB.out|apply qac|apply qaa|apply qab)|exact HB.out))):w.heap.size≤gb119));have n3_:=qbb.mk ((by rw[hg];exact(qaj (by repeat(first|(with_reducible first|exact HB.out|apply qac|apply qaa|apply qab)|exact HB.out))):w.heap.size≤gb119));clear HB;have HB:=n0_;have BK119:=n1_;have GW119:=n2_;have GE119:=n3_;clear n0_ n1_ n2_ n3_;clear hb hbox hg;have hcz15_0:w14.cell? ⟨gb119,0,none⟩=some (.int .i64 a0_0):=(qai BK119.out 0).trans rfl;have hcz15_1:w14.cell? ⟨gb119,1,none⟩=some (.int .i64 a0_1):=(qai BK119.out 1).trans rfl;have hcz15_2:w14.cell? ⟨gb119,2,none⟩=some (.int .i64 a0_2):=(qai BK119.out 2).trans rfl;have hcz15_3:w14.cell? ⟨gb119,3,none⟩=some (.int .i64 a0_3):=(qai BK119.out 3).trans rfl;have hfz15_0:=qah BK119.out 0;have hfz15_1:=qah BK119.out 1;have hfz15_2:=qah BK119.out 2;have hfz15_3:=qah BK119.out 3)|((with_reducible refine qao (f:=16) rfl ?_);refine qax (some 6) rfl rfl Try.func16 (by kernel_rfl) rfl #[.agg #[.int .i64 a0_0,.int .i64 a0_1,.int .i64 a0_2,.int .i64 a0_3]] rfl (by(try simp only[List.map_toArray,List.map_cons,List.map_nil]);first|done|rfl|(simp only[List.length_drop,List.length_take];rfl)) ?_;(with_reducible refine(laws_toWord.calls a0_0 a0_1 a0_2 a0_3 t120 t121 t122 t123 _ A2.out).mono ?_);rintro e w16 ⟨rfl,hb⟩;refine⟨_,rfl,?_⟩;have n0_:=qbb.mk (qal (g:=gb119) (o:=.cells #[.int .i64 a0_0,.int .i64 a0_1,.int .i64 a0_2,.int .i64 a0_3] 24 (0,0)) (by(with_reducible repeat(first|refine qae ?_ _|refine qaf ?_|refine qad ?_ _));exact BK119.out) hb);have n1_:=qbb.mk (qak (by repeat(first|(with_reducible first|exact HB.out|apply qac|apply qaa|apply qab|refine qag ?_ GE119.out)|exact HB.out)) hb);clear BK119;clear HB;have BK119:=n0_;have HB:=n1_;clear n0_ n1_;(try clear hb);(try clear hb2);(try clear hk);(try clear hi))|((with_reducible refine qao (f:=15) rfl ?_);refine qax (some 7) rfl rfl Try.func15 (by kernel_rfl) rfl #[.agg #[.int .i64 t120,.int .i64 t121,.int .i64 t122,.int .i64 t123]] rfl (by(try simp only[List.map_toArray,List.map_cons,List.map_nil]);first|done|rfl|(simp only[List.length_drop,List.length_take];rfl)) ?_;(with_reducible refine(spec_WordOk.calls k t120 t121 t122 t123 t124 _ A3.out).mono ?_);rintro e w17 ⟨rfl,hb⟩;refine⟨_,rfl,?_⟩;have n0_:=qbb.mk (qal (g:=gb119) (o:=.cells #[.int .i64 a0_0,.int .i64 a0_1,.int .i64 a0_2,.int .i64 a0_3] 24 (0,0)) (by(with_reducible repeat(first|refine qae ?_ _|refine qaf ?_|refine qad ?_ _));exact BK119.out) hb);have n1_:=qbb.mk (qak (by repeat(first|(with_reducible first|exact HB.out|apply qac|apply qaa|apply qab|refine qag ?_ GE119.out)|exact HB.out)) hb);clear BK119;clear HB;have BK119:=n0_;have HB:=n1_;clear n0_ n1_;(try clear hb);(try clear hb2);(try clear hk);(try clear hi);have hcz18_0:w17.cell? ⟨gb119,0,none⟩=some (.int .i64 a0_0):=(qai BK119.out 0).trans rfl;have hcz18_1:w17.cell? ⟨gb119,1,none⟩=some (.int .i64 a0_1):=(qai BK119.out 1).trans rfl;have hcz18_2:w17.cell? ⟨gb119,2,none⟩=some (.int .i64 a0_2):=(qai BK119.out 2).trans rfl;have hcz18_3:w17.cell? ⟨gb119,3,none⟩=some (.int .i64 a0_3):=(qai BK119.out 3).trans rfl;have hfz18_0:=qah BK119.out 0;have hfz18_1:=qah BK119.out 1;have hfz18_2:=qah BK119.out 2;have hfz18_3:=qah BK119.out 3)|((with_reducible refine qao (f:=16) rfl ?_);refine qax (some 9) rfl rfl Try.func16 (by kernel_rfl) rfl #[.agg #[.int .i64 a0_0,.int .i64 a0_1,.int .i64 a0_2,.int .i64 a0_3]] rfl (by(try simp only[List.map_toArray,List.map_cons,List.map_nil]);first|done|rfl|(simp only[List.length_drop,List.length_take];rfl)) ?_;(with_reducible refine(laws_toWord.calls a0_0 a0_1 a0_2 a0_3 t125 t126 t127 t128 _ A4.out).mono ?_);rintro e w19 ⟨rfl,hb⟩;refine⟨_,rfl,?_⟩;have n0_:=qbb.mk (qal (g:=gb119) (o:=.cells #[.int .i64 a0_0,.int .i64 a0_1,.int .i64 a0_2,.int .i64 a0_3] 24 (0,0)) (by(with_reducible repeat(first|refine qae ?_ _|refine qaf ?_|refine qad ?_ _));exact BK119.out) hb);have n1_:=qbb.mk (qak (by repeat(first|(with_reducible first|exact HB.out|apply qac|apply qaa|apply qab|refine qag ?_ GE119.out)|exact HB.out)) hb);clear BK119;clear HB;have BK119:=n0_;have HB:=n1_;clear n0_ n1_;(try clear hb);(try clear hb2);(try clear hk);(try clear hi))|((with_reducible refine qao (f:=17) rfl ?_);refine qax (some 10) rfl rfl Try.func17 (by kernel_rfl) rfl #[.agg #[.int .i64 t125,.int .i64 t126,.int .i64 t127,.int .i64 t128]] rfl (by(try simp only[List.map_toArray,List.map_cons,List.map_nil]);first|done|rfl|(simp only[List.length_drop,List.length_take];rfl)) ?_;(with_reducible refine(impl_WordOk.calls t125 t126 t127 t128 t129 _ A5.out).mono ?_);rintro e w20 ⟨rfl,hb⟩;refine⟨_,rfl,?_⟩;have n0_:=qbb.mk (qal (g:=gb119) (o:=.cells #[.int .i64 a0_0,.int .i64 a0_1,.int .i64 a0_2,.int .i64 a0_3] 24 (0,0)) (by(with_reducible repeat(first|refine qae ?_ _|refine qaf ?_|refine qad ?_ _));exact BK119.out) hb);have n1_:=qbb.mk (qak (by repeat(first|(with_reducible first|exact HB.out|apply qac|apply qaa|apply qab|refine qag ?_ GE119.out)|exact HB.out)) hb);clear BK119;clear HB;have BK119:=n0_;have HB:=n1_;clear n0_ n1_;(try clear hb);(try clear hb2);(try clear hk);(try clear hi)))
  go_ret
  exact⟨by first|rfl|(simp[qan,qam]<;>rfl)|(simp[*,qan,qam]<;>rfl),by repeat(first|(with_reducible first|exact HB.out|apply qac|apply qaa|apply qab|refine qag ?_ GE119.out)|exact HB.out)⟩
def IsS111 (w0 W:World) (g:Nat) (f0:List Int) (f1:Int):Prop:=∃A0 c0,W.heap[g]?=some (.cells #[.slice A0 f0.length c0,.int .i64 f1] 111 (0,0))∧w0.heap.size≤g∧Kd.C (Kd.int .u8) w0 A0 f0.length f0
theorem IsS111.grown {w0 W:World} {g:Nat} {f0:List Int} {f1:Int} {W1:World} {row:Option Nat} (h:IsS111 w0 W g f0 f1) (hw:W.grownBy W1 row) (hne:some g≠row):IsS111 w0 W1 g f0 f1:=by
 obtain⟨A0,c0,hb,hg,hr0⟩:=h
 exact⟨A0,c0,blk_grown hb hw hne,hg,hr0⟩
theorem IsS111.own_neN {w0 W:World} {g:Nat} {f0:List Int} {f1:Int} {α:Type} {d:Kd α} {e:Nat} {base:Nat} {ok:Nat→Prop} {v:Value} {xs:List α} (h:IsS111 w0 W g f0 f1) (ho:Kd.N d e W base ok v xs) (ht:e≠111):some g≠v.ownBlock:=by
 obtain⟨A0,c0,hb,hg,hr0⟩:=h
 exact Kd.N_ne ho hb ht
theorem IsS111.fresh {w0 W:World} {g:Nat} {f0:List Int} {f1:Int} (h:IsS111 w0 W g f0 f1):∀k,W.heap.size≤k→k≠g:=by
 obtain⟨A0,c0,hb,hg,hr0⟩:=h
 exact Kd.freshB hb
theorem IsS111.kept {w0 W:World} {g:Nat} {f0:List Int} {f1:Int} {W1:World} {S:Nat→Prop} (h:IsS111 w0 W g f0 f1) (hk:Kept W W1 S) (hne:¬S g):IsS111 w0 W1 g f0 f1:=by
 obtain⟨A0,c0,hb,hg,hr0⟩:=h
 exact⟨A0,c0,blk_kept hb hk hne,hg,hr0⟩
theorem IsS111.below {w0 W:World} {g:Nat} {f0:List Int} {f1:Int} {W1:World} (h:IsS111 w0 W g f0 f1) (hw:Below W.heap.size W W1):IsS111 w0 W1 g f0 f1:=h.grown (grown_of_below hw none) (by simp)
theorem IsS111.alloc {w0 W:World} {g:Nat} {f0:List Int} {f1:Int} (h:IsS111 w0 W g f0 f1) (o:Obj):IsS111 w0 (W.alloc o) g f0 f1:=h.below (qac (Below.refl _ _) o)
theorem IsS111.drewN {w0 W:World} {g:Nat} {f0:List Int} {f1:Int} (h:IsS111 w0 W g f0 f1) (m:Nat):IsS111 w0 (W.drewN m) g f0 f1:=h
theorem IsS111.drew {w0 W:World} {g:Nat} {f0:List Int} {f1:Int} (h:IsS111 w0 W g f0 f1):IsS111 w0 W.drew g f0 f1:=h
theorem IsS111.at_ {w0 W:World} {g:Nat} {f0:List Int} {f1:Int} {w':World} {m:Nat} (hq:W.drewN m=w') (h:IsS111 w0 W g f0 f1):IsS111 w0 w' g f0 f1:=by subst hq;exact IsS111.drewN h m
theorem IsS111.apart {w0 W:World} {g:Nat} {f0:List Int} {f1:Int} {α:Type} {d:Kd α} {e:Nat} {base:Nat} {ok:Nat→Prop} {v:Value} {xs:List α} (h:IsS111 w0 W g f0 f1) (ho:d.R e W base ok v xs) (ht:∀q,q ∈ e :: d.E→q≠111):d.R e W base (fun k=>ok k∧k≠g) v xs:=by
 obtain⟨A0,c0,hb,hg,hr0⟩:=h
 exact Kd.R_types ho hb ht
theorem IsS111.own_ne {w0 W:World} {g:Nat} {f0:List Int} {f1:Int} {α:Type} {d:Kd α} {e:Nat} {base:Nat} {ok:Nat→Prop} {v:Value} {xs:List α} (h:IsS111 w0 W g f0 f1) (ho:d.R e W base ok v xs) (ht:e≠111):some g≠v.ownBlock:=by
 obtain⟨A0,c0,hb,hg,hr0⟩:=h
 exact Kd.R_ne ho hb ht
theorem IsS111.apartQ {w0 W:World} {g:Nat} {f0:List Int} {f1:Int} {α:Type} {d:Kd α} {e:Nat} {base:Nat} {ok:Nat→Prop} {v:Value} {xs:List α} (h:IsS111 w0 W g f0 f1) (ho:d.Q e W base ok v xs) (ht:∀q,q ∈ e :: d.E→q≠111):d.Q e W base (fun k=>ok k∧k≠g) v xs:=by
 obtain⟨A0,c0,hb,hg,hr0⟩:=h
 exact Kd.Q_types ho hb ht
theorem IsS111.own_neQ {w0 W:World} {g:Nat} {f0:List Int} {f1:Int} {α:Type} {d:Kd α} {e:Nat} {base:Nat} {ok:Nat→Prop} {v:Value} {xs:List α} (h:IsS111 w0 W g f0 f1) (ho:d.Q e W base ok v xs) (ht:e≠111):some g≠v.ownBlock:=by
 obtain⟨A0,c0,hb,hg,hr0⟩:=h
 exact Kd.Q_ne ho hb ht
theorem IsS111.apartS {w0 W:World} {g:Nat} {f0:List Int} {f1:Int} {α:Type} {d:Kd α} {e:Nat} {base:Nat} {ok:Nat→Prop} {v:Value} {xs:List α} (h:IsS111 w0 W g f0 f1) (ho:d.S e W base ok v xs) (ht:∀q,q ∈ e :: d.E→q≠111):d.S e W base (fun k=>ok k∧k≠g) v xs:=by
 obtain⟨A0,c0,hb,hg,hr0⟩:=h
 exact Kd.S_types ho hb ht
theorem IsS111.own_neS {w0 W:World} {g:Nat} {f0:List Int} {f1:Int} {α:Type} {d:Kd α} {e:Nat} {base:Nat} {ok:Nat→Prop} {v:Value} {xs:List α} (h:IsS111 w0 W g f0 f1) (ho:d.S e W base ok v xs) (ht:e≠111):some g≠v.ownBlock:=by
 obtain⟨A0,c0,hb,hg,hr0⟩:=h
 exact Kd.S_ne ho hb ht
theorem IsS111.lt {w0 W:World} {g:Nat} {f0:List Int} {f1:Int} (h:IsS111 w0 W g f0 f1):g<W.heap.size:=by
 obtain⟨A0,c0,hb,hg,hr0⟩:=h
 exact qbc hb
theorem IsS111.ge {w0 W:World} {g:Nat} {f0:List Int} {f1:Int} (h:IsS111 w0 W g f0 f1):w0.heap.size≤g:=by
 obtain⟨A0,c0,hb,hg,hr0⟩:=h
 exact hg
theorem IsS111.ne_blk {w0 W:World} {g:Nat} {f0:List Int} {f1:Int} {a:Nat} {cs:Array Value} {t:TypeId} {fr:Nat × Nat} (h:IsS111 w0 W g f0 f1) (hb2:W.heap[a]?=some (.cells cs t fr)) (ht:t≠111):g≠a:=by
 obtain⟨A0,c0,hb,hg,hr0⟩:=h
 rintro rfl
 rw[hb] at hb2
 injection hb2 with hb2
 injection hb2 with _ ht2
 exact ht ht2.symm
theorem IsS111.far {w0 W:World} {g:Nat} {f0:List Int} {f1:Int} {p:Addr} (h:IsS111 w0 W g f0 f1) (hne:g≠p.block) (u:Value):IsS111 w0 (W.setCell p u) g f0 f1:=by
 obtain⟨A0,c0,hb,hg,hr0⟩:=h
 exact⟨A0,c0,qap hb hne u,hg,hr0⟩
theorem cellS111_0 {W:World} {g:Nat} {A0:Option Addr} {c0:Nat} {f0:List Int} {f1:Int} (h:W.heap[g]?=some (.cells #[.slice A0 f0.length c0,.int .i64 f1] 111 (0,0))):W.cell? ⟨g,0,none⟩=some (.slice A0 f0.length c0):=(qai h 0).trans rfl
theorem cellS111_1 {W:World} {g:Nat} {A0:Option Addr} {c0:Nat} {f0:List Int} {f1:Int} (h:W.heap[g]?=some (.cells #[.slice A0 f0.length c0,.int .i64 f1] 111 (0,0))):W.cell? ⟨g,1,none⟩=some (.int .i64 f1):=(qai h 1).trans rfl
theorem IsS111.set_1 {w0 W:World} {g:Nat} {f0:List Int} {f1:Int} (h:IsS111 w0 W g f0 f1) (x:Int):IsS111 w0 (W.setCell ⟨g,1,none⟩ (.int .i64 x)) g f0 x:=by
 obtain⟨A0,c0,hb,hg,hr0⟩:=h
 exact⟨A0,c0,by simpa using blk_set hb 1 (.int .i64 x),hg,hr0⟩
theorem IsS111.new (w0 W:World) (A0:Option Addr) (c0:Nat) (f0:List Int) (f1:Int) (hB:Below w0.heap.size w0 W) (hr0:Kd.C (Kd.int .u8) w0 A0 f0.length f0):IsS111 w0 (W.alloc (.cells #[.slice A0 f0.length c0,.int .i64 f1] 111)) W.heap.size f0 f1:=⟨A0,c0,by simpa using heap_alloc_new W _,hB.size,hr0⟩
end Go.Proofs.Ytkbjgmfghhgodaa.Print
