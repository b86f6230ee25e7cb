-- Written by squeeze.py, a program of this session, out of what print.sh and myprint.py had printed: cut to what is used, narrowed. Not trusted, Lean checks it.
import Derived.Test.YtjccnaklodbbfaaZK
import Derived.Test.YtjccnaklodbbfaaZb0
namespace Go.Proofs.Ytjccnaklodbbfaa.Print
open Go.RowKit Go.Proofs.YtjccnaklodbbfaaW.PrintWords Go.Proofs.YtjccnaklodbbfaaW.PrintLast Go.Proofs.YtjccnaklodbbfaaW.PrintMore
attribute [local go_sem] max2_int min2_int max_two min_two max_three min_three max_four min_four
set_option linter.unusedVariables false
set_option linter.unusedSimpArgs false
def spec_StockNew.f (a0:Int):Option (Int × (List (S46)) × Bool):=(spec_l6In.f a0 0 9).bind fun t102=>(if t102=true then(if 6≤17592186044416 then(some (a0,(List.replicate 6 z46),true)) else(none)) else(some (0,([]:List (S46)),false)))
set_option maxHeartbeats 8000000 in
set_option maxRecDepth 100000 in
theorem spec_StockNew.calls (a0:Int) (r1:Int) (r2:List (S46)) (r3:Bool) (w:World) (h:spec_StockNew.f a0=some (r1,r2,r3)) :
  Calls Try.prog 21 #[.int .i64 a0] w fun e w'=>∃v1_:Value,e=.returned (.tuple #[.agg #[.int .i64 r1,v1_],.bool r3])∧Kd.R k46 46 w' w.heap.size (fun _=>True) v1_ r2∧Below w.heap.size w w':=by
 have hu36:=Try.underlying36
 have HB:=qal.mk (Below.refl w.heap.size w)
 have H:((spec_l6In.f a0 0 9).bind fun t102=>(if t102=true then(if 6≤17592186044416 then(some (a0,(List.replicate 6 z46),true)) else(none)) else(some (0,([]:List (S46)),false))))=some (r1,r2,r3):=h
 clear h
 replace H:=Option.bind_eq_some_iff.mp H
 obtain⟨t102,A20,H⟩:=H
 replace H:(if t102=true then(if 6≤17592186044416 then(some (a0,(List.replicate 6 z46),true)) else(none)) else(some (0,([]:List (S46)),false)))=some (r1,r2,r3):=H
 have A2:=qal.mk A20
 clear A20
 by_cases c3:t102=true
 ·subst c3
  have H1:(if 6≤17592186044416 then(some (a0,(List.replicate 6 z46),true)) else(none))=some (r1,r2,r3):=by rw[if_pos rfl] at H;exact H
  clear H
  have H:=H1
  clear H1
  by_cases c4:6≤17592186044416
  ·rw[if_pos c4] at H
   have c4b0:=eq_true c4
   have c4b1:decide (6≤17592186044416)=true:=decide_eq_true c4
   clear c4
   obtain⟨y103,hy103⟩:∃y_:List (S46),y_=(List.replicate 6 z46):=⟨_,rfl⟩
   replace H:(some (a0,y103,true))=some (r1,r2,r3):=by first|(rw[hy103];with_reducible exact H)|(have H2_:=(Option.bind_some _ _).symm.trans H;rw[hy103];with_reducible exact H2_)|(have H2_:=(Option.bind_some _ _).symm.trans H;with_reducible exact H2_)|with_reducible exact H|(rw[hy103];exact H)|exact H
   have Ny103:=qal.mk hy103
   clear hy103
   simp only[Option.some.injEq,Prod.mk.injEq] at H
   obtain⟨rfl,rfl,rfl⟩:=H
   go_enter Try.func21,Try.ntmps21
   go_wp2_with(first|((with_reducible refine qak (N:=2) rfl ?_);refine qaj ?hg (N:=2) ?hd (cs:=#[.int .i64 0,.slice none 0 0]) (t:=36) ?hr ?_;(case hd=>rfl);(case hg=>rfl);(case hr=>first|(go_simp;done)|(go_simp;rfl));intro gb101 hg w5 hbox hb;have n0_:=qal.mk (qae (za2 HB) hb);have n1_:=qal.mk (hbox);have n2_:=qal.mk ((by rw[hg];exact(qad (za2 HB)):w.heap.size≤gb101));have n3_:=qal.mk ((by rw[hg];exact(qad (za2 HB)):w.heap.size≤gb101));clear HB;have HB:=n0_;have BK101:=n1_;have GW101:=n2_;have GE101:=n3_;clear n0_ n1_ n2_ n3_;clear hb hbox hg)|((with_reducible refine qai (f:=58) rfl ?_);refine qau (some 5) rfl rfl Try.func58 (by kernel_rfl) rfl #[.int .i64 a0,.int .i64 0,.int .i64 9] rfl (by(try simp only[List.map_toArray,List.map_cons,List.map_nil]);first|done|rfl|(simp only[List.length_drop,List.length_take];rfl)) ?_;(with_reducible refine(spec_l6In.calls a0 0 9 true _ A2.out).mono ?_);rintro e w' ⟨rfl,⟨nd,rfl⟩⟩;refine⟨_,rfl,?_⟩;(try(rw[drewN_self w5];generalize hq_:World.drewN w5 _=w5;have n0_:qal (w5.heap[gb101]?=some (.cells #[.int .i64 0,.slice none 0 0] 36 (0,0))):=⟨by rw[←hq_];exact(za0 BK101)⟩;have n1_:qal (Below w.heap.size w w5):=⟨by rw[←hq_];exact(za1 HB GE101)⟩;clear BK101 HB hq_;have BK101:=n0_;have HB:=n1_;clear n0_ n1_;have hczugb101_0:w5.cell? ⟨gb101,0,none⟩=some _:=(qab BK101.out 0).trans rfl;have hfzugb101_0:=qaa BK101.out 0;have hczugb101_1:w5.cell? ⟨gb101,1,none⟩=some _:=(qab BK101.out 1).trans rfl;have hfzugb101_1:=qaa BK101.out 1)))|((with_reducible refine qak (N:=9) rfl ?_);refine Kd.R_make k46 _ 46 rfl (N:=9) rfl 34 _ _ rfl 6 rfl rfl Try.underlying34 (.agg #[(.int .i64 0),(.int .i64 0)]) 16 info46 rfl (by decide) (by omega) z46 (ok:=fun _=>True) (okp:=fun _=>True) (k46_mkM _ _ _ z46 ) (fun _ hk=>hk) trivial (by omega) (by omega) (Below.refl _ _) (Nat.le_refl _) ?_;intro v104 w6 ho7 hb hg_ hnew_;clear hg_ hnew_;(first|rw[←Ny103.out] at ho7|(simp only[Int.reduceToNat] at ho7;rw[←Ny103.out] at ho7));have n0_:=qal.mk (Kd.R_lower ho7 (qad (za1 HB GE101)));have n1_:=qal.mk (qac (g:=gb101) (o:=.cells #[.int .i64 0,.slice none 0 0] 36 (0,0)) (za0 BK101) hb);have n2_:=qal.mk (qae (za1 HB GE101) hb);clear BK101;clear HB;have HO105:=n0_;have BK101:=n1_;have HB:=n2_;clear n0_ n1_ n2_;clear hb ho7;obtain⟨Ao8,co8,eo8⟩:=Kd.R_slice HO105.out;subst eo8;have hcz9_0:w6.cell? ⟨gb101,0,none⟩=some (.int .i64 0):=(qab BK101.out 0).trans rfl;have hcz9_1:w6.cell? ⟨gb101,1,none⟩=some (.slice none 0 0):=(qab BK101.out 1).trans rfl;have hfz9_0:=qaa BK101.out 0;have hfz9_1:=qaa BK101.out 1))
   refine bodyPost_ret (results_ct rfl _ _ gb101 36 #[.int .i64 a0,.slice Ao8 y103.length co8] (0,0) _ rfl (by(with_reducible repeat(first|refine qag ?_ _|refine qah ?_|refine qaf ?_ _));refine qan (cs:=#[.int .i64 a0,.slice none 0 0]) ?_ 1 _ rfl;(with_reducible repeat(first|refine qag ?_ _|refine qah ?_|refine qaf ?_ _));refine qan (cs:=#[.int .i64 0,.slice none 0 0]) ?_ 0 _ rfl;(with_reducible repeat(first|refine qag ?_ _|refine qah ?_|refine qaf ?_ _));exact BK101.out) Try.underlying36 rfl (by kernel_rfl)) rfl ?_
   exact⟨_,za9,by(with_reducible repeat(first|apply Kd.R_alloc|apply Kd.R_drewN|apply Kd.R_drew));exact Kd.R_mono (Kd.R_far (p:=⟨gb101,1,none⟩) (Kd.R_far (p:=⟨gb101,0,none⟩) (Kd.R_types HO105.out BK101.out (by decide)) (fun _ hk=>hk.2) (.int .i64 a0)) (fun _ hk=>hk.2) (.slice Ao8 y103.length co8)) (fun _ hk=>trivial),za1 HB GE101⟩
  ·rw[if_neg c4] at H
   exact absurd H (by simp)
 ·replace c3:=Bool.eq_false_iff.mpr c3
  subst c3
  have H1:(some (0,([]:List (S46)),false))=some (r1,r2,r3):=by rw[if_neg (show ¬(false=true) by decide)] at H;exact H
  clear H
  have H:=H1
  clear H1
  simp only[Option.some.injEq,Prod.mk.injEq] at H
  obtain⟨rfl,rfl,rfl⟩:=H
  go_enter Try.func21,Try.ntmps21
  go_wp2_with(first|((with_reducible refine qak (N:=2) rfl ?_);refine qaj ?hg (N:=2) ?hd (cs:=#[.int .i64 0,.slice none 0 0]) (t:=36) ?hr ?_;(case hd=>rfl);(case hg=>rfl);(case hr=>first|(go_simp;done)|(go_simp;rfl));intro gb101 hg w10 hbox hb;have n0_:=qal.mk (qae (za2 HB) hb);have n1_:=qal.mk (hbox);have n2_:=qal.mk ((by rw[hg];exact(qad (za2 HB)):w.heap.size≤gb101));have n3_:=qal.mk ((by rw[hg];exact(qad (za2 HB)):w.heap.size≤gb101));clear HB;have HB:=n0_;have BK101:=n1_;have GW101:=n2_;have GE101:=n3_;clear n0_ n1_ n2_ n3_;clear hb hbox hg)|((with_reducible refine qai (f:=58) rfl ?_);refine qau (some 5) rfl rfl Try.func58 (by kernel_rfl) rfl #[.int .i64 a0,.int .i64 0,.int .i64 9] rfl (by(try simp only[List.map_toArray,List.map_cons,List.map_nil]);first|done|rfl|(simp only[List.length_drop,List.length_take];rfl)) ?_;(with_reducible refine(spec_l6In.calls a0 0 9 false _ A2.out).mono ?_);rintro e w' ⟨rfl,⟨nd,rfl⟩⟩;refine⟨_,rfl,?_⟩;(try(rw[drewN_self w10];generalize hq_:World.drewN w10 _=w10;have n0_:qal (w10.heap[gb101]?=some (.cells #[.int .i64 0,.slice none 0 0] 36 (0,0))):=⟨by rw[←hq_];exact(za0 BK101)⟩;have n1_:qal (Below w.heap.size w w10):=⟨by rw[←hq_];exact(za1 HB GE101)⟩;clear BK101 HB hq_;have BK101:=n0_;have HB:=n1_;clear n0_ n1_;have hczugb101_0:w10.cell? ⟨gb101,0,none⟩=some _:=(qab BK101.out 0).trans rfl;have hfzugb101_0:=qaa BK101.out 0;have hczugb101_1:w10.cell? ⟨gb101,1,none⟩=some _:=(qab BK101.out 1).trans rfl;have hfzugb101_1:=qaa BK101.out 1));have hcz11_0:w10.cell? ⟨gb101,0,none⟩=some (.int .i64 0):=(qab BK101.out 0).trans rfl;have hcz11_1:w10.cell? ⟨gb101,1,none⟩=some (.slice none 0 0):=(qab BK101.out 1).trans rfl;have hfz11_0:=qaa BK101.out 0;have hfz11_1:=qaa BK101.out 1))
  refine bodyPost_ret (results_ct rfl _ _ gb101 36 #[.int .i64 0,.slice none 0 0] (0,0) _ rfl (by(with_reducible repeat(first|refine qag ?_ _|refine qah ?_|refine qaf ?_ _));refine qan (cs:=#[.int .i64 0,.slice none 0 0]) ?_ 1 _ rfl;(with_reducible repeat(first|refine qag ?_ _|refine qah ?_|refine qaf ?_ _));refine qan (cs:=#[.int .i64 0,.slice none 0 0]) ?_ 0 _ rfl;(with_reducible repeat(first|refine qag ?_ _|refine qah ?_|refine qaf ?_ _));exact BK101.out) Try.underlying36 rfl (by kernel_rfl)) rfl ?_
  exact⟨_,za9,za47,za1 HB GE101⟩
end Go.Proofs.Ytjccnaklodbbfaa.Print
