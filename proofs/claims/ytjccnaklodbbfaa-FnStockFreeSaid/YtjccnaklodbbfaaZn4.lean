-- Written by squeeze.py, a program of this session, out of what print.sh and myprint.py had printed: cut to what is used, narrowed. Not trusted, Lean checks it.
import Derived.Test.YtjccnaklodbbfaaZK
import Derived.Test.YtjccnaklodbbfaaZn3
namespace Go.Proofs.Ytjccnaklodbbfaa.Print
open Go.RowKit Go.Proofs.YtjccnaklodbbfaaW.PrintWords Go.Proofs.YtjccnaklodbbfaaW.PrintLast Go.Proofs.YtjccnaklodbbfaaW.PrintMore
attribute [local go_sem] max2_int min2_int max_two min_two max_three min_three max_four min_four
set_option linter.unusedVariables false
set_option linter.unusedSimpArgs false
def spec_StockOf.f (k:Nat) (a0:Int) (l1:List (S62)):Option (Int × (List (S46)) × Bool):=(spec_l2Of.f k a0 l1).bind fun bt405=>(some (bt405.1,bt405.2.1,bt405.2.2))
theorem spec_StockOf.mono:∀a0 a1 k,LeO (spec_StockOf.f k a0 a1) (spec_StockOf.f (k+1) a0 a1):=by
 intro a0 a1 k
 unfold spec_StockOf.f
 repeat' first
   |(with_reducible exact spec_l2Of.mono _ _ _)
   |(with_reducible exact LeO.refl _)
   |(with_reducible exact LeO.none _)
   |(with_reducible refine LeO.ite ?_ ?_)
   |(with_reducible refine LeO.bind ?_ (fun _=>?_))
   |exact spec_l2Of.mono _ _ _
   |exact LeO.none _
   |refine LeO.ite ?_ ?_
   |refine LeO.bind ?_ (fun _=>?_)
set_option maxHeartbeats 8000000 in
set_option maxRecDepth 100000 in
theorem spec_StockOf.calls (k:Nat) (a0:Int) (A1:Option Addr) (c1:Nat) (l1:List (S62)) (r1:Int) (r2:List (S46)) (r3:Bool) (w:World) (hr1:Kd.C k62 w A1 l1.length l1) (hc1:l1.length≤c1) (h:spec_StockOf.f k a0 l1=some (r1,r2,r3)) :
  Calls Try.prog 107 #[.int .i64 a0,.slice A1 l1.length c1] w fun e w'=>∃v1_:Value,e=.returned (.tuple #[.agg #[.int .i64 r1,v1_],.bool r3])∧Kd.R k46 46 w' w.heap.size (fun _=>True) v1_ r2∧Below w.heap.size w w':=by
 have hu36:=Try.underlying36
 have HR1:=qal.mk hr1
 have HC1:=qal.mk hc1
 clear hr1 hc1
 have HB:=qal.mk (Below.refl w.heap.size w)
 have H:((spec_l2Of.f k a0 l1).bind fun bt405=>(some (bt405.1,bt405.2.1,bt405.2.2)))=some (r1,r2,r3):=h
 clear h
 replace H:=Option.bind_eq_some_iff.mp H
 obtain⟨⟨t405,t406,t409⟩,A30,H⟩:=H
 replace H:(some (t405,t406,t409))=some (r1,r2,r3):=H
 have A3:=qal.mk A30
 clear A30
 simp only[Option.some.injEq,Prod.mk.injEq] at H
 obtain⟨rfl,rfl,rfl⟩:=H
 go_enter Try.func107,Try.ntmps107
 go_wp2_with(first|((with_reducible refine qak (N:=4) rfl ?_);refine qaj ?hg (N:=4) ?hd (cs:=#[.int .i64 0,.slice none 0 0]) (t:=36) ?hr ?_;(case hd=>rfl);(case hg=>rfl);(case hr=>first|(go_simp;done)|(go_simp;rfl));intro gb404 hg w4 hbox hb;have n0_:=qal.mk (qae (za2 HB) hb);have n1_:=qal.mk (hbox);have n2_:=qal.mk ((by rw[hg];exact(qad (za2 HB)):w.heap.size≤gb404));have n3_:=qal.mk ((by rw[hg];exact(qad (za2 HB)):w.heap.size≤gb404));clear HB;have HB:=n0_;have BK404:=n1_;have GW404:=n2_;have GE404:=n3_;clear n0_ n1_ n2_ n3_;clear hb hbox hg)|((with_reducible refine qai (f:=125) rfl ?_);refine qau (some 8) rfl rfl Try.func125 (by kernel_rfl) rfl #[.int .i64 a0,.slice A1 l1.length c1] rfl (by(try simp only[List.map_toArray,List.map_cons,List.map_nil]);first|done|rfl|(simp only[List.length_drop,List.length_take];rfl)) ?_;(with_reducible refine(spec_l2Of.calls k a0 _ _ l1 t405 t406 t409 _ ?side1 ?side2 A3.out).mono ?_);(case side1=>repeat(first|exact(Kd.C_below HR1.out HB.out)|(with_reducible refine Kd.C_alloc ?_ _)|(with_reducible refine Kd.C_drewN ?_ _)|(with_reducible refine Kd.C_drew ?_)));(case side2=>exact HC1.out);rintro e w5 ⟨v407,rfl,ho0,hb⟩;refine⟨_,rfl,?_⟩;have n0_:=qal.mk (Kd.R_lower ho0 (qad (za1 HB GE404)));have n1_:=qal.mk (qac (g:=gb404) (o:=.cells #[.int .i64 0,.slice none 0 0] 36 (0,0)) (za0 BK404) hb);have n2_:=qal.mk (qae (za1 HB GE404) hb);clear BK404;clear HB;have HO408:=n0_;have BK404:=n1_;have HB:=n2_;clear n0_ n1_ n2_;(try clear hb);(try clear hb2);(try clear hk);(try clear hi);(try clear ho0);have hcz6_0:w5.cell? ⟨gb404,0,none⟩=some (.int .i64 0):=(qab BK404.out 0).trans rfl;have hcz6_1:w5.cell? ⟨gb404,1,none⟩=some (.slice none 0 0):=(qab BK404.out 1).trans rfl;have hfz6_0:=qaa BK404.out 0;have hfz6_1:=qaa BK404.out 1;obtain⟨Ao7,co7,eo7⟩:=Kd.R_slice HO408.out;subst eo7))
 refine bodyPost_ret (results_ct rfl _ _ gb404 36 #[.int .i64 t405,.slice Ao7 t406.length co7] (0,0) _ rfl (by(with_reducible repeat(first|refine qag ?_ _|refine qah ?_|refine qaf ?_ _));refine qan (cs:=#[.int .i64 t405,.slice none 0 0]) ?_ 1 _ rfl;(with_reducible repeat(first|refine qag ?_ _|refine qah ?_|refine qaf ?_ _));refine qan (cs:=#[.int .i64 0,.slice none 0 0]) ?_ 0 _ rfl;(with_reducible repeat(first|refine qag ?_ _|refine qah ?_|refine qaf ?_ _));exact BK404.out) Try.underlying36 rfl (by kernel_rfl)) rfl ?_
 exact⟨_,za9,by(with_reducible repeat(first|apply Kd.R_alloc|apply Kd.R_drewN|apply Kd.R_drew));exact Kd.R_mono (Kd.R_far (p:=⟨gb404,1,none⟩) (Kd.R_far (p:=⟨gb404,0,none⟩) (Kd.R_types HO408.out BK404.out (by decide)) (fun _ hk=>hk.2) (.int .i64 t405)) (fun _ hk=>hk.2) (.slice Ao7 t406.length co7)) (fun _ hk=>trivial),za1 HB GE404⟩
end Go.Proofs.Ytjccnaklodbbfaa.Print
