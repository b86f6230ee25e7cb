-- Written by squeeze.py, a program of this session, out of what print.sh and myprint.py had printed: cut to what is used, narrowed. Not trusted, Lean checks it.
import Derived.Test.YtjccnaklodbbfaaZK
import Derived.Test.YtjccnaklodbbfaaZg0
import Derived.Test.YtjccnaklodbbfaaZn5
namespace Go.Proofs.Ytjccnaklodbbfaa.Print
open Go.RowKit Go.Proofs.YtjccnaklodbbfaaW.PrintWords Go.Proofs.YtjccnaklodbbfaaW.PrintLast Go.Proofs.YtjccnaklodbbfaaW.PrintMore
attribute [local go_sem] max2_int min2_int max_two min_two max_three min_three max_four min_four
set_option linter.unusedVariables false
set_option linter.unusedSimpArgs false
def spec_DrawStockOk.f (k:Nat) (l0:List Int):Option (Int × (List (S46))):=(spec_l6Open.f l0).bind fun bt441=>((spec_l71Stock.f k bt441.1 bt441.2).bind fun bt444=>(some (bt444.1,bt444.2.1)))
theorem spec_DrawStockOk.mono:∀a0 k,LeO (spec_DrawStockOk.f k a0) (spec_DrawStockOk.f (k+1) a0):=by
 intro a0 k
 unfold spec_DrawStockOk.f
 repeat' first
   |(with_reducible exact spec_l71Stock.mono _ _ _)
   |(with_reducible exact LeO.refl _)
   |(with_reducible exact LeO.none _)
   |(with_reducible refine LeO.ite ?_ ?_)
   |(with_reducible refine LeO.bind ?_ (fun _=>?_))
   |exact spec_l71Stock.mono _ _ _
   |exact LeO.none _
   |refine LeO.ite ?_ ?_
   |refine LeO.bind ?_ (fun _=>?_)
set_option maxHeartbeats 8000000 in
set_option maxRecDepth 100000 in
theorem spec_DrawStockOk.calls (k:Nat) (A0:Option Addr) (c0:Nat) (l0:List Int) (r1:Int) (r2:List (S46)) (w:World) (hr0:Kd.C (Kd.int .u8) w A0 l0.length l0) (hc0:l0.length≤c0) (h:spec_DrawStockOk.f k l0=some (r1,r2)) :
  Calls Try.prog 27 #[.slice A0 l0.length c0] w fun e w'=>∃v1_:Value,e=.returned (.agg #[.int .i64 r1,v1_])∧Kd.Q k46 46 w' w.heap.size (fun _=>True) v1_ r2∧Below w.heap.size w w':=by
 have hu36:=Try.underlying36
 have HR0:=qal.mk hr0
 have HC0:=qal.mk hc0
 clear hr0 hc0
 have HB:=qal.mk (Below.refl w.heap.size w)
 have H:((spec_l6Open.f l0).bind fun bt441=>((spec_l71Stock.f k bt441.1 bt441.2).bind fun bt444=>(some (bt444.1,bt444.2.1))))=some (r1,r2):=h
 clear h
 replace H:=Option.bind_eq_some_iff.mp H
 obtain⟨⟨t441,t442⟩,A20,H⟩:=H
 replace H:((spec_l71Stock.f k t441 t442).bind fun bt444=>(some (bt444.1,bt444.2.1)))=some (r1,r2):=H
 have A2:=qal.mk A20
 clear A20
 replace H:=Option.bind_eq_some_iff.mp H
 obtain⟨⟨t444,t445,t448⟩,A30,H⟩:=H
 replace H:(some (t444,t445))=some (r1,r2):=H
 have A3:=qal.mk A30
 clear A30
 simp only[Option.some.injEq,Prod.mk.injEq] at H
 obtain⟨rfl,rfl⟩:=H
 go_enter Try.func27,Try.ntmps27
 go_wp2_with(first|((with_reducible refine qak (N:=2) rfl ?_);refine qaj ?hg (N:=2) ?hd (cs:=#[.int .i64 0,.slice none 0 0]) (t:=36) ?hr ?_;(case hd=>rfl);(case hg=>rfl);(case hr=>first|(go_simp;done)|(go_simp;rfl));intro gb440 hg w4 hbox hb;have n0_:=qal.mk (qae (za2 HB) hb);have n1_:=qal.mk (hbox);have n2_:=qal.mk ((by rw[hg];exact(qad (za2 HB)):w.heap.size≤gb440));have n3_:=qal.mk ((by rw[hg];exact(qad (za2 HB)):w.heap.size≤gb440));clear HB;have HB:=n0_;have BK440:=n1_;have GW440:=n2_;have GE440:=n3_;clear n0_ n1_ n2_ n3_;clear hb hbox hg)|((with_reducible refine qai (f:=64) rfl ?_);refine qau (some 4) rfl rfl Try.func64 (by kernel_rfl) rfl #[.slice A0 l0.length c0] rfl (by(try simp only[List.map_toArray,List.map_cons,List.map_nil]);first|done|rfl|(simp only[List.length_drop,List.length_take];rfl)) ?_;(with_reducible refine(spec_l6Open.calls _ _ l0 t441 t442 w _ ?side1 ?side2 ?side3 A2.out).mono ?_);(case side1=>repeat(first|(with_reducible first|exact HB.out|apply qar|apply qap|apply qaq|refine qam ?_ GE440.out)|exact HB.out));(case side2=>exact HR0.out);(case side3=>exact HC0.out);rintro e w5 ⟨g443,rfl,hi,hb,hb2⟩;refine⟨_,rfl,?_⟩;have n0_:=qal.mk (qac (g:=gb440) (o:=.cells #[.int .i64 0,.slice none 0 0] 36 (0,0)) (za0 BK440) hb2);have n1_:=qal.mk (hb);have n2_:=qal.mk (hi);have n3_:=qal.mk (IsS122.ne_blk hi (qac (g:=gb440) (o:=.cells #[.int .i64 0,.slice none 0 0] 36 (0,0)) (za0 BK440) hb2) (by decide));have n4_:=qal.mk (Ne.symm (IsS122.ne_blk hi (qac (g:=gb440) (o:=.cells #[.int .i64 0,.slice none 0 0] 36 (0,0)) (za0 BK440) hb2) (by decide)));clear BK440;clear HB;have BK440:=n0_;have HB:=n1_;have HI443:=n2_;have NB443_440:=n3_;have NB440_443:=n4_;clear n0_ n1_ n2_ n3_ n4_;(try clear hb);(try clear hb2);(try clear hk);(try clear hi))|((with_reducible refine qai (f:=71) rfl ?_);refine qau (some 5) rfl rfl Try.func71 (by kernel_rfl) rfl #[.pointer (some ⟨g443,0,none⟩)] rfl (by(try simp only[List.map_toArray,List.map_cons,List.map_nil]);first|done|rfl|(simp only[List.length_drop,List.length_take];rfl)) ?_;(with_reducible refine(spec_l71Stock.calls k g443 t441 t442 t444 t445 t448 w _ ?side1 ?side2 A3.out).mono ?_);(case side1=>repeat(first|(with_reducible first|exact HI443.out|apply IsS122.alloc|apply IsS122.drewN|apply IsS122.drew|apply IsS122.set_1|refine IsS122.far ?_ NB443_440.out _)|exact HI443.out));(case side2=>repeat(first|(with_reducible first|exact HB.out|apply qar|apply qap|apply qaq|refine qam ?_ (IsS122.ge HI443.out)|refine qam ?_ GE440.out)|exact HB.out));rintro e w6 ⟨v446,rfl,ho0,hi,hb,hk⟩;refine⟨_,rfl,?_⟩;have n0_:=qal.mk (KeepBut.blk hk (g':=gb440) (o:=.cells #[.int .i64 0,.slice none 0 0] 36 (0,0)) (za0 BK440) NB440_443.out (by simp));have n1_:=qal.mk (Kd.Q_lower ho0 (qad (by repeat(first|(with_reducible first|exact HB.out|apply qar|apply qap|apply qaq|refine qam ?_ (IsS122.ge HI443.out)|refine qam ?_ GE440.out)|exact HB.out))));have n2_:=qal.mk (hb);have n3_:=qal.mk (hi);clear BK440;clear HB;clear HI443;have BK440:=n0_;have HO447:=n1_;have HB:=n2_;have HI443:=n3_;clear n0_ n1_ n2_ n3_;(try clear hb);(try clear hb2);(try clear hk);(try clear hi);(try clear ho0);have hnb7:=NB440_443.out;have hnc7:=NB443_440.out;have hcz8_0:w6.cell? ⟨gb440,0,none⟩=some (.int .i64 0):=(qab BK440.out 0).trans rfl;have hcz8_1:w6.cell? ⟨gb440,1,none⟩=some (.slice none 0 0):=(qab BK440.out 1).trans rfl;have hfz8_0:=qaa BK440.out 0;have hfz8_1:=qaa BK440.out 1;obtain⟨Ao9,co9,eo9,_⟩:=Kd.Q_slice HO447.out;subst eo9))
 refine bodyPost_ret (results_cell_row rfl _ _ gb440 36 #[.int .i64 t444,.slice Ao9 t445.length co9] (0,0) _ rfl (by(with_reducible repeat(first|refine qag ?_ _|refine qah ?_|refine qaf ?_ _));refine qan (cs:=#[.int .i64 t444,.slice none 0 0]) ?_ 1 _ rfl;(with_reducible repeat(first|refine qag ?_ _|refine qah ?_|refine qaf ?_ _));refine qan (cs:=#[.int .i64 0,.slice none 0 0]) ?_ 0 _ rfl;(with_reducible repeat(first|refine qag ?_ _|refine qah ?_|refine qaf ?_ _));exact BK440.out) Try.underlying36 rfl (by kernel_rfl)) rfl ?_
 exact⟨_,za9,by(with_reducible repeat(first|apply Kd.Q_alloc|apply Kd.Q_drewN|apply Kd.Q_drew));exact Kd.Q_mono (Kd.Q_far (p:=⟨gb440,1,none⟩) (Kd.Q_far (p:=⟨gb440,0,none⟩) (Kd.Q_types HO447.out BK440.out (by decide)) (fun _ hk=>hk.2) (.int .i64 t444)) (fun _ hk=>hk.2) (.slice Ao9 t445.length co9)) (fun _ hk=>trivial),by repeat(first|(with_reducible first|exact HB.out|apply qar|apply qap|apply qaq|refine qam ?_ (IsS122.ge HI443.out)|refine qam ?_ GE440.out)|exact HB.out)⟩
end Go.Proofs.Ytjccnaklodbbfaa.Print
