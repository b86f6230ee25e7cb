-- Written by squeeze.py, a program of this session, out of what print.sh and myprint.py had printed: cut to what is used, narrowed. Not trusted, Lean checks it.
import Derived.Test.YtjccnaklodbbfaaZK
import Derived.Test.YtjccnaklodbbfaaZg0
import Derived.Test.YtjccnaklodbbfaaZl0
import Derived.Test.YtjccnaklodbbfaaZn5
namespace Go.Proofs.Ytjccnaklodbbfaa.Print
open Go.RowKit Go.Proofs.YtjccnaklodbbfaaW.PrintWords Go.Proofs.YtjccnaklodbbfaaW.PrintLast Go.Proofs.YtjccnaklodbbfaaW.PrintMore
attribute [local go_sem] max2_int min2_int max_two min_two max_three min_three max_four min_four
set_option linter.unusedVariables false
set_option linter.unusedSimpArgs false
def spec_DrawStockFree.f (k:Nat) (l0:List Int):Option (Int × (List (S46))):=(spec_l6Open.f l0).bind fun bt473=>((spec_l71Stock.f k bt473.1 bt473.2).bind fun bt476=>(some (bt476.1,bt476.2.1)))
theorem spec_DrawStockFree.mono:∀a0 k,LeO (spec_DrawStockFree.f k a0) (spec_DrawStockFree.f (k+1) a0):=by
 intro a0 k
 unfold spec_DrawStockFree.f
 repeat' first
   |(with_reducible exact spec_l71Stock.mono _ _ _)
   |(with_reducible exact LeO.refl _)
   |(with_reducible exact LeO.none _)
   |(with_reducible refine LeO.ite ?_ ?_)
   |(with_reducible refine LeO.bind ?_ (fun _=>?_))
   |exact spec_l71Stock.mono _ _ _
   |exact LeO.none _
   |refine LeO.ite ?_ ?_
   |refine LeO.bind ?_ (fun _=>?_)
set_option maxHeartbeats 8000000 in
set_option maxRecDepth 100000 in
theorem spec_DrawStockFree.calls (k:Nat) (A0:Option Addr) (c0:Nat) (l0:List Int) (r1:Int) (r2:List (S46)) (w:World) (hr0:Kd.C (Kd.int .u8) w A0 l0.length l0) (hc0:l0.length≤c0) (h:spec_DrawStockFree.f k l0=some (r1,r2)) :
  Calls Try.prog 29 #[.slice A0 l0.length c0] w fun e w'=>∃v1_:Value,e=.returned (.agg #[.int .i64 r1,v1_])∧Kd.Q k46 46 w' w.heap.size (fun _=>True) v1_ r2∧Below w.heap.size w w':=by
 have hu36:=Try.underlying36
 have HR0:=qal.mk hr0
 have HC0:=qal.mk hc0
 clear hr0 hc0
 have HB:=qal.mk (Below.refl w.heap.size w)
 have H:((spec_l6Open.f l0).bind fun bt473=>((spec_l71Stock.f k bt473.1 bt473.2).bind fun bt476=>(some (bt476.1,bt476.2.1))))=some (r1,r2):=h
 clear h
 replace H:=Option.bind_eq_some_iff.mp H
 obtain⟨⟨t473,t474⟩,A20,H⟩:=H
 replace H:((spec_l71Stock.f k t473 t474).bind fun bt476=>(some (bt476.1,bt476.2.1)))=some (r1,r2):=H
 have A2:=qal.mk A20
 clear A20
 replace H:=Option.bind_eq_some_iff.mp H
 obtain⟨⟨t476,t477,t480⟩,A30,H⟩:=H
 replace H:(some (t476,t477))=some (r1,r2):=H
 have A3:=qal.mk A30
 clear A30
 simp only[Option.some.injEq,Prod.mk.injEq] at H
 obtain⟨rfl,rfl⟩:=H
 go_enter Try.func29,Try.ntmps29
 go_wp2_with(first|((with_reducible refine qak (N:=2) rfl ?_);refine qaj ?hg (N:=2) ?hd (cs:=#[.int .i64 0,.slice none 0 0]) (t:=36) ?hr ?_;(case hd=>rfl);(case hg=>rfl);(case hr=>first|(go_simp;done)|(go_simp;rfl));intro gb472 hg w4 hbox hb;have n0_:=qal.mk (qae (za2 HB) hb);have n1_:=qal.mk (hbox);have n2_:=qal.mk ((by rw[hg];exact(qad (za2 HB)):w.heap.size≤gb472));have n3_:=qal.mk ((by rw[hg];exact(qad (za2 HB)):w.heap.size≤gb472));clear HB;have HB:=n0_;have BK472:=n1_;have GW472:=n2_;have GE472:=n3_;clear n0_ n1_ n2_ n3_;clear hb hbox hg)|((with_reducible refine qai (f:=64) rfl ?_);refine qau (some 4) rfl rfl Try.func64 (by kernel_rfl) rfl #[.slice A0 l0.length c0] rfl (by(try simp only[List.map_toArray,List.map_cons,List.map_nil]);first|done|rfl|(simp only[List.length_drop,List.length_take];rfl)) ?_;(with_reducible refine(spec_l6Open.calls _ _ l0 t473 t474 w _ ?side1 ?side2 ?side3 A2.out).mono ?_);(case side1=>repeat(first|(with_reducible first|exact HB.out|apply qar|apply qap|apply qaq|refine qam ?_ GE472.out)|exact HB.out));(case side2=>exact HR0.out);(case side3=>exact HC0.out);rintro e w5 ⟨g475,rfl,hi,hb,hb2⟩;refine⟨_,rfl,?_⟩;have n0_:=qal.mk (qac (g:=gb472) (o:=.cells #[.int .i64 0,.slice none 0 0] 36 (0,0)) (za0 BK472) hb2);have n1_:=qal.mk (hb);have n2_:=qal.mk (hi);have n3_:=qal.mk (IsS122.ne_blk hi (qac (g:=gb472) (o:=.cells #[.int .i64 0,.slice none 0 0] 36 (0,0)) (za0 BK472) hb2) (by decide));have n4_:=qal.mk (Ne.symm (IsS122.ne_blk hi (qac (g:=gb472) (o:=.cells #[.int .i64 0,.slice none 0 0] 36 (0,0)) (za0 BK472) hb2) (by decide)));clear BK472;clear HB;have BK472:=n0_;have HB:=n1_;have HI475:=n2_;have NB475_472:=n3_;have NB472_475:=n4_;clear n0_ n1_ n2_ n3_ n4_;(try clear hb);(try clear hb2);(try clear hk);(try clear hi))|((with_reducible refine qai (f:=71) rfl ?_);refine qau (some 5) rfl rfl Try.func71 (by kernel_rfl) rfl #[.pointer (some ⟨g475,0,none⟩)] rfl (by(try simp only[List.map_toArray,List.map_cons,List.map_nil]);first|done|rfl|(simp only[List.length_drop,List.length_take];rfl)) ?_;(with_reducible refine(spec_l71Stock.calls k g475 t473 t474 t476 t477 t480 w _ ?side1 ?side2 A3.out).mono ?_);(case side1=>repeat(first|(with_reducible first|exact HI475.out|apply IsS122.alloc|apply IsS122.drewN|apply IsS122.drew|apply IsS122.set_1|refine IsS122.far ?_ NB475_472.out _)|exact HI475.out));(case side2=>repeat(first|(with_reducible first|exact HB.out|apply qar|apply qap|apply qaq|refine qam ?_ (IsS122.ge HI475.out)|refine qam ?_ GE472.out)|exact HB.out));rintro e w6 ⟨v478,rfl,ho0,hi,hb,hk⟩;refine⟨_,rfl,?_⟩;have n0_:=qal.mk (KeepBut.blk hk (g':=gb472) (o:=.cells #[.int .i64 0,.slice none 0 0] 36 (0,0)) (za0 BK472) NB472_475.out (by simp));have n1_:=qal.mk (Kd.Q_lower ho0 (qad (by repeat(first|(with_reducible first|exact HB.out|apply qar|apply qap|apply qaq|refine qam ?_ (IsS122.ge HI475.out)|refine qam ?_ GE472.out)|exact HB.out))));have n2_:=qal.mk (hb);have n3_:=qal.mk (hi);clear BK472;clear HB;clear HI475;have BK472:=n0_;have HO479:=n1_;have HB:=n2_;have HI475:=n3_;clear n0_ n1_ n2_ n3_;(try clear hb);(try clear hb2);(try clear hk);(try clear hi);(try clear ho0);have hnb7:=NB472_475.out;have hnc7:=NB475_472.out;have hcz8_0:w6.cell? ⟨gb472,0,none⟩=some (.int .i64 0):=(qab BK472.out 0).trans rfl;have hcz8_1:w6.cell? ⟨gb472,1,none⟩=some (.slice none 0 0):=(qab BK472.out 1).trans rfl;have hfz8_0:=qaa BK472.out 0;have hfz8_1:=qaa BK472.out 1;obtain⟨Ao9,co9,eo9,_⟩:=Kd.Q_slice HO479.out;subst eo9))
 refine bodyPost_ret (results_cell_row rfl _ _ gb472 36 #[.int .i64 t476,.slice Ao9 t477.length co9] (0,0) _ rfl (by(with_reducible repeat(first|refine qag ?_ _|refine qah ?_|refine qaf ?_ _));refine qan (cs:=#[.int .i64 t476,.slice none 0 0]) ?_ 1 _ rfl;(with_reducible repeat(first|refine qag ?_ _|refine qah ?_|refine qaf ?_ _));refine qan (cs:=#[.int .i64 0,.slice none 0 0]) ?_ 0 _ rfl;(with_reducible repeat(first|refine qag ?_ _|refine qah ?_|refine qaf ?_ _));exact BK472.out) Try.underlying36 rfl (by kernel_rfl)) rfl ?_
 exact⟨_,za9,by(with_reducible repeat(first|apply Kd.Q_alloc|apply Kd.Q_drewN|apply Kd.Q_drew));exact Kd.Q_mono (Kd.Q_far (p:=⟨gb472,1,none⟩) (Kd.Q_far (p:=⟨gb472,0,none⟩) (Kd.Q_types HO479.out BK472.out (by decide)) (fun _ hk=>hk.2) (.int .i64 t476)) (fun _ hk=>hk.2) (.slice Ao9 t477.length co9)) (fun _ hk=>trivial),by repeat(first|(with_reducible first|exact HB.out|apply qar|apply qap|apply qaq|refine qam ?_ (IsS122.ge HI475.out)|refine qam ?_ GE472.out)|exact HB.out)⟩
def spec_StockFree.f (k:Nat) (a0_0:Int) (l0_1:List (S46)):Option (Int):=(spec_StockOk.f k a0_0 l0_1).bind fun t482=>(if t482=true then((spec_l2Free.f k a0_0 l0_1).bind fun t483=>(some t483)) else(some (-1)))
theorem spec_StockFree.mono:∀a0 a1 k,LeO (spec_StockFree.f k a0 a1) (spec_StockFree.f (k+1) a0 a1):=by
 intro a0 a1 k
 unfold spec_StockFree.f
 repeat' first
   |(with_reducible exact spec_StockOk.mono _ _ _)
   |(with_reducible exact spec_l2Free.mono _ _ _)
   |(with_reducible exact LeO.refl _)
   |(with_reducible exact LeO.none _)
   |(with_reducible refine LeO.ite ?_ ?_)
   |(with_reducible refine LeO.bind ?_ (fun _=>?_))
   |exact spec_StockOk.mono _ _ _
   |exact spec_l2Free.mono _ _ _
   |exact LeO.none _
   |refine LeO.ite ?_ ?_
   |refine LeO.bind ?_ (fun _=>?_)
set_option maxHeartbeats 8000000 in
set_option maxRecDepth 100000 in
theorem spec_StockFree.calls (k:Nat) (a0_0:Int) (A0_1:Option Addr) (c0_1:Nat) (l0_1:List (S46)) (r:Int) (w:World) (hr0_1:Kd.C k46 w A0_1 l0_1.length l0_1) (hc0_1:l0_1.length≤c0_1) (h:spec_StockFree.f k a0_0 l0_1=some r) :
  Calls Try.prog 30 #[.agg #[.int .i64 a0_0,.slice A0_1 l0_1.length c0_1]] w fun e w'=>e=.returned (.int .i64 r)∧Below w.heap.size w w':=by
 have hu36:=Try.underlying36
 have HR0_1:=qal.mk hr0_1
 have HC0_1:=qal.mk hc0_1
 clear hr0_1 hc0_1
 have HB:=qal.mk (Below.refl w.heap.size w)
 have H:((spec_StockOk.f k a0_0 l0_1).bind fun t482=>(if t482=true then((spec_l2Free.f k a0_0 l0_1).bind fun t483=>(some t483)) else(some (-1))))=some r:=h
 clear h
 replace H:=Option.bind_eq_some_iff.mp H
 obtain⟨t482,A20,H⟩:=H
 replace H:(if t482=true then((spec_l2Free.f k a0_0 l0_1).bind fun t483=>(some t483)) else(some (-1)))=some r:=H
 have A2:=qal.mk A20
 clear A20
 by_cases c3:t482=true
 ·subst c3
  have H1:((spec_l2Free.f k a0_0 l0_1).bind fun t483=>(some t483))=some r:=by rw[if_pos rfl] at H;exact H
  clear H
  have H:=H1
  clear H1
  replace H:=Option.bind_eq_some_iff.mp H
  obtain⟨t483,A40,H⟩:=H
  replace H:(some t483)=some r:=H
  have A4:=qal.mk A40
  clear A40
  obtain rfl:=Option.some.inj H
  go_enter Try.func30,Try.ntmps30
  go_wp2_with(first|((with_reducible refine qak (N:=1) rfl ?_);refine qaj ?hg (N:=1) ?hd (cs:=#[.int .i64 a0_0,.slice A0_1 l0_1.length c0_1]) (t:=36) ?hr ?_;(case hd=>rfl);(case hg=>rfl);(case hr=>first|(go_simp;done)|(go_simp;rfl));intro gb481 hg w5 hbox hb;have n0_:=qal.mk (qae (za2 HB) hb);have n1_:=qal.mk (hbox);have n2_:=qal.mk ((by rw[hg];exact(qad (za2 HB)):w.heap.size≤gb481));have n3_:=qal.mk ((by rw[hg];exact(qad (za2 HB)):w.heap.size≤gb481));clear HB;have HB:=n0_;have BK481:=n1_;have GW481:=n2_;have GE481:=n3_;clear n0_ n1_ n2_ n3_;clear hb hbox hg;have hcz6_0:w5.cell? ⟨gb481,0,none⟩=some (.int .i64 a0_0):=(qab BK481.out 0).trans rfl;have hcz6_1:w5.cell? ⟨gb481,1,none⟩=some (.slice A0_1 l0_1.length c0_1):=(qab BK481.out 1).trans rfl;have hfz6_0:=qaa BK481.out 0;have hfz6_1:=qaa BK481.out 1)|((with_reducible refine qai (f:=28) rfl ?_);refine qau (some 4) rfl rfl Try.func28 (by kernel_rfl) rfl #[.agg #[.int .i64 a0_0,.slice A0_1 l0_1.length c0_1]] rfl (by(try simp only[List.map_toArray,List.map_cons,List.map_nil]);first|done|rfl|(simp only[List.length_drop,List.length_take];rfl)) ?_;(with_reducible refine(spec_StockOk.calls k a0_0 _ _ l0_1 true _ ?side1 ?side2 A2.out).mono ?_);(case side1=>repeat(first|exact(Kd.C_below HR0_1.out HB.out)|(with_reducible refine Kd.C_alloc ?_ _)|(with_reducible refine Kd.C_drewN ?_ _)|(with_reducible refine Kd.C_drew ?_)));(case side2=>exact HC0_1.out);rintro e w7 ⟨rfl,hb⟩;refine⟨_,rfl,?_⟩;have n0_:=qal.mk (qac (g:=gb481) (o:=.cells #[.int .i64 a0_0,.slice A0_1 l0_1.length c0_1] 36 (0,0)) (za0 BK481) hb);have n1_:=qal.mk (qae (za1 HB GE481) hb);clear BK481;clear HB;have BK481:=n0_;have HB:=n1_;clear n0_ n1_;(try clear hb);(try clear hb2);(try clear hk);(try clear hi);have hcz8_0:w7.cell? ⟨gb481,0,none⟩=some (.int .i64 a0_0):=(qab BK481.out 0).trans rfl;have hcz8_1:w7.cell? ⟨gb481,1,none⟩=some (.slice A0_1 l0_1.length c0_1):=(qab BK481.out 1).trans rfl;have hfz8_0:=qaa BK481.out 0;have hfz8_1:=qaa BK481.out 1)|((with_reducible refine qai (f:=73) rfl ?_);refine qau (some 7) rfl rfl Try.func73 (by kernel_rfl) rfl #[.agg #[.int .i64 a0_0,.slice A0_1 l0_1.length c0_1]] rfl (by(try simp only[List.map_toArray,List.map_cons,List.map_nil]);first|done|rfl|(simp only[List.length_drop,List.length_take];rfl)) ?_;(with_reducible refine(spec_l2Free.calls k a0_0 _ _ l0_1 t483 _ ?side1 ?side2 A4.out).mono ?_);(case side1=>repeat(first|exact(Kd.C_below HR0_1.out HB.out)|(with_reducible refine Kd.C_alloc ?_ _)|(with_reducible refine Kd.C_drewN ?_ _)|(with_reducible refine Kd.C_drew ?_)));(case side2=>exact HC0_1.out);rintro e w9 ⟨rfl,hb⟩;refine⟨_,rfl,?_⟩;have n0_:=qal.mk (qac (g:=gb481) (o:=.cells #[.int .i64 a0_0,.slice A0_1 l0_1.length c0_1] 36 (0,0)) (za0 BK481) hb);have n1_:=qal.mk (qae (za1 HB GE481) hb);clear BK481;clear HB;have BK481:=n0_;have HB:=n1_;clear n0_ n1_;(try clear hb);(try clear hb2);(try clear hk);(try clear hi)))
  go_ret
  exact⟨za9,za1 HB GE481⟩
 ·replace c3:=Bool.eq_false_iff.mpr c3
  subst c3
  have H1:(some (-1))=some r:=by rw[if_neg (show ¬(false=true) by decide)] at H;exact H
  clear H
  have H:=H1
  clear H1
  obtain rfl:=Option.some.inj H
  go_enter Try.func30,Try.ntmps30
  go_wp2_with(first|((with_reducible refine qak (N:=1) rfl ?_);refine qaj ?hg (N:=1) ?hd (cs:=#[.int .i64 a0_0,.slice A0_1 l0_1.length c0_1]) (t:=36) ?hr ?_;(case hd=>rfl);(case hg=>rfl);(case hr=>first|(go_simp;done)|(go_simp;rfl));intro gb481 hg w10 hbox hb;have n0_:=qal.mk (qae (za2 HB) hb);have n1_:=qal.mk (hbox);have n2_:=qal.mk ((by rw[hg];exact(qad (za2 HB)):w.heap.size≤gb481));have n3_:=qal.mk ((by rw[hg];exact(qad (za2 HB)):w.heap.size≤gb481));clear HB;have HB:=n0_;have BK481:=n1_;have GW481:=n2_;have GE481:=n3_;clear n0_ n1_ n2_ n3_;clear hb hbox hg;have hcz11_0:w10.cell? ⟨gb481,0,none⟩=some (.int .i64 a0_0):=(qab BK481.out 0).trans rfl;have hcz11_1:w10.cell? ⟨gb481,1,none⟩=some (.slice A0_1 l0_1.length c0_1):=(qab BK481.out 1).trans rfl;have hfz11_0:=qaa BK481.out 0;have hfz11_1:=qaa BK481.out 1)|((with_reducible refine qai (f:=28) rfl ?_);refine qau (some 4) rfl rfl Try.func28 (by kernel_rfl) rfl #[.agg #[.int .i64 a0_0,.slice A0_1 l0_1.length c0_1]] rfl (by(try simp only[List.map_toArray,List.map_cons,List.map_nil]);first|done|rfl|(simp only[List.length_drop,List.length_take];rfl)) ?_;(with_reducible refine(spec_StockOk.calls k a0_0 _ _ l0_1 false _ ?side1 ?side2 A2.out).mono ?_);(case side1=>repeat(first|exact(Kd.C_below HR0_1.out HB.out)|(with_reducible refine Kd.C_alloc ?_ _)|(with_reducible refine Kd.C_drewN ?_ _)|(with_reducible refine Kd.C_drew ?_)));(case side2=>exact HC0_1.out);rintro e w12 ⟨rfl,hb⟩;refine⟨_,rfl,?_⟩;have n0_:=qal.mk (qac (g:=gb481) (o:=.cells #[.int .i64 a0_0,.slice A0_1 l0_1.length c0_1] 36 (0,0)) (za0 BK481) hb);have n1_:=qal.mk (qae (za1 HB GE481) hb);clear BK481;clear HB;have BK481:=n0_;have HB:=n1_;clear n0_ n1_;(try clear hb);(try clear hb2);(try clear hk);(try clear hi)))
  go_ret
  exact⟨za9,za1 HB GE481⟩
mutual
def laws_FnStockFree.j0:Nat→Int→Bool→Int→List (S46)→Option (Bool)
 |0,_,_,_,_=>none
 |k+1,x4,x22,x489000,x489001=>if x22=true then((spec_StockFree.f k x489000 x489001).bind fun t492=>(some (x4 == t492))) else(laws_FnStockFree.l0 k x4 0 0 x489000 x489001)
def laws_FnStockFree.l0:Nat→Int→Int→Int→Int→List (S46)→Option (Bool)
 |0,_,_,_,_,_=>none
 |k+1,x4,x5,x6,x489000,x489001=>if x6<(x489001.length:Int) then(if 0≤x6 then(if((rd_T46 x489001 x6).f1)=1 then(laws_FnStockFree.l0 k x4 (wrap64 (x5+((rd_T46 x489001 x6).f0))) (wrap64 (x6+1)) x489000 x489001) else(if((rd_T46 x489001 x6).f1)=2 then(laws_FnStockFree.l0 k x4 (wrap64 (x5+((rd_T46 x489001 x6).f0))) (wrap64 (x6+1)) x489000 x489001) else(laws_FnStockFree.l0 k x4 x5 (wrap64 (x6+1)) x489000 x489001))) else(none)) else(if(wrap64 (x4+x5))=x489000 then(some (decide (x4≥0))) else(some false))
end
def laws_FnStockFree.f (k:Nat) (l0:List Int):Option (Bool):=if(l0.length:Int)>1048576 then(some true) else((spec_DrawStockFree.f k l0).bind fun bt484=>((impl_StockFree.f k bt484.1 bt484.2).bind fun t489=>((spec_StockFree.f k bt484.1 bt484.2).bind fun t490=>(if t489=t490 then((spec_StockOk.f k bt484.1 bt484.2).bind fun t491=>(laws_FnStockFree.j0 k t489 (!t491) bt484.1 bt484.2)) else(laws_FnStockFree.j0 k t489 true bt484.1 bt484.2)))))
theorem laws_FnStockFree.mono_l:∀k,(∀y0 y1 y2 y3,LeO (laws_FnStockFree.j0 k y0 y1 y2 y3) (laws_FnStockFree.j0 (k+1) y0 y1 y2 y3))∧(∀y0 y1 y2 y3 y4,LeO (laws_FnStockFree.l0 k y0 y1 y2 y3 y4) (laws_FnStockFree.l0 (k+1) y0 y1 y2 y3 y4))
 |0=>⟨fun _ _ _ _ r h=>by simp[laws_FnStockFree.j0] at h,fun _ _ _ _ _ r h=>by simp[laws_FnStockFree.l0] at h⟩
 |k+1=>by
  obtain⟨ih0,ih1⟩:=laws_FnStockFree.mono_l k
  refine⟨?_,?_⟩
  ·intro y0 y1 y2 y3
   unfold laws_FnStockFree.j0
   repeat' first
   |(with_reducible exact ih0 _ _ _ _)
   |(with_reducible exact ih1 _ _ _ _ _)
   |(with_reducible exact impl_StockFree.mono _ _ _)
   |(with_reducible exact spec_DrawStockFree.mono _ _)
   |(with_reducible exact spec_StockFree.mono _ _ _)
   |(with_reducible exact spec_StockOk.mono _ _ _)
   |(with_reducible exact LeO.refl _)
   |(with_reducible exact LeO.none _)
   |(with_reducible refine LeO.ite ?_ ?_)
   |(with_reducible refine LeO.bind ?_ (fun _=>?_))
   |exact ih0 _ _ _ _
   |exact ih1 _ _ _ _ _
   |exact impl_StockFree.mono _ _ _
   |exact spec_DrawStockFree.mono _ _
   |exact spec_StockFree.mono _ _ _
   |exact spec_StockOk.mono _ _ _
   |exact LeO.none _
   |refine LeO.ite ?_ ?_
   |refine LeO.bind ?_ (fun _=>?_)
  ·intro y0 y1 y2 y3 y4
   unfold laws_FnStockFree.l0
   repeat' first
   |(with_reducible exact ih0 _ _ _ _)
   |(with_reducible exact ih1 _ _ _ _ _)
   |(with_reducible exact impl_StockFree.mono _ _ _)
   |(with_reducible exact spec_DrawStockFree.mono _ _)
   |(with_reducible exact spec_StockFree.mono _ _ _)
   |(with_reducible exact spec_StockOk.mono _ _ _)
   |(with_reducible exact LeO.refl _)
   |(with_reducible exact LeO.none _)
   |(with_reducible refine LeO.ite ?_ ?_)
   |(with_reducible refine LeO.bind ?_ (fun _=>?_))
   |exact ih0 _ _ _ _
   |exact ih1 _ _ _ _ _
   |exact impl_StockFree.mono _ _ _
   |exact spec_DrawStockFree.mono _ _
   |exact spec_StockFree.mono _ _ _
   |exact spec_StockOk.mono _ _ _
   |exact LeO.none _
   |refine LeO.ite ?_ ?_
   |refine LeO.bind ?_ (fun _=>?_)
theorem laws_FnStockFree.mono:∀a0 k,LeO (laws_FnStockFree.f k a0) (laws_FnStockFree.f (k+1) a0):=by
 intro a0 k
 obtain⟨ih0,ih1⟩:=laws_FnStockFree.mono_l k
 unfold laws_FnStockFree.f
 repeat' first
   |(with_reducible exact ih0 _ _ _ _)
   |(with_reducible exact ih1 _ _ _ _ _)
   |(with_reducible exact impl_StockFree.mono _ _ _)
   |(with_reducible exact spec_DrawStockFree.mono _ _)
   |(with_reducible exact spec_StockFree.mono _ _ _)
   |(with_reducible exact spec_StockOk.mono _ _ _)
   |(with_reducible exact LeO.refl _)
   |(with_reducible exact LeO.none _)
   |(with_reducible refine LeO.ite ?_ ?_)
   |(with_reducible refine LeO.bind ?_ (fun _=>?_))
   |exact ih0 _ _ _ _
   |exact ih1 _ _ _ _ _
   |exact impl_StockFree.mono _ _ _
   |exact spec_DrawStockFree.mono _ _
   |exact spec_StockFree.mono _ _ _
   |exact spec_StockOk.mono _ _ _
   |exact LeO.none _
   |refine LeO.ite ?_ ?_
   |refine LeO.bind ?_ (fun _=>?_)
set_option maxHeartbeats 8000000 in
set_option maxRecDepth 100000 in
theorem laws_FnStockFree.calls (k:Nat) (A0:Option Addr) (c0:Nat) (l0:List Int) (r:Bool) (w:World) (hr0:Kd.C (Kd.int .u8) w A0 l0.length l0) (hc0:l0.length≤c0) (h:laws_FnStockFree.f k l0=some r) :
  Calls Try.prog 6 #[.slice A0 l0.length c0] w fun e w'=>e=.returned (.bool r)∧Below w.heap.size w w':=by
 have hu36:=Try.underlying36
 have HR0:=qal.mk hr0
 have HC0:=qal.mk hc0
 clear hr0 hc0
 have HB:=qal.mk (Below.refl w.heap.size w)
 have H:(if(l0.length:Int)>1048576 then(some true) else((spec_DrawStockFree.f k l0).bind fun bt484=>((impl_StockFree.f k bt484.1 bt484.2).bind fun t489=>((spec_StockFree.f k bt484.1 bt484.2).bind fun t490=>(if t489=t490 then((spec_StockOk.f k bt484.1 bt484.2).bind fun t491=>(laws_FnStockFree.j0 k t489 (!t491) bt484.1 bt484.2)) else(laws_FnStockFree.j0 k t489 true bt484.1 bt484.2))))))=some r:=h
 clear h
 by_cases c2:(l0.length:Int)>1048576
 ·rw[if_pos c2] at H
  have c2b0:decide (1048576<(l0.length:Int))=true:=decide_eq_true c2
  have c2b1:decide (1048576<l0.length)=true:=decide_eq_true (by omega)
  clear c2
  obtain rfl:=Option.some.inj H
  go_enter Try.func6,Try.ntmps6
  go_wp2
  go_ret
  exact⟨za9,za2 HB⟩
 ·rw[if_neg c2] at H
  have c2b0:decide (1048576<(l0.length:Int))=false:=decide_eq_false c2
  have c2b1:decide (1048576<l0.length)=false:=decide_eq_false (by omega)
  clear c2
  replace H:=Option.bind_eq_some_iff.mp H
  obtain⟨⟨t484,t485⟩,A30,H⟩:=H
  replace H:((impl_StockFree.f k t484 t485).bind fun t489=>((spec_StockFree.f k t484 t485).bind fun t490=>(if t489=t490 then((spec_StockOk.f k t484 t485).bind fun t491=>(laws_FnStockFree.j0 k t489 (!t491) t484 t485)) else(laws_FnStockFree.j0 k t489 true t484 t485))))=some r:=H
  have A3:=qal.mk A30
  clear A30
  replace H:=Option.bind_eq_some_iff.mp H
  obtain⟨t489,A40,H⟩:=H
  replace H:((spec_StockFree.f k t484 t485).bind fun t490=>(if t489=t490 then((spec_StockOk.f k t484 t485).bind fun t491=>(laws_FnStockFree.j0 k t489 (!t491) t484 t485)) else(laws_FnStockFree.j0 k t489 true t484 t485)))=some r:=H
  have A4:=qal.mk A40
  clear A40
  have HC5:=qal.mk H
  clear H
  go_enter Try.func6,Try.ntmps6
  go_upto_region 5 with(first|((with_reducible refine qai (f:=29) rfl ?_);refine qau (some 11) rfl rfl Try.func29 (by kernel_rfl) rfl #[.slice A0 l0.length c0] rfl (by(try simp only[List.map_toArray,List.map_cons,List.map_nil]);first|done|rfl|(simp only[List.length_drop,List.length_take];rfl)) ?_;(with_reducible refine(spec_DrawStockFree.calls k _ _ l0 t484 t485 _ ?side1 ?side2 A3.out).mono ?_);(case side1=>repeat(first|exact HR0.out|(with_reducible refine Kd.C_alloc ?_ _)|(with_reducible refine Kd.C_drewN ?_ _)|(with_reducible refine Kd.C_drew ?_)));(case side2=>exact HC0.out);rintro e w6 ⟨v486,rfl,ho0,hb⟩;refine⟨_,rfl,?_⟩;have n0_:=qal.mk (Kd.Q_lower ho0 (qad (za2 HB)));have n1_:=qal.mk (qae (za2 HB) hb);clear HB;have HO487:=n0_;have HB:=n1_;clear n0_ n1_;(try clear hb);(try clear hb2);(try clear hk);(try clear hi);(try clear ho0))|((with_reducible refine qak (N:=3) rfl ?_);refine qaj ?hg (N:=3) ?hd (cs:=#[.int .i64 0,.slice none 0 0]) (t:=36) ?hr ?_;(case hd=>rfl);(case hg=>rfl);(case hr=>first|(go_simp;done)|(go_simp;rfl));intro gb488 hg w7 hbox hb;have n0_:=qal.mk (Kd.Q_below (za16 HO487) hb);have n1_:=qal.mk (qae (za2 HB) hb);have n2_:=qal.mk (hbox);have n3_:=qal.mk ((by rw[hg];exact(qad (za2 HB)):w.heap.size≤gb488));have n4_:=qal.mk ((by rw[hg];exact(qad (za2 HB)):w.heap.size≤gb488));clear HO487;clear HB;have HO487:=n0_;have HB:=n1_;have BK488:=n2_;have GW488:=n3_;have GE488:=n4_;clear n0_ n1_ n2_ n3_ n4_;clear hb hbox hg;have hcz8_0:w7.cell? ⟨gb488,0,none⟩=some (.int .i64 0):=(qab BK488.out 0).trans rfl;have hcz8_1:w7.cell? ⟨gb488,1,none⟩=some (.slice none 0 0):=(qab BK488.out 1).trans rfl;have hfz8_0:=qaa BK488.out 0;have hfz8_1:=qaa BK488.out 1;obtain⟨Ao9,co9,eo9,_⟩:=Kd.Q_slice HO487.out;subst eo9)|((with_reducible refine qai (f:=26) rfl ?_);refine qau (some 13) rfl rfl Try.func26 (by kernel_rfl) rfl #[.agg #[.int .i64 t484,.slice Ao9 t485.length co9]] rfl (by(try simp only[List.map_toArray,List.map_cons,List.map_nil]);first|done|rfl|(simp only[List.length_drop,List.length_take];rfl)) ?_;(with_reducible refine(impl_StockFree.calls k t484 _ _ t485 t489 _ ?side1 ?side2 A4.out).mono ?_);(case side1=>refine(Kd.Q_reads' (e:=46) (base:=w.heap.size) (ok:=fun k_=>True) (n:=t485.length) (c:=co9) ?_).2.2;exact(by(with_reducible repeat(first|apply Kd.Q_alloc|apply Kd.Q_drewN|apply Kd.Q_drew));exact(Kd.Q_mono (Kd.Q_far (p:=⟨gb488,1,none⟩) (Kd.Q_far (p:=⟨gb488,0,none⟩) (Kd.Q_types HO487.out BK488.out (by decide)) (fun _ hk=>hk.2) (.int .i64 t484)) (fun _ hk=>hk.2) (.slice Ao9 t485.length co9)) (fun _ h_=>h_.1))));(case side2=>exact(Kd.Q_reads' HO487.out).2.1);rintro e w10 ⟨rfl,hb⟩;refine⟨_,rfl,?_⟩;have n0_:=qal.mk (Kd.Q_below (by(with_reducible repeat(first|apply Kd.Q_alloc|apply Kd.Q_drewN|apply Kd.Q_drew));exact(Kd.Q_mono (Kd.Q_far (p:=⟨gb488,1,none⟩) (Kd.Q_far (p:=⟨gb488,0,none⟩) (Kd.Q_types HO487.out BK488.out (by decide)) (fun _ hk=>hk.2) (.int .i64 t484)) (fun _ hk=>hk.2) (.slice Ao9 t485.length co9)) (fun _ h_=>h_.1))) hb);have n1_:=qal.mk (qac (g:=gb488) (o:=.cells #[.int .i64 t484,.slice Ao9 t485.length co9] 36 (0,0)) (by(with_reducible repeat(first|refine qag ?_ _|refine qah ?_|refine qaf ?_ _));refine qan (cs:=#[.int .i64 t484,.slice none 0 0]) ?_ 1 _ rfl;(with_reducible repeat(first|refine qag ?_ _|refine qah ?_|refine qaf ?_ _));refine qan (cs:=#[.int .i64 0,.slice none 0 0]) ?_ 0 _ rfl;(with_reducible repeat(first|refine qag ?_ _|refine qah ?_|refine qaf ?_ _));exact BK488.out) hb);have n2_:=qal.mk (qae (za1 HB GE488) hb);clear HO487;clear BK488;clear HB;have HO487:=n0_;have BK488:=n1_;have HB:=n2_;clear n0_ n1_ n2_;(try clear hb);(try clear hb2);(try clear hk);(try clear hi)))
  (try simp only[Act.put,List.setIfInBounds_toArray,List.set_cons_zero,List.set_cons_succ])
  go_cut [22] (fun v22 wc=>∃(kq:Nat) (x22_4:Bool),v22=.bool x22_4∧qal (laws_FnStockFree.j0 kq t489 x22_4 t484 t485=some r)∧qal (kq≤k)∧qal (Kd.Q k46 46 wc w.heap.size (fun _=>True) (.slice Ao9 t485.length co9) t485)∧qal (wc.heap[gb488]?=some (.cells #[.int .i64 t484,(.slice Ao9 t485.length co9)] 36 (0,0)))∧qal (Below w.heap.size w wc))
  case first=>
   have H:=HC5.out
   clear HC5
   replace H:=Option.bind_eq_some_iff.mp H
   obtain⟨t490,A110,H⟩:=H
   replace H:(if t489=t490 then((spec_StockOk.f k t484 t485).bind fun t491=>(laws_FnStockFree.j0 k t489 (!t491) t484 t485)) else(laws_FnStockFree.j0 k t489 true t484 t485))=some r:=H
   have A11:=qal.mk A110
   clear A110
   by_cases c12:t489=t490
   ·rw[if_pos c12] at H
    have c12b0:(t489 == t490)=true:=beq_iff_eq.mpr c12
    have c12b1:(t489 != t490)=false:=bne_eq_false_iff_eq.mpr c12
    clear c12
    (first|rw[c12b0]|(simp only[qas,qat];rw[c12b0])|skip)
    replace H:=Option.bind_eq_some_iff.mp H
    obtain⟨t491,A130,H⟩:=H
    replace H:(laws_FnStockFree.j0 k t489 (!t491) t484 t485)=some r:=H
    have A13:=qal.mk A130
    clear A130
    have H':=qal.mk H
    clear H
    have hcz14_0:w10.cell? ⟨gb488,0,none⟩=some (.int .i64 t484):=(qab BK488.out 0).trans rfl
    have hcz14_1:w10.cell? ⟨gb488,1,none⟩=some (.slice Ao9 t485.length co9):=(qab BK488.out 1).trans rfl
    have hfz14_0:=qaa BK488.out 0
    have hfz14_1:=qaa BK488.out 1
    go_wp2_with(first|((with_reducible refine qai (f:=30) rfl ?_);refine qau (some 16) rfl rfl Try.func30 (by kernel_rfl) rfl #[.agg #[.int .i64 t484,.slice Ao9 t485.length co9]] rfl (by(try simp only[List.map_toArray,List.map_cons,List.map_nil]);first|done|rfl|(simp only[List.length_drop,List.length_take];rfl)) ?_;(with_reducible refine(spec_StockFree.calls k t484 _ _ t485 t490 _ ?side1 ?side2 A11.out).mono ?_);(case side1=>repeat(first|exact(Kd.Q_reads' HO487.out).2.2|(with_reducible refine Kd.C_alloc ?_ _)|(with_reducible refine Kd.C_drewN ?_ _)|(with_reducible refine Kd.C_drew ?_)));(case side2=>exact(Kd.Q_reads' HO487.out).2.1);rintro e w15 ⟨rfl,hb⟩;refine⟨_,rfl,?_⟩;have n0_:=qal.mk (Kd.Q_below (za16 HO487) hb);have n1_:=qal.mk (qac (g:=gb488) (o:=.cells #[.int .i64 t484,.slice Ao9 t485.length co9] 36 (0,0)) (za0 BK488) hb);have n2_:=qal.mk (qae (za1 HB GE488) hb);clear HO487;clear BK488;clear HB;have HO487:=n0_;have BK488:=n1_;have HB:=n2_;clear n0_ n1_ n2_;(try clear hb);(try clear hb2);(try clear hk);(try clear hi);have hcz16_0:w15.cell? ⟨gb488,0,none⟩=some (.int .i64 t484):=(qab BK488.out 0).trans rfl;have hcz16_1:w15.cell? ⟨gb488,1,none⟩=some (.slice Ao9 t485.length co9):=(qab BK488.out 1).trans rfl;have hfz16_0:=qaa BK488.out 0;have hfz16_1:=qaa BK488.out 1)|(go_at_call 28;(with_reducible refine(spec_StockOk.calls k t484 _ _ t485 t491 _ ?side1 ?side2 A13.out).mono ?_);(case side1=>repeat(first|exact(Kd.Q_reads' HO487.out).2.2|(with_reducible refine Kd.C_alloc ?_ _)|(with_reducible refine Kd.C_drewN ?_ _)|(with_reducible refine Kd.C_drew ?_)));(case side2=>exact(Kd.Q_reads' HO487.out).2.1);rintro e w17 ⟨rfl,hb⟩;have n0_:=qal.mk (Kd.Q_below (za16 HO487) hb);have n1_:=qal.mk (qac (g:=gb488) (o:=.cells #[.int .i64 t484,.slice Ao9 t485.length co9] 36 (0,0)) (za0 BK488) hb);have n2_:=qal.mk (qae (za1 HB GE488) hb);clear HO487;clear BK488;clear HB;have HO487:=n0_;have BK488:=n1_;have HB:=n2_;clear n0_ n1_ n2_;(try clear hb);(try clear hb2);(try clear hk);(try clear hi)))
    go_meet
    case rel=>exact⟨_,(!t491),(za22),H',⟨za46⟩,⟨za16 HO487⟩,⟨za0 BK488⟩,⟨za1 HB GE488⟩⟩
   ·rw[if_neg c12] at H
    have c12b0:(t489 == t490)=false:=beq_eq_false_iff_ne.mpr c12
    have c12b1:(t489 != t490)=true:=bne_iff_ne.mpr c12
    (first|rw[c12b0]|(simp only[qas,qat];rw[c12b0])|skip)
    have H':=qal.mk H
    clear H
    have hcz18_0:w10.cell? ⟨gb488,0,none⟩=some (.int .i64 t484):=(qab BK488.out 0).trans rfl
    have hcz18_1:w10.cell? ⟨gb488,1,none⟩=some (.slice Ao9 t485.length co9):=(qab BK488.out 1).trans rfl
    have hfz18_0:=qaa BK488.out 0
    have hfz18_1:=qaa BK488.out 1
    go_wp2_with(first|((with_reducible refine qai (f:=30) rfl ?_);refine qau (some 16) rfl rfl Try.func30 (by kernel_rfl) rfl #[.agg #[.int .i64 t484,.slice Ao9 t485.length co9]] rfl (by(try simp only[List.map_toArray,List.map_cons,List.map_nil]);first|done|rfl|(simp only[List.length_drop,List.length_take];rfl)) ?_;(with_reducible refine(spec_StockFree.calls k t484 _ _ t485 t490 _ ?side1 ?side2 A11.out).mono ?_);(case side1=>repeat(first|exact(Kd.Q_reads' HO487.out).2.2|(with_reducible refine Kd.C_alloc ?_ _)|(with_reducible refine Kd.C_drewN ?_ _)|(with_reducible refine Kd.C_drew ?_)));(case side2=>exact(Kd.Q_reads' HO487.out).2.1);rintro e w19 ⟨rfl,hb⟩;refine⟨_,rfl,?_⟩;have n0_:=qal.mk (Kd.Q_below (za16 HO487) hb);have n1_:=qal.mk (qac (g:=gb488) (o:=.cells #[.int .i64 t484,.slice Ao9 t485.length co9] 36 (0,0)) (za0 BK488) hb);have n2_:=qal.mk (qae (za1 HB GE488) hb);clear HO487;clear BK488;clear HB;have HO487:=n0_;have BK488:=n1_;have HB:=n2_;clear n0_ n1_ n2_;(try clear hb);(try clear hb2);(try clear hk);(try clear hi)))
    go_meet
    case rel=>exact⟨_,(true),(za22),H',⟨za46⟩,⟨za16 HO487⟩,⟨za0 BK488⟩,⟨za1 HB GE488⟩⟩
  case rest=>
   clear HC5
   try clear c1
   try clear c2
   try clear c2b0
   try clear c2b1
   try clear p2
   try clear c3
   try clear c6
   try clear c12
   try clear c12b0
   try clear c12b1
   try clear hcz14_0
   try clear hcz14_1
   try clear hcz16_0
   try clear hcz16_1
   try clear hcz18_0
   try clear hcz18_1
   try clear hcz8_0
   try clear hcz8_1
   try clear hfz14_0
   try clear hfz14_1
   try clear hfz16_0
   try clear hfz16_1
   try clear hfz18_0
   try clear hfz18_1
   try clear hfz8_0
   try clear hfz8_1
   obtain⟨kq,x22_4,rfl,HA,HJ4,HO_489001,BK488,HB⟩:=hcut
   cases kq with
   |zero=>exact absurd HA.out (by simp[laws_FnStockFree.j0])
   |succ kj4=>
    have H:=HA.out
    clear HA
    simp only[laws_FnStockFree.j0] at H
    by_cases c20:x22_4=true
    ·subst c20
     have H1:((spec_StockFree.f kj4 t484 t485).bind fun t492=>(some (t489 == t492)))=some r:=by rw[if_pos rfl] at H;exact H
     clear H
     have H:=H1
     clear H1
     replace H:=Option.bind_eq_some_iff.mp H
     obtain⟨t492,A210,H⟩:=H
     replace H:(some (t489 == t492))=some r:=H
     have A21:=qal.mk A210
     clear A210
     obtain rfl:=Option.some.inj H
     have hcz22_0:wc.cell? ⟨gb488,0,none⟩=some (.int .i64 t484):=(qab BK488.out 0).trans rfl
     have hcz22_1:wc.cell? ⟨gb488,1,none⟩=some (.slice Ao9 t485.length co9):=(qab BK488.out 1).trans rfl
     have hfz22_0:=qaa BK488.out 0
     have hfz22_1:=qaa BK488.out 1
     go_wp2_with(first|((with_reducible refine qai (f:=30) rfl ?_);refine qau (some 25) rfl rfl Try.func30 (by kernel_rfl) rfl #[.agg #[.int .i64 t484,.slice Ao9 t485.length co9]] rfl (by(try simp only[List.map_toArray,List.map_cons,List.map_nil]);first|done|rfl|(simp only[List.length_drop,List.length_take];rfl)) ?_;(with_reducible refine(spec_StockFree.calls kj4 t484 _ _ t485 t492 _ ?side1 ?side2 A21.out).mono ?_);(case side1=>repeat(first|exact(Kd.Q_reads' HO_489001.out).2.2|(with_reducible refine Kd.C_alloc ?_ _)|(with_reducible refine Kd.C_drewN ?_ _)|(with_reducible refine Kd.C_drew ?_)));(case side2=>exact(Kd.Q_reads' HO_489001.out).2.1);rintro e w23 ⟨rfl,hb⟩;refine⟨_,rfl,?_⟩;have n0_:=qal.mk (Kd.Q_below (za16 HO_489001) hb);have n1_:=qal.mk (qac (g:=gb488) (o:=.cells #[.int .i64 t484,.slice Ao9 t485.length co9] 36 (0,0)) (za0 BK488) hb);have n2_:=qal.mk (qae (za1 HB GE488) hb);clear HO_489001;clear BK488;clear HB;have HO_489001:=n0_;have BK488:=n1_;have HB:=n2_;clear n0_ n1_ n2_;(try clear hb);(try clear hb2);(try clear hk);(try clear hi)))
     go_ret
     exact⟨za9,za1 HB GE488⟩
    ·replace c20:=Bool.eq_false_iff.mpr c20
     subst c20
     have H1:(laws_FnStockFree.l0 kj4 t489 0 0 t484 t485)=some r:=by rw[if_neg (show ¬(false=true) by decide)] at H;exact H
     clear H
     have H:=H1
     clear H1
     have H':=qal.mk H
     clear H
     go_wp2
     go_loopg [5,6] kj4 (fun kq v5 v6 w'=>∃(x5_2:Int) (x6_2:Int),v5=.int .i64 x5_2∧v6=.int .i64 x6_2∧qal (laws_FnStockFree.l0 kq t489 x5_2 x6_2 t484 t485=some r)∧qal (kq≤kj4)∧qal (Kd.Q k46 46 w' w.heap.size (fun _=>True) (.slice Ao9 t485.length co9) t485)∧qal (w'.heap[gb488]?=some (.cells #[.int .i64 t484,(.slice Ao9 t485.length co9)] 36 (0,0)))∧qal (Below w.heap.size w w'))
     case atStart=>exact⟨(0),(0),(za22),(za22),H',⟨Nat.le_refl _⟩,⟨za16 HO_489001⟩,⟨za0 BK488⟩,⟨za1 HB GE488⟩⟩
     case round=>
      clear H'
      try clear c1
      try clear c2
      try clear c2b0
      try clear c2b1
      try clear p2
      try clear c3
      try clear c6
      try clear c12
      try clear c12b0
      try clear c12b1
      try clear c20
      try clear hcz14_0
      try clear hcz14_1
      try clear hcz16_0
      try clear hcz16_1
      try clear hcz18_0
      try clear hcz18_1
      try clear hcz22_0
      try clear hcz22_1
      try clear hcz8_0
      try clear hcz8_1
      try clear hfz14_0
      try clear hfz14_1
      try clear hfz16_0
      try clear hfz16_1
      try clear hfz18_0
      try clear hfz18_1
      try clear hfz22_0
      try clear hfz22_1
      try clear hfz8_0
      try clear hfz8_1
      try clear p2
      obtain⟨x5_2,x6_2,rfl,rfl,HA,HK2,HO_489001,BK488,HB⟩:=hrel
      cases gk with
      |zero=>exact absurd HA.out (by simp[laws_FnStockFree.l0])
      |succ k2=>
       have H:=HA.out
       clear HA
       simp only[laws_FnStockFree.l0] at H
       by_cases c24:x6_2<(t485.length:Int)
       ·rw[if_pos c24] at H
        have c24b0:decide (x6_2<(t485.length:Int))=true:=decide_eq_true c24
        clear c24
        by_cases c25:0≤x6_2
        ·rw[if_pos c25] at H
         have c25b0:decide (0≤x6_2)=true:=decide_eq_true c25
         clear c25
         by_cases c26:((rd_T46 t485 x6_2).f1)=1
         ·rw[if_pos c26] at H
          have c26b0:(((rd_T46 t485 x6_2).f1) == 1)=true:=beq_iff_eq.mpr c26
          have c26b1:(((rd_T46 t485 x6_2).f1) != 1)=false:=bne_eq_false_iff_eq.mpr c26
          clear c26
          have H':=qal.mk H
          clear H
          have hcz27_0:wr.cell? ⟨gb488,0,none⟩=some (.int .i64 t484):=(qab BK488.out 0).trans rfl
          have hcz27_1:wr.cell? ⟨gb488,1,none⟩=some (.slice Ao9 t485.length co9):=(qab BK488.out 1).trans rfl
          have hfz27_0:=qaa BK488.out 0
          have hfz27_1:=qaa BK488.out 1
          have p493:0≤(x6_2:Int):=of_decide_eq_true (za8)
          have q493:x6_2<(t485.length:Int):=of_decide_eq_true (za8)
          obtain⟨ad493,e493,hx493_0,hx493_1⟩:=at_T46 (Kd.Q_reads' HO_489001.out).2.2 x6_2 p493 q493
          cases e493
          replace p493:=eq_true p493
          replace q493:=eq_true q493
          have p494:0≤(x6_2:Int):=of_decide_eq_true (za8)
          have q494:x6_2<(t485.length:Int):=of_decide_eq_true (za8)
          obtain⟨ad494,e494,hx494_0,hx494_1⟩:=at_T46 (Kd.Q_reads' HO_489001.out).2.2 x6_2 p494 q494
          obtain rfl:ad493=ad494:=(by injection e494)
          replace p494:=eq_true p494
          replace q494:=eq_true q494
          go_wp2
          go_roundg k2
          case measure=>have:=HJ4.out;have:=HK2.out;omega
          case rel=>exact⟨(wrap64 (x5_2+((rd_T46 t485 x6_2).f0))),(wrap64 (x6_2+1)),(za22),(za22),H',⟨by have:=HJ4.out;have:=HK2.out;omega⟩,⟨za16 HO_489001⟩,⟨za0 BK488⟩,⟨za1 HB GE488⟩⟩
         ·rw[if_neg c26] at H
          have c26b0:(((rd_T46 t485 x6_2).f1) == 1)=false:=beq_eq_false_iff_ne.mpr c26
          have c26b1:(((rd_T46 t485 x6_2).f1) != 1)=true:=bne_iff_ne.mpr c26
          by_cases c28:((rd_T46 t485 x6_2).f1)=2
          ·rw[if_pos c28] at H
           have c28b0:(((rd_T46 t485 x6_2).f1) == 2)=true:=beq_iff_eq.mpr c28
           have c28b1:(((rd_T46 t485 x6_2).f1) != 2)=false:=bne_eq_false_iff_eq.mpr c28
           clear c28
           have H':=qal.mk H
           clear H
           have hcz29_0:wr.cell? ⟨gb488,0,none⟩=some (.int .i64 t484):=(qab BK488.out 0).trans rfl
           have hcz29_1:wr.cell? ⟨gb488,1,none⟩=some (.slice Ao9 t485.length co9):=(qab BK488.out 1).trans rfl
           have hfz29_0:=qaa BK488.out 0
           have hfz29_1:=qaa BK488.out 1
           have p493:0≤(x6_2:Int):=of_decide_eq_true (za8)
           have q493:x6_2<(t485.length:Int):=of_decide_eq_true (za8)
           obtain⟨ad493,e493,hx493_0,hx493_1⟩:=at_T46 (Kd.Q_reads' HO_489001.out).2.2 x6_2 p493 q493
           cases e493
           replace p493:=eq_true p493
           replace q493:=eq_true q493
           have p495:0≤(x6_2:Int):=of_decide_eq_true (za8)
           have q495:x6_2<(t485.length:Int):=of_decide_eq_true (za8)
           obtain⟨ad495,e495,hx495_0,hx495_1⟩:=at_T46 (Kd.Q_reads' HO_489001.out).2.2 x6_2 p495 q495
           obtain rfl:ad493=ad495:=(by injection e495)
           replace p495:=eq_true p495
           replace q495:=eq_true q495
           have p496:0≤(x6_2:Int):=of_decide_eq_true (za8)
           have q496:x6_2<(t485.length:Int):=of_decide_eq_true (za8)
           obtain⟨ad496,e496,hx496_0,hx496_1⟩:=at_T46 (Kd.Q_reads' HO_489001.out).2.2 x6_2 p496 q496
           obtain rfl:ad493=ad496:=(by injection e496)
           replace p496:=eq_true p496
           replace q496:=eq_true q496
           go_wp2
           go_roundg k2
           case measure=>have:=HJ4.out;have:=HK2.out;omega
           case rel=>exact⟨(wrap64 (x5_2+((rd_T46 t485 x6_2).f0))),(wrap64 (x6_2+1)),(za22),(za22),H',⟨by have:=HJ4.out;have:=HK2.out;omega⟩,⟨za16 HO_489001⟩,⟨za0 BK488⟩,⟨za1 HB GE488⟩⟩
          ·rw[if_neg c28] at H
           have c28b0:(((rd_T46 t485 x6_2).f1) == 2)=false:=beq_eq_false_iff_ne.mpr c28
           have c28b1:(((rd_T46 t485 x6_2).f1) != 2)=true:=bne_iff_ne.mpr c28
           have H':=qal.mk H
           clear H
           have hcz30_0:wr.cell? ⟨gb488,0,none⟩=some (.int .i64 t484):=(qab BK488.out 0).trans rfl
           have hcz30_1:wr.cell? ⟨gb488,1,none⟩=some (.slice Ao9 t485.length co9):=(qab BK488.out 1).trans rfl
           have hfz30_0:=qaa BK488.out 0
           have hfz30_1:=qaa BK488.out 1
           have p493:0≤(x6_2:Int):=of_decide_eq_true (za8)
           have q493:x6_2<(t485.length:Int):=of_decide_eq_true (za8)
           obtain⟨ad493,e493,hx493_0,hx493_1⟩:=at_T46 (Kd.Q_reads' HO_489001.out).2.2 x6_2 p493 q493
           cases e493
           replace p493:=eq_true p493
           replace q493:=eq_true q493
           have p495:0≤(x6_2:Int):=of_decide_eq_true (za8)
           have q495:x6_2<(t485.length:Int):=of_decide_eq_true (za8)
           obtain⟨ad495,e495,hx495_0,hx495_1⟩:=at_T46 (Kd.Q_reads' HO_489001.out).2.2 x6_2 p495 q495
           obtain rfl:ad493=ad495:=(by injection e495)
           replace p495:=eq_true p495
           replace q495:=eq_true q495
           go_wp2
           go_roundg k2
           case measure=>have:=HJ4.out;have:=HK2.out;omega
           case rel=>exact⟨(x5_2),(wrap64 (x6_2+1)),(za22),(za22),H',⟨by have:=HJ4.out;have:=HK2.out;omega⟩,⟨za16 HO_489001⟩,⟨za0 BK488⟩,⟨za1 HB GE488⟩⟩
        ·rw[if_neg c25] at H
         exact absurd H (by simp)
       ·rw[if_neg c24] at H
        have c24b0:decide (x6_2<(t485.length:Int))=false:=decide_eq_false c24
        clear c24
        by_cases c31:(wrap64 (t489+x5_2))=t484
        ·rw[if_pos c31] at H
         have c31b0:((wrap64 (t489+x5_2)) == t484)=true:=beq_iff_eq.mpr c31
         have c31b1:((wrap64 (t489+x5_2)) != t484)=false:=bne_eq_false_iff_eq.mpr c31
         clear c31
         obtain rfl:=Option.some.inj H
         have hcz32_0:wr.cell? ⟨gb488,0,none⟩=some (.int .i64 t484):=(qab BK488.out 0).trans rfl
         have hcz32_1:wr.cell? ⟨gb488,1,none⟩=some (.slice Ao9 t485.length co9):=(qab BK488.out 1).trans rfl
         have hfz32_0:=qaa BK488.out 0
         have hfz32_1:=qaa BK488.out 1
         go_wp2
         go_ret
         exact⟨za9,za1 HB GE488⟩
        ·rw[if_neg c31] at H
         have c31b0:((wrap64 (t489+x5_2)) == t484)=false:=beq_eq_false_iff_ne.mpr c31
         have c31b1:((wrap64 (t489+x5_2)) != t484)=true:=bne_iff_ne.mpr c31
         obtain rfl:=Option.some.inj H
         have hcz33_0:wr.cell? ⟨gb488,0,none⟩=some (.int .i64 t484):=(qab BK488.out 0).trans rfl
         have hcz33_1:wr.cell? ⟨gb488,1,none⟩=some (.slice Ao9 t485.length co9):=(qab BK488.out 1).trans rfl
         have hfz33_0:=qaa BK488.out 0
         have hfz33_1:=qaa BK488.out 1
         go_wp2
         go_ret
         exact⟨za9,za1 HB GE488⟩
def laws_FnStockFree.Pure:Prop:=∀(l0:List Int),l0.length≤maxLen→l0.length*1≤140737488351232→(∀x ∈ l0,(Lit.int .u8 x).wf=true)→∃k,laws_FnStockFree.f k l0=some true
theorem laws_FnStockFree.walk (P:laws_FnStockFree.Pure) (a0:Option Addr) (len0 cap0:Nat) (z0:List Int) (w:World) (w0:(a0=none∧len0=0∧cap0=0∧z0=[])∨∃x,a0=some x∧len0≤cap0∧cap0≤maxLen∧z0.length=cap0∧(∀i,i<z0.length→w.cell? (x.add i)=some (.int .u8 (z0.getD i 0)))∧∀n ∈ z0,(Lit.int .u8 n).wf=true) (y0:len0*1≤140737488351232) :
  Calls Try.prog 6 #[.slice a0 len0 cap0] w fun e w'=>e=.returned (.bool true)∧Below w.heap.size w w':=by
 obtain⟨l0,rfl,hr0,hm0,hw0,hc0⟩:=ReadsInt.ofRowC w0
 obtain⟨k,h⟩:=P l0 hm0 y0 hw0
 refine(laws_FnStockFree.calls k _ _ l0 true w (Kd.C_of_reads (d:=(0:Int)) (h1:=fun _=>rfl) hr0) hc0 h).mono ?_
 rintro e w' ⟨rfl,hd⟩
 exact⟨rfl,hd⟩
end Go.Proofs.Ytjccnaklodbbfaa.Print
