-- Written by squeeze.py, a program of this session, out of what print.sh and myprint.py had printed: cut to what is used, narrowed. Not trusted, Lean checks it.
import Derived.Test.YtjccnaklodbbfaaZK
import Derived.Test.YtjccnaklodbbfaaZd0
import Derived.Test.YtjccnaklodbbfaaZg0
import Derived.Test.YtjccnaklodbbfaaZq0
import Derived.Test.YtjccnaklodbbfaaZq2
import Derived.Test.YtjccnaklodbbfaaZq5
namespace Go.Proofs.Ytjccnaklodbbfaa.Print
open Go.RowKit Go.Proofs.YtjccnaklodbbfaaW.PrintWords Go.Proofs.YtjccnaklodbbfaaW.PrintLast Go.Proofs.YtjccnaklodbbfaaW.PrintMore
attribute [local go_sem] max2_int min2_int max_two min_two max_three min_three max_four min_four
set_option linter.unusedVariables false
set_option linter.unusedSimpArgs false
def laws_FnHouseNew.j0:Nat→Int→Int→Bool→Bool→Bool→Int→Bool→Int→List (S62)→Int→Int→Bool→Int→List (S62)→Int→Option (Bool)
 |0,_,_,_,_,_,_,_,_,_,_,_,_,_,_,_=>none
 |k+1,x3,x4,x6,x8,x41,x564000,x564001,x564002,x564003,x564004,x573000,x573001,x573002,x573003,x573004=>if x41=true then(if(x8 == x6)=true then((laws_lnHouse.f k x573000 x573001 x573002 x573003 x573004 x564000 x564001 x564002 x564003 x564004).bind fun t574=>(some t574)) else(some false)) else((impl_HouseOk.f k x573000 x573001 x573002 x573003 x573004).bind fun t575=>(if t575=true then(if x573001=true then(if x573000=x3 then((impl_HouseStock.f k x573000 x573001 x573002 x573003 x573004 false).bind fun bt576=>((impl_StockFree.f k bt576.1 bt576.2).bind fun t580=>(if t580=x4 then(some ((x573003.length:Int) == 0)) else(some false)))) else(some false)) else(some false)) else(some false)))
def laws_FnHouseNew.f (k:Nat) (l0:List Int):Option (Bool):=if(l0.length:Int)>1048576 then(some true) else((spec_DrawHouseNew.f k l0).bind fun bt553=>((spec_HouseNew.f bt553.1 bt553.2).bind fun bt555=>((impl_HouseNew.f bt553.1 bt553.2).bind fun bt564=>(if(bt564.2.2.2.2.2 != bt555.2.2.2.2.2)=true then(laws_FnHouseNew.j0 k bt553.1 bt553.2 bt555.2.2.2.2.2 bt564.2.2.2.2.2 true bt555.1 bt555.2.1 bt555.2.2.1 bt555.2.2.2.1 bt555.2.2.2.2.1 bt564.1 bt564.2.1 bt564.2.2.1 bt564.2.2.2.1 bt564.2.2.2.2.1) else((laws_lnHouse.f k bt564.1 bt564.2.1 bt564.2.2.1 bt564.2.2.2.1 bt564.2.2.2.2.1 bt555.1 bt555.2.1 bt555.2.2.1 bt555.2.2.2.1 bt555.2.2.2.2.1).bind fun t573=>(if t573=true then(laws_FnHouseNew.j0 k bt553.1 bt553.2 bt555.2.2.2.2.2 bt564.2.2.2.2.2 (!bt564.2.2.2.2.2) bt555.1 bt555.2.1 bt555.2.2.1 bt555.2.2.2.1 bt555.2.2.2.2.1 bt564.1 bt564.2.1 bt564.2.2.1 bt564.2.2.2.1 bt564.2.2.2.2.1) else(laws_FnHouseNew.j0 k bt553.1 bt553.2 bt555.2.2.2.2.2 bt564.2.2.2.2.2 true bt555.1 bt555.2.1 bt555.2.2.1 bt555.2.2.2.1 bt555.2.2.2.2.1 bt564.1 bt564.2.1 bt564.2.2.1 bt564.2.2.2.1 bt564.2.2.2.2.1)))))))
theorem laws_FnHouseNew.mono_l:∀k,(∀y0 y1 y2 y3 y4 y5 y6 y7 y8 y9 y10 y11 y12 y13 y14,LeO (laws_FnHouseNew.j0 k y0 y1 y2 y3 y4 y5 y6 y7 y8 y9 y10 y11 y12 y13 y14) (laws_FnHouseNew.j0 (k+1) y0 y1 y2 y3 y4 y5 y6 y7 y8 y9 y10 y11 y12 y13 y14))
 |0=>fun _ _ _ _ _ _ _ _ _ _ _ _ _ _ _ r h=>by simp[laws_FnHouseNew.j0] at h
 |k+1=>by
  have ih0:=laws_FnHouseNew.mono_l k
  ·intro y0 y1 y2 y3 y4 y5 y6 y7 y8 y9 y10 y11 y12 y13 y14
   unfold laws_FnHouseNew.j0
   repeat' first
   |(with_reducible exact ih0 _ _ _ _ _ _ _ _ _ _ _ _ _ _ _)
   |(with_reducible exact impl_HouseOk.mono _ _ _ _ _ _)
   |(with_reducible exact impl_HouseStock.mono _ _ _ _ _ _ _)
   |(with_reducible exact impl_StockFree.mono _ _ _)
   |(with_reducible exact laws_lnHouse.mono _ _ _ _ _ _ _ _ _ _ _)
   |(with_reducible exact spec_DrawHouseNew.mono _ _)
   |(with_reducible exact LeO.refl _)
   |(with_reducible exact LeO.none _)
   |(with_reducible refine LeO.ite ?_ ?_)
   |(with_reducible refine LeO.bind ?_ (fun _=>?_))
   |exact ih0 _ _ _ _ _ _ _ _ _ _ _ _ _ _ _
   |exact impl_HouseOk.mono _ _ _ _ _ _
   |exact impl_HouseStock.mono _ _ _ _ _ _ _
   |exact impl_StockFree.mono _ _ _
   |exact laws_lnHouse.mono _ _ _ _ _ _ _ _ _ _ _
   |exact spec_DrawHouseNew.mono _ _
   |exact LeO.none _
   |refine LeO.ite ?_ ?_
   |refine LeO.bind ?_ (fun _=>?_)
theorem laws_FnHouseNew.mono:∀a0 k,LeO (laws_FnHouseNew.f k a0) (laws_FnHouseNew.f (k+1) a0):=by
 intro a0 k
 have ih0:=laws_FnHouseNew.mono_l k
 unfold laws_FnHouseNew.f
 repeat' first
   |(with_reducible exact ih0 _ _ _ _ _ _ _ _ _ _ _ _ _ _ _)
   |(with_reducible exact impl_HouseOk.mono _ _ _ _ _ _)
   |(with_reducible exact impl_HouseStock.mono _ _ _ _ _ _ _)
   |(with_reducible exact impl_StockFree.mono _ _ _)
   |(with_reducible exact laws_lnHouse.mono _ _ _ _ _ _ _ _ _ _ _)
   |(with_reducible exact spec_DrawHouseNew.mono _ _)
   |(with_reducible exact LeO.refl _)
   |(with_reducible exact LeO.none _)
   |(with_reducible refine LeO.ite ?_ ?_)
   |(with_reducible refine LeO.bind ?_ (fun _=>?_))
   |exact ih0 _ _ _ _ _ _ _ _ _ _ _ _ _ _ _
   |exact impl_HouseOk.mono _ _ _ _ _ _
   |exact impl_HouseStock.mono _ _ _ _ _ _ _
   |exact impl_StockFree.mono _ _ _
   |exact laws_lnHouse.mono _ _ _ _ _ _ _ _ _ _ _
   |exact spec_DrawHouseNew.mono _ _
   |exact LeO.none _
   |refine LeO.ite ?_ ?_
   |refine LeO.bind ?_ (fun _=>?_)
set_option maxHeartbeats 8000000 in
set_option maxRecDepth 100000 in
theorem laws_FnHouseNew.calls (k:Nat) (A0:Option Addr) (c0:Nat) (l0:List Int) (r:Bool) (w:World) (hr0:Kd.C (Kd.int .u8) w A0 l0.length l0) (hc0:l0.length≤c0) (h:laws_FnHouseNew.f k l0=some r) :
  Calls Try.prog 7 #[.slice A0 l0.length c0] w fun e w'=>e=.returned (.bool r)∧Below w.heap.size w w':=by
 have hu26:=Try.underlying26
 have HR0:=qal.mk hr0
 have HC0:=qal.mk hc0
 clear hr0 hc0
 have HB:=qal.mk (Below.refl w.heap.size w)
 have H:(if(l0.length:Int)>1048576 then(some true) else((spec_DrawHouseNew.f k l0).bind fun bt553=>((spec_HouseNew.f bt553.1 bt553.2).bind fun bt555=>((impl_HouseNew.f bt553.1 bt553.2).bind fun bt564=>(if(bt564.2.2.2.2.2 != bt555.2.2.2.2.2)=true then(laws_FnHouseNew.j0 k bt553.1 bt553.2 bt555.2.2.2.2.2 bt564.2.2.2.2.2 true bt555.1 bt555.2.1 bt555.2.2.1 bt555.2.2.2.1 bt555.2.2.2.2.1 bt564.1 bt564.2.1 bt564.2.2.1 bt564.2.2.2.1 bt564.2.2.2.2.1) else((laws_lnHouse.f k bt564.1 bt564.2.1 bt564.2.2.1 bt564.2.2.2.1 bt564.2.2.2.2.1 bt555.1 bt555.2.1 bt555.2.2.1 bt555.2.2.2.1 bt555.2.2.2.2.1).bind fun t573=>(if t573=true then(laws_FnHouseNew.j0 k bt553.1 bt553.2 bt555.2.2.2.2.2 bt564.2.2.2.2.2 (!bt564.2.2.2.2.2) bt555.1 bt555.2.1 bt555.2.2.1 bt555.2.2.2.1 bt555.2.2.2.2.1 bt564.1 bt564.2.1 bt564.2.2.1 bt564.2.2.2.1 bt564.2.2.2.2.1) else(laws_FnHouseNew.j0 k bt553.1 bt553.2 bt555.2.2.2.2.2 bt564.2.2.2.2.2 true bt555.1 bt555.2.1 bt555.2.2.1 bt555.2.2.2.1 bt555.2.2.2.2.1 bt564.1 bt564.2.1 bt564.2.2.1 bt564.2.2.2.1 bt564.2.2.2.2.1))))))))=some r:=h
 clear h
 by_cases c2:(l0.length:Int)>1048576
 ·rw[if_pos c2] at H
  have c2b0:decide (1048576<(l0.length:Int))=true:=decide_eq_true c2
  have c2b1:decide (1048576<l0.length)=true:=decide_eq_true (by omega)
  clear c2
  obtain rfl:=Option.some.inj H
  go_enter Try.func7,Try.ntmps7
  go_wp2
  go_ret
  exact⟨za9,za2 HB⟩
 ·rw[if_neg c2] at H
  have c2b0:decide (1048576<(l0.length:Int))=false:=decide_eq_false c2
  have c2b1:decide (1048576<l0.length)=false:=decide_eq_false (by omega)
  clear c2
  replace H:=Option.bind_eq_some_iff.mp H
  obtain⟨⟨t553,t554⟩,A30,H⟩:=H
  replace H:((spec_HouseNew.f t553 t554).bind fun bt555=>((impl_HouseNew.f t553 t554).bind fun bt564=>(if(bt564.2.2.2.2.2 != bt555.2.2.2.2.2)=true then(laws_FnHouseNew.j0 k t553 t554 bt555.2.2.2.2.2 bt564.2.2.2.2.2 true bt555.1 bt555.2.1 bt555.2.2.1 bt555.2.2.2.1 bt555.2.2.2.2.1 bt564.1 bt564.2.1 bt564.2.2.1 bt564.2.2.2.1 bt564.2.2.2.2.1) else((laws_lnHouse.f k bt564.1 bt564.2.1 bt564.2.2.1 bt564.2.2.2.1 bt564.2.2.2.2.1 bt555.1 bt555.2.1 bt555.2.2.1 bt555.2.2.2.1 bt555.2.2.2.2.1).bind fun t573=>(if t573=true then(laws_FnHouseNew.j0 k t553 t554 bt555.2.2.2.2.2 bt564.2.2.2.2.2 (!bt564.2.2.2.2.2) bt555.1 bt555.2.1 bt555.2.2.1 bt555.2.2.2.1 bt555.2.2.2.2.1 bt564.1 bt564.2.1 bt564.2.2.1 bt564.2.2.2.1 bt564.2.2.2.2.1) else(laws_FnHouseNew.j0 k t553 t554 bt555.2.2.2.2.2 bt564.2.2.2.2.2 true bt555.1 bt555.2.1 bt555.2.2.1 bt555.2.2.2.1 bt555.2.2.2.2.1 bt564.1 bt564.2.1 bt564.2.2.1 bt564.2.2.2.1 bt564.2.2.2.2.1))))))=some r:=H
  have A3:=qal.mk A30
  clear A30
  replace H:=Option.bind_eq_some_iff.mp H
  obtain⟨⟨t555,t556,t557,t558,t561,t562⟩,A40,H⟩:=H
  replace H:((impl_HouseNew.f t553 t554).bind fun bt564=>(if(bt564.2.2.2.2.2 != t562)=true then(laws_FnHouseNew.j0 k t553 t554 t562 bt564.2.2.2.2.2 true t555 t556 t557 t558 t561 bt564.1 bt564.2.1 bt564.2.2.1 bt564.2.2.2.1 bt564.2.2.2.2.1) else((laws_lnHouse.f k bt564.1 bt564.2.1 bt564.2.2.1 bt564.2.2.2.1 bt564.2.2.2.2.1 t555 t556 t557 t558 t561).bind fun t573=>(if t573=true then(laws_FnHouseNew.j0 k t553 t554 t562 bt564.2.2.2.2.2 (!bt564.2.2.2.2.2) t555 t556 t557 t558 t561 bt564.1 bt564.2.1 bt564.2.2.1 bt564.2.2.2.1 bt564.2.2.2.2.1) else(laws_FnHouseNew.j0 k t553 t554 t562 bt564.2.2.2.2.2 true t555 t556 t557 t558 t561 bt564.1 bt564.2.1 bt564.2.2.1 bt564.2.2.2.1 bt564.2.2.2.2.1)))))=some r:=H
  have A4:=qal.mk A40
  clear A40
  replace H:=Option.bind_eq_some_iff.mp H
  obtain⟨⟨t564,t565,t566,t567,t570,t571⟩,A50,H⟩:=H
  replace H:(if(t571 != t562)=true then(laws_FnHouseNew.j0 k t553 t554 t562 t571 true t555 t556 t557 t558 t561 t564 t565 t566 t567 t570) else((laws_lnHouse.f k t564 t565 t566 t567 t570 t555 t556 t557 t558 t561).bind fun t573=>(if t573=true then(laws_FnHouseNew.j0 k t553 t554 t562 t571 (!t571) t555 t556 t557 t558 t561 t564 t565 t566 t567 t570) else(laws_FnHouseNew.j0 k t553 t554 t562 t571 true t555 t556 t557 t558 t561 t564 t565 t566 t567 t570))))=some r:=H
  have A5:=qal.mk A50
  clear A50
  have HC6:=qal.mk H
  clear H
  go_enter Try.func7,Try.ntmps7
  go_upto_region 6 with(first|((with_reducible refine qai (f:=31) rfl ?_);refine qau (some 14) rfl rfl Try.func31 (by kernel_rfl) rfl #[.slice A0 l0.length c0] rfl (by(try simp only[List.map_toArray,List.map_cons,List.map_nil]);first|done|rfl|(simp only[List.length_drop,List.length_take];rfl)) ?_;(with_reducible refine(spec_DrawHouseNew.calls k _ _ l0 t553 t554 _ ?side1 ?side2 A3.out).mono ?_);(case side1=>repeat(first|exact HR0.out|(with_reducible refine Kd.C_alloc ?_ _)|(with_reducible refine Kd.C_drewN ?_ _)|(with_reducible refine Kd.C_drew ?_)));(case side2=>exact HC0.out);rintro e w7 ⟨rfl,hb⟩;refine⟨_,rfl,?_⟩;have n0_:=qal.mk (qae (za2 HB) hb);clear HB;have HB:=n0_;clear n0_;(try clear hb);(try clear hb2);(try clear hk);(try clear hi))|((with_reducible refine qai (f:=15) rfl ?_);refine qau (some 20) rfl rfl Try.func15 (by kernel_rfl) rfl #[.int .i64 t553,.int .i64 t554] rfl (by(try simp only[List.map_toArray,List.map_cons,List.map_nil]);first|done|rfl|(simp only[List.length_drop,List.length_take];rfl)) ?_;(with_reducible refine(spec_HouseNew.calls t553 t554 t555 t556 t557 t558 t561 t562 _ A4.out).mono ?_);rintro e w8 ⟨v559,rfl,ho0,hb⟩;refine⟨_,rfl,?_⟩;have n0_:=qal.mk (Kd.S_lower ho0 (qad (za2 HB)));have n1_:=qal.mk (qae (za2 HB) hb);clear HB;have HO560:=n0_;have HB:=n1_;clear n0_ n1_;(try clear hb);(try clear hb2);(try clear hk);(try clear hi);(try clear ho0))|((with_reducible refine qak (N:=5) rfl ?_);(try(refine qbc (by rfl) ?_;dsimp only));refine qaj ?hg (N:=5) ?hd (cs:=#[.int .i64 0,.bool false,.int .i64 0,.slice none 0 0,.int .i64 0]) (t:=26) ?hr ?_;(case hd=>rfl);(case hg=>rfl);(case hr=>first|(go_simp;done)|(go_simp;rfl));intro gb563 hg w9 hbox hb;have n0_:=qal.mk (Kd.S_below (za10 HO560) hb);have n1_:=qal.mk (qae (za2 HB) hb);have n2_:=qal.mk (hbox);have n3_:=qal.mk ((by rw[hg];exact(qad (za2 HB)):w.heap.size≤gb563));have n4_:=qal.mk ((by rw[hg];exact(qad (za2 HB)):w.heap.size≤gb563));clear HO560;clear HB;have HO560:=n0_;have HB:=n1_;have BK563:=n2_;have GW563:=n3_;have GE563:=n4_;clear n0_ n1_ n2_ n3_ n4_;clear hb hbox hg;have hcz10_0:w9.cell? ⟨gb563,0,none⟩=some (.int .i64 0):=(qab BK563.out 0).trans rfl;have hcz10_1:w9.cell? ⟨gb563,1,none⟩=some (.bool false):=(qab BK563.out 1).trans rfl;have hcz10_2:w9.cell? ⟨gb563,2,none⟩=some (.int .i64 0):=(qab BK563.out 2).trans rfl;have hcz10_3:w9.cell? ⟨gb563,3,none⟩=some (.slice none 0 0):=(qab BK563.out 3).trans rfl;have hcz10_4:w9.cell? ⟨gb563,4,none⟩=some (.int .i64 0):=(qab BK563.out 4).trans rfl;have hfz10_0:=qaa BK563.out 0;have hfz10_1:=qaa BK563.out 1;have hfz10_2:=qaa BK563.out 2;have hfz10_3:=qaa BK563.out 3;have hfz10_4:=qaa BK563.out 4;obtain⟨Ao11,co11,eo11⟩:=Kd.S_slice HO560.out;subst eo11)|((with_reducible refine qai (f:=16) rfl ?_);refine qau (some 26) rfl rfl Try.func16 (by kernel_rfl) rfl #[.int .i64 t553,.int .i64 t554] rfl (by(try simp only[List.map_toArray,List.map_cons,List.map_nil]);first|done|rfl|(simp only[List.length_drop,List.length_take];rfl)) ?_;(with_reducible refine(impl_HouseNew.calls t553 t554 t564 t565 t566 t567 t570 t571 _ A5.out).mono ?_);rintro e w12 ⟨v568,rfl,ho0,hb⟩;refine⟨_,rfl,?_⟩;have n0_:=qal.mk (Kd.S_elder' (by(with_reducible repeat(first|apply Kd.S_alloc|apply Kd.S_drewN|apply Kd.S_drew));exact(Kd.S_mono (Kd.S_far (p:=⟨gb563,4,none⟩) (Kd.S_far (p:=⟨gb563,3,none⟩) (Kd.S_far (p:=⟨gb563,2,none⟩) (Kd.S_far (p:=⟨gb563,1,none⟩) (Kd.S_far (p:=⟨gb563,0,none⟩) (Kd.S_types HO560.out BK563.out (by decide)) (fun _ hk=>hk.2) (.int .i64 t555)) (fun _ hk=>hk.2) (.bool t556)) (fun _ hk=>hk.2) (.int .i64 t557)) (fun _ hk=>hk.2) (.slice Ao11 t558.length co11)) (fun _ hk=>hk.2) (.int .i64 t561)) (fun _ h_=>h_.1))) (Kd.S_base ho0) hb);have n1_:=qal.mk (Kd.S_lower (Kd.S_new' ho0 (Kd.S_lt (by(with_reducible repeat(first|apply Kd.S_alloc|apply Kd.S_drewN|apply Kd.S_drew));exact(Kd.S_mono (Kd.S_far (p:=⟨gb563,4,none⟩) (Kd.S_far (p:=⟨gb563,3,none⟩) (Kd.S_far (p:=⟨gb563,2,none⟩) (Kd.S_far (p:=⟨gb563,1,none⟩) (Kd.S_far (p:=⟨gb563,0,none⟩) (Kd.S_types HO560.out BK563.out (by decide)) (fun _ hk=>hk.2) (.int .i64 t555)) (fun _ hk=>hk.2) (.bool t556)) (fun _ hk=>hk.2) (.int .i64 t557)) (fun _ hk=>hk.2) (.slice Ao11 t558.length co11)) (fun _ hk=>hk.2) (.int .i64 t561)) (fun _ h_=>h_.1))))) (qad (za1 HB GE563)));have n2_:=qal.mk (qac (g:=gb563) (o:=.cells #[.int .i64 t555,.bool t556,.int .i64 t557,.slice Ao11 t558.length co11,.int .i64 t561] 26 (0,0)) (by(with_reducible repeat(first|refine qag ?_ _|refine qah ?_|refine qaf ?_ _));refine qan (cs:=#[.int .i64 t555,.bool t556,.int .i64 t557,.slice Ao11 t558.length co11,.int .i64 0]) ?_ 4 _ rfl;(with_reducible repeat(first|refine qag ?_ _|refine qah ?_|refine qaf ?_ _));refine qan (cs:=#[.int .i64 t555,.bool t556,.int .i64 t557,.slice none 0 0,.int .i64 0]) ?_ 3 _ rfl;(with_reducible repeat(first|refine qag ?_ _|refine qah ?_|refine qaf ?_ _));refine qan (cs:=#[.int .i64 t555,.bool t556,.int .i64 0,.slice none 0 0,.int .i64 0]) ?_ 2 _ rfl;(with_reducible repeat(first|refine qag ?_ _|refine qah ?_|refine qaf ?_ _));refine qan (cs:=#[.int .i64 t555,.bool false,.int .i64 0,.slice none 0 0,.int .i64 0]) ?_ 1 _ rfl;(with_reducible repeat(first|refine qag ?_ _|refine qah ?_|refine qaf ?_ _));refine qan (cs:=#[.int .i64 0,.bool false,.int .i64 0,.slice none 0 0,.int .i64 0]) ?_ 0 _ rfl;(with_reducible repeat(first|refine qag ?_ _|refine qah ?_|refine qaf ?_ _));exact BK563.out) hb);have n3_:=qal.mk (qae (za1 HB GE563) hb);clear HO560;clear BK563;clear HB;have HO560:=n0_;have HO569:=n1_;have BK563:=n2_;have HB:=n3_;clear n0_ n1_ n2_ n3_;(try clear hb);(try clear hb2);(try clear hk);(try clear hi);(try clear ho0))|((with_reducible refine qak (N:=7) rfl ?_);(try(refine qbc (by rfl) ?_;dsimp only));refine qaj ?hg (N:=7) ?hd (cs:=#[.int .i64 0,.bool false,.int .i64 0,.slice none 0 0,.int .i64 0]) (t:=26) ?hr ?_;(case hd=>rfl);(case hg=>rfl);(case hr=>first|(go_simp;done)|(go_simp;rfl));intro gb572 hg w13 hbox hb;have n0_:=qal.mk (Kd.S_below (za10 HO560) hb);have n1_:=qal.mk (Kd.S_below (za10 HO569) hb);have n2_:=qal.mk (qac (g:=gb563) (o:=.cells #[.int .i64 t555,.bool t556,.int .i64 t557,.slice Ao11 t558.length co11,.int .i64 t561] 26 (0,0)) (za0 BK563) hb);have n3_:=qal.mk (qae (za1 HB GE563) hb);have n4_:=qal.mk (hbox);have n5_:=qal.mk ((by rw[hg];exact(qad (za1 HB GE563)):w.heap.size≤gb572));have n6_:=qal.mk ((by rw[hg];exact(qad (za1 HB GE563)):w.heap.size≤gb572));have n7_:=qal.mk ((by rw[hg];exact Nat.ne_of_lt (qao (g:=gb563) (o:=.cells #[.int .i64 t555,.bool t556,.int .i64 t557,.slice Ao11 t558.length co11,.int .i64 t561] 26 (0,0)) (za0 BK563)):gb563≠gb572));have n8_:=qal.mk ((by rw[hg];exact Nat.ne_of_gt (qao (g:=gb563) (o:=.cells #[.int .i64 t555,.bool t556,.int .i64 t557,.slice Ao11 t558.length co11,.int .i64 t561] 26 (0,0)) (za0 BK563)):gb572≠gb563));clear HO560;clear HO569;clear BK563;clear HB;have HO560:=n0_;have HO569:=n1_;have BK563:=n2_;have HB:=n3_;have BK572:=n4_;have GW572:=n5_;have GE572:=n6_;have NB563_572:=n7_;have NB572_563:=n8_;clear n0_ n1_ n2_ n3_ n4_ n5_ n6_ n7_ n8_;clear hb hbox hg;have hnb14:=NB572_563.out;have hnc14:=NB563_572.out;have hcz15_0:w13.cell? ⟨gb572,0,none⟩=some (.int .i64 0):=(qab BK572.out 0).trans rfl;have hcz15_1:w13.cell? ⟨gb572,1,none⟩=some (.bool false):=(qab BK572.out 1).trans rfl;have hcz15_2:w13.cell? ⟨gb572,2,none⟩=some (.int .i64 0):=(qab BK572.out 2).trans rfl;have hcz15_3:w13.cell? ⟨gb572,3,none⟩=some (.slice none 0 0):=(qab BK572.out 3).trans rfl;have hcz15_4:w13.cell? ⟨gb572,4,none⟩=some (.int .i64 0):=(qab BK572.out 4).trans rfl;have hfz15_0:=qaa BK572.out 0;have hfz15_1:=qaa BK572.out 1;have hfz15_2:=qaa BK572.out 2;have hfz15_3:=qaa BK572.out 3;have hfz15_4:=qaa BK572.out 4;obtain⟨Ao16,co16,eo16⟩:=Kd.S_slice HO569.out;subst eo16))
  (try simp only[Act.put,List.setIfInBounds_toArray,List.set_cons_zero,List.set_cons_succ])
  go_cut [41] (fun v41 wc=>∃(kq:Nat) (x41_5:Bool),v41=.bool x41_5∧qal (laws_FnHouseNew.j0 kq t553 t554 t562 t571 x41_5 t555 t556 t557 t558 t561 t564 t565 t566 t567 t570=some r)∧qal (kq≤k)∧qal (Kd.S k62 62 wc w.heap.size (fun k_=>some k_≠((.slice Ao16 t567.length co16):Value).ownBlock) (.slice Ao11 t558.length co11) t558)∧qal (Kd.S k62 62 wc w.heap.size (fun k_=>some k_≠((.slice Ao11 t558.length co11):Value).ownBlock) (.slice Ao16 t567.length co16) t567)∧qal (wc.heap[gb563]?=some (.cells #[.int .i64 t555,.bool t556,.int .i64 t557,(.slice Ao11 t558.length co11),.int .i64 t561] 26 (0,0)))∧qal (wc.heap[gb572]?=some (.cells #[.int .i64 t564,.bool t565,.int .i64 t566,(.slice Ao16 t567.length co16),.int .i64 t570] 26 (0,0)))∧qal (Below w.heap.size w wc))
  case first=>
   have H:=HC6.out
   clear HC6
   by_cases c17:(t571 != t562)=true
   ·rw[if_pos c17] at H
    have c17b0:(t571 != t562)=true:=c17
    (try(have c17b1:decide (t571=t562)=false:=by simpa using c17))
    (try(have c17b2:(t571 == t562)=false:=by simpa using c17))
    (try(have c17b3:¬(t571=t562):=by simpa using c17))
    clear c17
    (first|rw[c17b0]|(simp only[qas,qat];rw[c17b0])|skip)
    have H':=qal.mk H
    clear H
    go_wp2
    go_meet
    case rel=>exact⟨_,(true),(za22),H',⟨za46⟩,⟨by(with_reducible repeat(first|apply Kd.S_alloc|apply Kd.S_drewN|apply Kd.S_drew));exact Kd.S_mono (Kd.S_far (p:=⟨gb572,4,none⟩) (Kd.S_far (p:=⟨gb572,3,none⟩) (Kd.S_far (p:=⟨gb572,2,none⟩) (Kd.S_far (p:=⟨gb572,1,none⟩) (Kd.S_far (p:=⟨gb572,0,none⟩) (Kd.S_types HO560.out BK572.out (by decide)) (fun _ hk=>hk.2) (.int .i64 t564)) (fun _ hk=>hk.2) (.bool t565)) (fun _ hk=>hk.2) (.int .i64 t566)) (fun _ hk=>hk.2) (.slice Ao16 t567.length co16)) (fun _ hk=>hk.2) (.int .i64 t570)) (fun _ hk=>hk.1.2)⟩,⟨by(with_reducible repeat(first|apply Kd.S_alloc|apply Kd.S_drewN|apply Kd.S_drew));exact Kd.S_mono (Kd.S_far (p:=⟨gb572,4,none⟩) (Kd.S_far (p:=⟨gb572,3,none⟩) (Kd.S_far (p:=⟨gb572,2,none⟩) (Kd.S_far (p:=⟨gb572,1,none⟩) (Kd.S_far (p:=⟨gb572,0,none⟩) (Kd.S_types HO569.out BK572.out (by decide)) (fun _ hk=>hk.2) (.int .i64 t564)) (fun _ hk=>hk.2) (.bool t565)) (fun _ hk=>hk.2) (.int .i64 t566)) (fun _ hk=>hk.2) (.slice Ao16 t567.length co16)) (fun _ hk=>hk.2) (.int .i64 t570)) (fun _ hk=>hk.1.2)⟩,⟨za17 NB563_572 BK563⟩,⟨by(with_reducible repeat(first|refine qag ?_ _|refine qah ?_|refine qaf ?_ _));refine qan (cs:=#[.int .i64 t564,.bool t565,.int .i64 t566,.slice Ao16 t567.length co16,.int .i64 0]) ?_ 4 _ rfl;(with_reducible repeat(first|refine qag ?_ _|refine qah ?_|refine qaf ?_ _));refine qan (cs:=#[.int .i64 t564,.bool t565,.int .i64 t566,.slice none 0 0,.int .i64 0]) ?_ 3 _ rfl;(with_reducible repeat(first|refine qag ?_ _|refine qah ?_|refine qaf ?_ _));refine qan (cs:=#[.int .i64 t564,.bool t565,.int .i64 0,.slice none 0 0,.int .i64 0]) ?_ 2 _ rfl;(with_reducible repeat(first|refine qag ?_ _|refine qah ?_|refine qaf ?_ _));refine qan (cs:=#[.int .i64 t564,.bool false,.int .i64 0,.slice none 0 0,.int .i64 0]) ?_ 1 _ rfl;(with_reducible repeat(first|refine qag ?_ _|refine qah ?_|refine qaf ?_ _));refine qan (cs:=#[.int .i64 0,.bool false,.int .i64 0,.slice none 0 0,.int .i64 0]) ?_ 0 _ rfl;(with_reducible repeat(first|refine qag ?_ _|refine qah ?_|refine qaf ?_ _));exact BK572.out⟩,⟨za3 HB GE563 GE572⟩⟩
   ·rw[if_neg c17] at H
    have c17b0:(t571 != t562)=false:=by simpa using c17
    (try(have c17b1:decide (t571=t562)=true:=by simpa using c17))
    (try(have c17b2:(t571 == t562)=true:=by simpa using c17))
    clear c17
    (first|rw[c17b0]|(simp only[qas,qat];rw[c17b0])|skip)
    replace H:=Option.bind_eq_some_iff.mp H
    obtain⟨t573,A180,H⟩:=H
    replace H:(if t573=true then(laws_FnHouseNew.j0 k t553 t554 t562 t571 (!t571) t555 t556 t557 t558 t561 t564 t565 t566 t567 t570) else(laws_FnHouseNew.j0 k t553 t554 t562 t571 true t555 t556 t557 t558 t561 t564 t565 t566 t567 t570))=some r:=H
    have A18:=qal.mk A180
    clear A180
    by_cases c19:t573=true
    ·subst c19
     have H1:(laws_FnHouseNew.j0 k t553 t554 t562 t571 (!t571) t555 t556 t557 t558 t561 t564 t565 t566 t567 t570)=some r:=by rw[if_pos rfl] at H;exact H
     clear H
     have H:=H1
     clear H1
     have H':=qal.mk H
     clear H
     have hnb20:=NB572_563.out
     have hnc20:=NB563_572.out
     have hcz21_0:w13.cell? ⟨gb572,0,none⟩=some (.int .i64 0):=(qab BK572.out 0).trans rfl
     have hcz21_1:w13.cell? ⟨gb572,1,none⟩=some (.bool false):=(qab BK572.out 1).trans rfl
     have hcz21_2:w13.cell? ⟨gb572,2,none⟩=some (.int .i64 0):=(qab BK572.out 2).trans rfl
     have hcz21_3:w13.cell? ⟨gb572,3,none⟩=some (.slice none 0 0):=(qab BK572.out 3).trans rfl
     have hcz21_4:w13.cell? ⟨gb572,4,none⟩=some (.int .i64 0):=(qab BK572.out 4).trans rfl
     have hfz21_0:=qaa BK572.out 0
     have hfz21_1:=qaa BK572.out 1
     have hfz21_2:=qaa BK572.out 2
     have hfz21_3:=qaa BK572.out 3
     have hfz21_4:=qaa BK572.out 4
     have hcz22_0:w13.cell? ⟨gb563,0,none⟩=some (.int .i64 t555):=(qab BK563.out 0).trans rfl
     have hcz22_1:w13.cell? ⟨gb563,1,none⟩=some (.bool t556):=(qab BK563.out 1).trans rfl
     have hcz22_2:w13.cell? ⟨gb563,2,none⟩=some (.int .i64 t557):=(qab BK563.out 2).trans rfl
     have hcz22_3:w13.cell? ⟨gb563,3,none⟩=some (.slice Ao11 t558.length co11):=(qab BK563.out 3).trans rfl
     have hcz22_4:w13.cell? ⟨gb563,4,none⟩=some (.int .i64 t561):=(qab BK563.out 4).trans rfl
     have hfz22_0:=qaa BK563.out 0
     have hfz22_1:=qaa BK563.out 1
     have hfz22_2:=qaa BK563.out 2
     have hfz22_3:=qaa BK563.out 3
     have hfz22_4:=qaa BK563.out 4
     go_wp2_with(first|(go_at_call 32;(with_reducible refine(laws_lnHouse.calls k t564 t565 t566 _ _ t567 t570 t555 t556 t557 _ _ t558 t561 true _ ?side1 ?side2 ?side3 ?side4 A18.out).mono ?_);(case side1=>refine(Kd.S_reads' (e:=62) (base:=w.heap.size) (ok:=fun k_=>(True∧some k_≠(.slice Ao11 t558.length co11:Value).ownBlock)) (n:=t567.length) (c:=co16) ?_).2.2;exact(by(with_reducible repeat(first|apply Kd.S_alloc|apply Kd.S_drewN|apply Kd.S_drew));exact(Kd.S_mono (Kd.S_far (p:=⟨gb572,4,none⟩) (Kd.S_far (p:=⟨gb572,3,none⟩) (Kd.S_far (p:=⟨gb572,2,none⟩) (Kd.S_far (p:=⟨gb572,1,none⟩) (Kd.S_far (p:=⟨gb572,0,none⟩) (Kd.S_types HO569.out BK572.out (by decide)) (fun _ hk=>hk.2) (.int .i64 t564)) (fun _ hk=>hk.2) (.bool t565)) (fun _ hk=>hk.2) (.int .i64 t566)) (fun _ hk=>hk.2) (.slice Ao16 t567.length co16)) (fun _ hk=>hk.2) (.int .i64 t570)) (fun _ h_=>h_.1))));(case side2=>exact(Kd.S_reads' HO569.out).2.1);(case side3=>refine(Kd.S_reads' (e:=62) (base:=w.heap.size) (ok:=fun k_=>(True∧some k_≠(.slice Ao16 t567.length co16:Value).ownBlock)) (n:=t558.length) (c:=co11) ?_).2.2;exact(by(with_reducible repeat(first|apply Kd.S_alloc|apply Kd.S_drewN|apply Kd.S_drew));exact(Kd.S_mono (Kd.S_far (p:=⟨gb572,4,none⟩) (Kd.S_far (p:=⟨gb572,3,none⟩) (Kd.S_far (p:=⟨gb572,2,none⟩) (Kd.S_far (p:=⟨gb572,1,none⟩) (Kd.S_far (p:=⟨gb572,0,none⟩) (Kd.S_types HO560.out BK572.out (by decide)) (fun _ hk=>hk.2) (.int .i64 t564)) (fun _ hk=>hk.2) (.bool t565)) (fun _ hk=>hk.2) (.int .i64 t566)) (fun _ hk=>hk.2) (.slice Ao16 t567.length co16)) (fun _ hk=>hk.2) (.int .i64 t570)) (fun _ h_=>h_.1))));(case side4=>exact(Kd.S_reads' HO560.out).2.1);rintro e w23 ⟨rfl,hb⟩;have n0_:=qal.mk (Kd.S_below (by(with_reducible repeat(first|apply Kd.S_alloc|apply Kd.S_drewN|apply Kd.S_drew));exact(Kd.S_mono (Kd.S_far (p:=⟨gb572,4,none⟩) (Kd.S_far (p:=⟨gb572,3,none⟩) (Kd.S_far (p:=⟨gb572,2,none⟩) (Kd.S_far (p:=⟨gb572,1,none⟩) (Kd.S_far (p:=⟨gb572,0,none⟩) (Kd.S_types HO560.out BK572.out (by decide)) (fun _ hk=>hk.2) (.int .i64 t564)) (fun _ hk=>hk.2) (.bool t565)) (fun _ hk=>hk.2) (.int .i64 t566)) (fun _ hk=>hk.2) (.slice Ao16 t567.length co16)) (fun _ hk=>hk.2) (.int .i64 t570)) (fun _ h_=>h_.1))) hb);have n1_:=qal.mk (Kd.S_below (by(with_reducible repeat(first|apply Kd.S_alloc|apply Kd.S_drewN|apply Kd.S_drew));exact(Kd.S_mono (Kd.S_far (p:=⟨gb572,4,none⟩) (Kd.S_far (p:=⟨gb572,3,none⟩) (Kd.S_far (p:=⟨gb572,2,none⟩) (Kd.S_far (p:=⟨gb572,1,none⟩) (Kd.S_far (p:=⟨gb572,0,none⟩) (Kd.S_types HO569.out BK572.out (by decide)) (fun _ hk=>hk.2) (.int .i64 t564)) (fun _ hk=>hk.2) (.bool t565)) (fun _ hk=>hk.2) (.int .i64 t566)) (fun _ hk=>hk.2) (.slice Ao16 t567.length co16)) (fun _ hk=>hk.2) (.int .i64 t570)) (fun _ h_=>h_.1))) hb);have n2_:=qal.mk (qac (g:=gb563) (o:=.cells #[.int .i64 t555,.bool t556,.int .i64 t557,.slice Ao11 t558.length co11,.int .i64 t561] 26 (0,0)) (za17 NB563_572 BK563) hb);have n3_:=qal.mk (qac (g:=gb572) (o:=.cells #[.int .i64 t564,.bool t565,.int .i64 t566,.slice Ao16 t567.length co16,.int .i64 t570] 26 (0,0)) (by(with_reducible repeat(first|refine qag ?_ _|refine qah ?_|refine qaf ?_ _));refine qan (cs:=#[.int .i64 t564,.bool t565,.int .i64 t566,.slice Ao16 t567.length co16,.int .i64 0]) ?_ 4 _ rfl;(with_reducible repeat(first|refine qag ?_ _|refine qah ?_|refine qaf ?_ _));refine qan (cs:=#[.int .i64 t564,.bool t565,.int .i64 t566,.slice none 0 0,.int .i64 0]) ?_ 3 _ rfl;(with_reducible repeat(first|refine qag ?_ _|refine qah ?_|refine qaf ?_ _));refine qan (cs:=#[.int .i64 t564,.bool t565,.int .i64 0,.slice none 0 0,.int .i64 0]) ?_ 2 _ rfl;(with_reducible repeat(first|refine qag ?_ _|refine qah ?_|refine qaf ?_ _));refine qan (cs:=#[.int .i64 t564,.bool false,.int .i64 0,.slice none 0 0,.int .i64 0]) ?_ 1 _ rfl;(with_reducible repeat(first|refine qag ?_ _|refine qah ?_|refine qaf ?_ _));refine qan (cs:=#[.int .i64 0,.bool false,.int .i64 0,.slice none 0 0,.int .i64 0]) ?_ 0 _ rfl;(with_reducible repeat(first|refine qag ?_ _|refine qah ?_|refine qaf ?_ _));exact BK572.out) hb);have n4_:=qal.mk (qae (za3 HB GE563 GE572) hb);clear HO560;clear HO569;clear BK563;clear BK572;clear HB;have HO560:=n0_;have HO569:=n1_;have BK563:=n2_;have BK572:=n3_;have HB:=n4_;clear n0_ n1_ n2_ n3_ n4_;(try clear hb);(try clear hb2);(try clear hk);(try clear hi)))
     go_meet
     case rel=>exact⟨_,(!t571),(za22),H',⟨za46⟩,⟨by(with_reducible repeat(first|apply Kd.S_alloc|apply Kd.S_drewN|apply Kd.S_drew));exact Kd.S_mono HO560.out (fun _ hk=>hk.2)⟩,⟨by(with_reducible repeat(first|apply Kd.S_alloc|apply Kd.S_drewN|apply Kd.S_drew));exact Kd.S_mono HO569.out (fun _ hk=>hk.2)⟩,⟨za0 BK563⟩,⟨za0 BK572⟩,⟨za3 HB GE563 GE572⟩⟩
    ·replace c19:=Bool.eq_false_iff.mpr c19
     subst c19
     have H1:(laws_FnHouseNew.j0 k t553 t554 t562 t571 true t555 t556 t557 t558 t561 t564 t565 t566 t567 t570)=some r:=by rw[if_neg (show ¬(false=true) by decide)] at H;exact H
     clear H
     have H:=H1
     clear H1
     have H':=qal.mk H
     clear H
     have hnb24:=NB572_563.out
     have hnc24:=NB563_572.out
     have hcz25_0:w13.cell? ⟨gb572,0,none⟩=some (.int .i64 0):=(qab BK572.out 0).trans rfl
     have hcz25_1:w13.cell? ⟨gb572,1,none⟩=some (.bool false):=(qab BK572.out 1).trans rfl
     have hcz25_2:w13.cell? ⟨gb572,2,none⟩=some (.int .i64 0):=(qab BK572.out 2).trans rfl
     have hcz25_3:w13.cell? ⟨gb572,3,none⟩=some (.slice none 0 0):=(qab BK572.out 3).trans rfl
     have hcz25_4:w13.cell? ⟨gb572,4,none⟩=some (.int .i64 0):=(qab BK572.out 4).trans rfl
     have hfz25_0:=qaa BK572.out 0
     have hfz25_1:=qaa BK572.out 1
     have hfz25_2:=qaa BK572.out 2
     have hfz25_3:=qaa BK572.out 3
     have hfz25_4:=qaa BK572.out 4
     have hcz26_0:w13.cell? ⟨gb563,0,none⟩=some (.int .i64 t555):=(qab BK563.out 0).trans rfl
     have hcz26_1:w13.cell? ⟨gb563,1,none⟩=some (.bool t556):=(qab BK563.out 1).trans rfl
     have hcz26_2:w13.cell? ⟨gb563,2,none⟩=some (.int .i64 t557):=(qab BK563.out 2).trans rfl
     have hcz26_3:w13.cell? ⟨gb563,3,none⟩=some (.slice Ao11 t558.length co11):=(qab BK563.out 3).trans rfl
     have hcz26_4:w13.cell? ⟨gb563,4,none⟩=some (.int .i64 t561):=(qab BK563.out 4).trans rfl
     have hfz26_0:=qaa BK563.out 0
     have hfz26_1:=qaa BK563.out 1
     have hfz26_2:=qaa BK563.out 2
     have hfz26_3:=qaa BK563.out 3
     have hfz26_4:=qaa BK563.out 4
     go_wp2_with(first|(go_at_call 32;(with_reducible refine(laws_lnHouse.calls k t564 t565 t566 _ _ t567 t570 t555 t556 t557 _ _ t558 t561 false _ ?side1 ?side2 ?side3 ?side4 A18.out).mono ?_);(case side1=>refine(Kd.S_reads' (e:=62) (base:=w.heap.size) (ok:=fun k_=>(True∧some k_≠(.slice Ao11 t558.length co11:Value).ownBlock)) (n:=t567.length) (c:=co16) ?_).2.2;exact(by(with_reducible repeat(first|apply Kd.S_alloc|apply Kd.S_drewN|apply Kd.S_drew));exact(Kd.S_mono (Kd.S_far (p:=⟨gb572,4,none⟩) (Kd.S_far (p:=⟨gb572,3,none⟩) (Kd.S_far (p:=⟨gb572,2,none⟩) (Kd.S_far (p:=⟨gb572,1,none⟩) (Kd.S_far (p:=⟨gb572,0,none⟩) (Kd.S_types HO569.out BK572.out (by decide)) (fun _ hk=>hk.2) (.int .i64 t564)) (fun _ hk=>hk.2) (.bool t565)) (fun _ hk=>hk.2) (.int .i64 t566)) (fun _ hk=>hk.2) (.slice Ao16 t567.length co16)) (fun _ hk=>hk.2) (.int .i64 t570)) (fun _ h_=>h_.1))));(case side2=>exact(Kd.S_reads' HO569.out).2.1);(case side3=>refine(Kd.S_reads' (e:=62) (base:=w.heap.size) (ok:=fun k_=>(True∧some k_≠(.slice Ao16 t567.length co16:Value).ownBlock)) (n:=t558.length) (c:=co11) ?_).2.2;exact(by(with_reducible repeat(first|apply Kd.S_alloc|apply Kd.S_drewN|apply Kd.S_drew));exact(Kd.S_mono (Kd.S_far (p:=⟨gb572,4,none⟩) (Kd.S_far (p:=⟨gb572,3,none⟩) (Kd.S_far (p:=⟨gb572,2,none⟩) (Kd.S_far (p:=⟨gb572,1,none⟩) (Kd.S_far (p:=⟨gb572,0,none⟩) (Kd.S_types HO560.out BK572.out (by decide)) (fun _ hk=>hk.2) (.int .i64 t564)) (fun _ hk=>hk.2) (.bool t565)) (fun _ hk=>hk.2) (.int .i64 t566)) (fun _ hk=>hk.2) (.slice Ao16 t567.length co16)) (fun _ hk=>hk.2) (.int .i64 t570)) (fun _ h_=>h_.1))));(case side4=>exact(Kd.S_reads' HO560.out).2.1);rintro e w27 ⟨rfl,hb⟩;have n0_:=qal.mk (Kd.S_below (by(with_reducible repeat(first|apply Kd.S_alloc|apply Kd.S_drewN|apply Kd.S_drew));exact(Kd.S_mono (Kd.S_far (p:=⟨gb572,4,none⟩) (Kd.S_far (p:=⟨gb572,3,none⟩) (Kd.S_far (p:=⟨gb572,2,none⟩) (Kd.S_far (p:=⟨gb572,1,none⟩) (Kd.S_far (p:=⟨gb572,0,none⟩) (Kd.S_types HO560.out BK572.out (by decide)) (fun _ hk=>hk.2) (.int .i64 t564)) (fun _ hk=>hk.2) (.bool t565)) (fun _ hk=>hk.2) (.int .i64 t566)) (fun _ hk=>hk.2) (.slice Ao16 t567.length co16)) (fun _ hk=>hk.2) (.int .i64 t570)) (fun _ h_=>h_.1))) hb);have n1_:=qal.mk (Kd.S_below (by(with_reducible repeat(first|apply Kd.S_alloc|apply Kd.S_drewN|apply Kd.S_drew));exact(Kd.S_mono (Kd.S_far (p:=⟨gb572,4,none⟩) (Kd.S_far (p:=⟨gb572,3,none⟩) (Kd.S_far (p:=⟨gb572,2,none⟩) (Kd.S_far (p:=⟨gb572,1,none⟩) (Kd.S_far (p:=⟨gb572,0,none⟩) (Kd.S_types HO569.out BK572.out (by decide)) (fun _ hk=>hk.2) (.int .i64 t564)) (fun _ hk=>hk.2) (.bool t565)) (fun _ hk=>hk.2) (.int .i64 t566)) (fun _ hk=>hk.2) (.slice Ao16 t567.length co16)) (fun _ hk=>hk.2) (.int .i64 t570)) (fun _ h_=>h_.1))) hb);have n2_:=qal.mk (qac (g:=gb563) (o:=.cells #[.int .i64 t555,.bool t556,.int .i64 t557,.slice Ao11 t558.length co11,.int .i64 t561] 26 (0,0)) (za17 NB563_572 BK563) hb);have n3_:=qal.mk (qac (g:=gb572) (o:=.cells #[.int .i64 t564,.bool t565,.int .i64 t566,.slice Ao16 t567.length co16,.int .i64 t570] 26 (0,0)) (by(with_reducible repeat(first|refine qag ?_ _|refine qah ?_|refine qaf ?_ _));refine qan (cs:=#[.int .i64 t564,.bool t565,.int .i64 t566,.slice Ao16 t567.length co16,.int .i64 0]) ?_ 4 _ rfl;(with_reducible repeat(first|refine qag ?_ _|refine qah ?_|refine qaf ?_ _));refine qan (cs:=#[.int .i64 t564,.bool t565,.int .i64 t566,.slice none 0 0,.int .i64 0]) ?_ 3 _ rfl;(with_reducible repeat(first|refine qag ?_ _|refine qah ?_|refine qaf ?_ _));refine qan (cs:=#[.int .i64 t564,.bool t565,.int .i64 0,.slice none 0 0,.int .i64 0]) ?_ 2 _ rfl;(with_reducible repeat(first|refine qag ?_ _|refine qah ?_|refine qaf ?_ _));refine qan (cs:=#[.int .i64 t564,.bool false,.int .i64 0,.slice none 0 0,.int .i64 0]) ?_ 1 _ rfl;(with_reducible repeat(first|refine qag ?_ _|refine qah ?_|refine qaf ?_ _));refine qan (cs:=#[.int .i64 0,.bool false,.int .i64 0,.slice none 0 0,.int .i64 0]) ?_ 0 _ rfl;(with_reducible repeat(first|refine qag ?_ _|refine qah ?_|refine qaf ?_ _));exact BK572.out) hb);have n4_:=qal.mk (qae (za3 HB GE563 GE572) hb);clear HO560;clear HO569;clear BK563;clear BK572;clear HB;have HO560:=n0_;have HO569:=n1_;have BK563:=n2_;have BK572:=n3_;have HB:=n4_;clear n0_ n1_ n2_ n3_ n4_;(try clear hb);(try clear hb2);(try clear hk);(try clear hi)))
     go_meet
     case rel=>exact⟨_,(true),(za22),H',⟨za46⟩,⟨by(with_reducible repeat(first|apply Kd.S_alloc|apply Kd.S_drewN|apply Kd.S_drew));exact Kd.S_mono HO560.out (fun _ hk=>hk.2)⟩,⟨by(with_reducible repeat(first|apply Kd.S_alloc|apply Kd.S_drewN|apply Kd.S_drew));exact Kd.S_mono HO569.out (fun _ hk=>hk.2)⟩,⟨za0 BK563⟩,⟨za0 BK572⟩,⟨za3 HB GE563 GE572⟩⟩
  case rest=>
   clear HC6
   try clear c1
   try clear c2
   try clear c2b0
   try clear c2b1
   try clear p2
   try clear c3
   try clear c7
   try clear c14
   try clear c15
   try clear c16
   try clear c17
   try clear c17b0
   try clear c17b1
   try clear c17b2
   try clear c19
   try clear c20
   try clear c24
   try clear hcz10_0
   try clear hcz10_1
   try clear hcz10_2
   try clear hcz10_3
   try clear hcz10_4
   try clear hcz15_0
   try clear hcz15_1
   try clear hcz15_2
   try clear hcz15_3
   try clear hcz15_4
   try clear hcz21_0
   try clear hcz21_1
   try clear hcz21_2
   try clear hcz21_3
   try clear hcz21_4
   try clear hcz22_0
   try clear hcz22_1
   try clear hcz22_2
   try clear hcz22_3
   try clear hcz22_4
   try clear hcz25_0
   try clear hcz25_1
   try clear hcz25_2
   try clear hcz25_3
   try clear hcz25_4
   try clear hcz26_0
   try clear hcz26_1
   try clear hcz26_2
   try clear hcz26_3
   try clear hcz26_4
   try clear hfz10_0
   try clear hfz10_1
   try clear hfz10_2
   try clear hfz10_3
   try clear hfz10_4
   try clear hfz15_0
   try clear hfz15_1
   try clear hfz15_2
   try clear hfz15_3
   try clear hfz15_4
   try clear hfz21_0
   try clear hfz21_1
   try clear hfz21_2
   try clear hfz21_3
   try clear hfz21_4
   try clear hfz22_0
   try clear hfz22_1
   try clear hfz22_2
   try clear hfz22_3
   try clear hfz22_4
   try clear hfz25_0
   try clear hfz25_1
   try clear hfz25_2
   try clear hfz25_3
   try clear hfz25_4
   try clear hfz26_0
   try clear hfz26_1
   try clear hfz26_2
   try clear hfz26_3
   try clear hfz26_4
   obtain⟨kq,x41_5,rfl,HA,HJ5,HO_564003,HO_573003,BK563,BK572,HB⟩:=hcut
   cases kq with
   |zero=>exact absurd HA.out (by simp[laws_FnHouseNew.j0])
   |succ kj5=>
    have H:=HA.out
    clear HA
    simp only[laws_FnHouseNew.j0] at H
    by_cases c28:x41_5=true
    ·subst c28
     have H1:(if(t571 == t562)=true then((laws_lnHouse.f kj5 t564 t565 t566 t567 t570 t555 t556 t557 t558 t561).bind fun t574=>(some t574)) else(some false))=some r:=by rw[if_pos rfl] at H;exact H
     clear H
     have H:=H1
     clear H1
     by_cases c29:(t571 == t562)=true
     ·rw[if_pos c29] at H
      have c29b0:(t571 == t562)=true:=c29
      (try(have c29b1:decide (t571=t562)=true:=by simpa using c29))
      (try(have c29b2:(t571 == t562)=true:=by simpa using c29))
      clear c29
      replace H:=Option.bind_eq_some_iff.mp H
      obtain⟨t574,A300,H⟩:=H
      replace H:(some t574)=some r:=H
      have A30:=qal.mk A300
      clear A300
      obtain rfl:=Option.some.inj H
      have hnb31:=NB572_563.out
      have hnc31:=NB563_572.out
      have hcz32_0:wc.cell? ⟨gb572,0,none⟩=some (.int .i64 t564):=(qab BK572.out 0).trans rfl
      have hcz32_1:wc.cell? ⟨gb572,1,none⟩=some (.bool t565):=(qab BK572.out 1).trans rfl
      have hcz32_2:wc.cell? ⟨gb572,2,none⟩=some (.int .i64 t566):=(qab BK572.out 2).trans rfl
      have hcz32_3:wc.cell? ⟨gb572,3,none⟩=some (.slice Ao16 t567.length co16):=(qab BK572.out 3).trans rfl
      have hcz32_4:wc.cell? ⟨gb572,4,none⟩=some (.int .i64 t570):=(qab BK572.out 4).trans rfl
      have hfz32_0:=qaa BK572.out 0
      have hfz32_1:=qaa BK572.out 1
      have hfz32_2:=qaa BK572.out 2
      have hfz32_3:=qaa BK572.out 3
      have hfz32_4:=qaa BK572.out 4
      have hcz33_0:wc.cell? ⟨gb563,0,none⟩=some (.int .i64 t555):=(qab BK563.out 0).trans rfl
      have hcz33_1:wc.cell? ⟨gb563,1,none⟩=some (.bool t556):=(qab BK563.out 1).trans rfl
      have hcz33_2:wc.cell? ⟨gb563,2,none⟩=some (.int .i64 t557):=(qab BK563.out 2).trans rfl
      have hcz33_3:wc.cell? ⟨gb563,3,none⟩=some (.slice Ao11 t558.length co11):=(qab BK563.out 3).trans rfl
      have hcz33_4:wc.cell? ⟨gb563,4,none⟩=some (.int .i64 t561):=(qab BK563.out 4).trans rfl
      have hfz33_0:=qaa BK563.out 0
      have hfz33_1:=qaa BK563.out 1
      have hfz33_2:=qaa BK563.out 2
      have hfz33_3:=qaa BK563.out 3
      have hfz33_4:=qaa BK563.out 4
      go_wp2_with(first|(go_at_call 32;(with_reducible refine(laws_lnHouse.calls kj5 t564 t565 t566 _ _ t567 t570 t555 t556 t557 _ _ t558 t561 t574 _ ?side1 ?side2 ?side3 ?side4 A30.out).mono ?_);(case side1=>repeat(first|exact(Kd.S_reads' HO_573003.out).2.2|(with_reducible refine Kd.C_alloc ?_ _)|(with_reducible refine Kd.C_drewN ?_ _)|(with_reducible refine Kd.C_drew ?_)));(case side2=>exact(Kd.S_reads' HO_573003.out).2.1);(case side3=>repeat(first|exact(Kd.S_reads' HO_564003.out).2.2|(with_reducible refine Kd.C_alloc ?_ _)|(with_reducible refine Kd.C_drewN ?_ _)|(with_reducible refine Kd.C_drew ?_)));(case side4=>exact(Kd.S_reads' HO_564003.out).2.1);rintro e w34 ⟨rfl,hb⟩;have n0_:=qal.mk (Kd.S_below (za10 HO_564003) hb);have n1_:=qal.mk (Kd.S_below (za10 HO_573003) hb);have n2_:=qal.mk (qac (g:=gb563) (o:=.cells #[.int .i64 t555,.bool t556,.int .i64 t557,.slice Ao11 t558.length co11,.int .i64 t561] 26 (0,0)) (za0 BK563) hb);have n3_:=qal.mk (qac (g:=gb572) (o:=.cells #[.int .i64 t564,.bool t565,.int .i64 t566,.slice Ao16 t567.length co16,.int .i64 t570] 26 (0,0)) (za0 BK572) hb);have n4_:=qal.mk (qae (za3 HB GE563 GE572) hb);clear HO_564003;clear HO_573003;clear BK563;clear BK572;clear HB;have HO_564003:=n0_;have HO_573003:=n1_;have BK563:=n2_;have BK572:=n3_;have HB:=n4_;clear n0_ n1_ n2_ n3_ n4_;(try clear hb);(try clear hb2);(try clear hk);(try clear hi)))
      go_ret
      exact⟨za9,za3 HB GE563 GE572⟩
     ·rw[if_neg c29] at H
      have c29b0:(t571 == t562)=false:=by simpa using c29
      (try(have c29b1:decide (t571=t562)=false:=by simpa using c29))
      (try(have c29b2:(t571 == t562)=false:=by simpa using c29))
      (try(have c29b3:¬(t571=t562):=by simpa using c29))
      clear c29
      obtain rfl:=Option.some.inj H
      go_wp2
      go_ret
      exact⟨za9,za3 HB GE563 GE572⟩
    ·replace c28:=Bool.eq_false_iff.mpr c28
     subst c28
     have H1:((impl_HouseOk.f kj5 t564 t565 t566 t567 t570).bind fun t575=>(if t575=true then(if t565=true then(if t564=t553 then((impl_HouseStock.f kj5 t564 t565 t566 t567 t570 false).bind fun bt576=>((impl_StockFree.f kj5 bt576.1 bt576.2).bind fun t580=>(if t580=t554 then(some ((t567.length:Int) == 0)) else(some false)))) else(some false)) else(some false)) else(some false)))=some r:=by rw[if_neg (show ¬(false=true) by decide)] at H;exact H
     clear H
     have H:=H1
     clear H1
     replace H:=Option.bind_eq_some_iff.mp H
     obtain⟨t575,A350,H⟩:=H
     replace H:(if t575=true then(if t565=true then(if t564=t553 then((impl_HouseStock.f kj5 t564 t565 t566 t567 t570 false).bind fun bt576=>((impl_StockFree.f kj5 bt576.1 bt576.2).bind fun t580=>(if t580=t554 then(some ((t567.length:Int) == 0)) else(some false)))) else(some false)) else(some false)) else(some false))=some r:=H
     have A35:=qal.mk A350
     clear A350
     by_cases c36:t575=true
     ·subst c36
      have H1:(if t565=true then(if t564=t553 then((impl_HouseStock.f kj5 t564 t565 t566 t567 t570 false).bind fun bt576=>((impl_StockFree.f kj5 bt576.1 bt576.2).bind fun t580=>(if t580=t554 then(some ((t567.length:Int) == 0)) else(some false)))) else(some false)) else(some false))=some r:=by rw[if_pos rfl] at H;exact H
      clear H
      have H:=H1
      clear H1
      by_cases c37:t565=true
      ·subst c37
       have H1:(if t564=t553 then((impl_HouseStock.f kj5 t564 true t566 t567 t570 false).bind fun bt576=>((impl_StockFree.f kj5 bt576.1 bt576.2).bind fun t580=>(if t580=t554 then(some ((t567.length:Int) == 0)) else(some false)))) else(some false))=some r:=by rw[if_pos rfl] at H;exact H
       clear H
       have H:=H1
       clear H1
       by_cases c38:t564=t553
       ·rw[if_pos c38] at H
        have c38b0:(t564 == t553)=true:=beq_iff_eq.mpr c38
        have c38b1:(t564 != t553)=false:=bne_eq_false_iff_eq.mpr c38
        clear c38
        replace H:=Option.bind_eq_some_iff.mp H
        obtain⟨⟨t576,t577⟩,A390,H⟩:=H
        replace H:((impl_StockFree.f kj5 t576 t577).bind fun t580=>(if t580=t554 then(some ((t567.length:Int) == 0)) else(some false)))=some r:=H
        have A39:=qal.mk A390
        clear A390
        replace H:=Option.bind_eq_some_iff.mp H
        obtain⟨t580,A400,H⟩:=H
        replace H:(if t580=t554 then(some ((t567.length:Int) == 0)) else(some false))=some r:=H
        have A40:=qal.mk A400
        clear A400
        by_cases c41:t580=t554
        ·rw[if_pos c41] at H
         have c41b0:(t580 == t554)=true:=beq_iff_eq.mpr c41
         have c41b1:(t580 != t554)=false:=bne_eq_false_iff_eq.mpr c41
         clear c41
         obtain rfl:=Option.some.inj H
         have hnb42:=NB572_563.out
         have hnc42:=NB563_572.out
         have hcz43_0:wc.cell? ⟨gb572,0,none⟩=some (.int .i64 t564):=(qab BK572.out 0).trans rfl
         have hcz43_1:wc.cell? ⟨gb572,1,none⟩=some (.bool true):=(qab BK572.out 1).trans rfl
         have hcz43_2:wc.cell? ⟨gb572,2,none⟩=some (.int .i64 t566):=(qab BK572.out 2).trans rfl
         have hcz43_3:wc.cell? ⟨gb572,3,none⟩=some (.slice Ao16 t567.length co16):=(qab BK572.out 3).trans rfl
         have hcz43_4:wc.cell? ⟨gb572,4,none⟩=some (.int .i64 t570):=(qab BK572.out 4).trans rfl
         have hfz43_0:=qaa BK572.out 0
         have hfz43_1:=qaa BK572.out 1
         have hfz43_2:=qaa BK572.out 2
         have hfz43_3:=qaa BK572.out 3
         have hfz43_4:=qaa BK572.out 4
         go_wp2_with(first|((with_reducible refine qai (f:=33) rfl ?_);refine qau (some 51) rfl rfl Try.func33 (by kernel_rfl) rfl #[.agg #[.int .i64 t564,.bool true,.int .i64 t566,.slice Ao16 t567.length co16,.int .i64 t570]] rfl (by(try simp only[List.map_toArray,List.map_cons,List.map_nil]);first|done|rfl|(simp only[List.length_drop,List.length_take];rfl)) ?_;(with_reducible refine(impl_HouseOk.calls kj5 t564 true t566 _ _ t567 t570 true _ ?side1 ?side2 A35.out).mono ?_);(case side1=>repeat(first|exact(Kd.S_reads' HO_573003.out).2.2|(with_reducible refine Kd.C_alloc ?_ _)|(with_reducible refine Kd.C_drewN ?_ _)|(with_reducible refine Kd.C_drew ?_)));(case side2=>exact(Kd.S_reads' HO_573003.out).2.1);rintro e w44 ⟨rfl,hb⟩;refine⟨_,rfl,?_⟩;have n0_:=qal.mk (Kd.S_below (za10 HO_564003) hb);have n1_:=qal.mk (Kd.S_below (za10 HO_573003) hb);have n2_:=qal.mk (qac (g:=gb563) (o:=.cells #[.int .i64 t555,.bool t556,.int .i64 t557,.slice Ao11 t558.length co11,.int .i64 t561] 26 (0,0)) (za0 BK563) hb);have n3_:=qal.mk (qac (g:=gb572) (o:=.cells #[.int .i64 t564,.bool true,.int .i64 t566,.slice Ao16 t567.length co16,.int .i64 t570] 26 (0,0)) (za0 BK572) hb);have n4_:=qal.mk (qae (za3 HB GE563 GE572) hb);clear HO_564003;clear HO_573003;clear BK563;clear BK572;clear HB;have HO_564003:=n0_;have HO_573003:=n1_;have BK563:=n2_;have BK572:=n3_;have HB:=n4_;clear n0_ n1_ n2_ n3_ n4_;(try clear hb);(try clear hb2);(try clear hk);(try clear hi);have hcz45_0:w44.cell? ⟨gb572,0,none⟩=some (.int .i64 t564):=(qab BK572.out 0).trans rfl;have hcz45_1:w44.cell? ⟨gb572,1,none⟩=some (.bool true):=(qab BK572.out 1).trans rfl;have hcz45_2:w44.cell? ⟨gb572,2,none⟩=some (.int .i64 t566):=(qab BK572.out 2).trans rfl;have hcz45_3:w44.cell? ⟨gb572,3,none⟩=some (.slice Ao16 t567.length co16):=(qab BK572.out 3).trans rfl;have hcz45_4:w44.cell? ⟨gb572,4,none⟩=some (.int .i64 t570):=(qab BK572.out 4).trans rfl;have hfz45_0:=qaa BK572.out 0;have hfz45_1:=qaa BK572.out 1;have hfz45_2:=qaa BK572.out 2;have hfz45_3:=qaa BK572.out 3;have hfz45_4:=qaa BK572.out 4)|(go_at_call 34;(with_reducible refine(impl_HouseStock.calls kj5 t564 true t566 _ _ t567 t570 false t576 t577 _ ?side1 ?side2 A39.out).mono ?_);(case side1=>repeat(first|exact(Kd.S_reads' HO_573003.out).2.2|(with_reducible refine Kd.C_alloc ?_ _)|(with_reducible refine Kd.C_drewN ?_ _)|(with_reducible refine Kd.C_drew ?_)));(case side2=>exact(Kd.S_reads' HO_573003.out).2.1);rintro e w46 ⟨v578,rfl,ho0,hb⟩;have n0_:=qal.mk (Kd.S_below (za10 HO_564003) hb);have n1_:=qal.mk (Kd.S_below (za10 HO_573003) hb);have n2_:=qal.mk (Kd.R_lower ho0 (qad (za3 HB GE563 GE572)));have n3_:=qal.mk (qac (g:=gb563) (o:=.cells #[.int .i64 t555,.bool t556,.int .i64 t557,.slice Ao11 t558.length co11,.int .i64 t561] 26 (0,0)) (za0 BK563) hb);have n4_:=qal.mk (qac (g:=gb572) (o:=.cells #[.int .i64 t564,.bool true,.int .i64 t566,.slice Ao16 t567.length co16,.int .i64 t570] 26 (0,0)) (za0 BK572) hb);have n5_:=qal.mk (qae (za3 HB GE563 GE572) hb);clear HO_564003;clear HO_573003;clear BK563;clear BK572;clear HB;have HO_564003:=n0_;have HO_573003:=n1_;have HO579:=n2_;have BK563:=n3_;have BK572:=n4_;have HB:=n5_;clear n0_ n1_ n2_ n3_ n4_ n5_;(try clear hb);(try clear hb2);(try clear hk);(try clear hi);(try clear ho0);obtain⟨Ao47,co47,eo47⟩:=Kd.R_slice HO579.out;subst eo47)|(go_at_call 26;(with_reducible refine(impl_StockFree.calls kj5 t576 _ _ t577 t580 _ ?side1 ?side2 A40.out).mono ?_);(case side1=>repeat(first|exact(Kd.R_reads' HO579.out).2.2|(with_reducible refine Kd.C_alloc ?_ _)|(with_reducible refine Kd.C_drewN ?_ _)|(with_reducible refine Kd.C_drew ?_)));(case side2=>exact(Kd.R_reads' HO579.out).2.1);rintro e w48 ⟨rfl,hb⟩;have n0_:=qal.mk (Kd.S_below (za10 HO_564003) hb);have n1_:=qal.mk (Kd.S_below (za10 HO_573003) hb);have n2_:=qal.mk (Kd.R_below (za4 HO579) hb);have n3_:=qal.mk (qac (g:=gb563) (o:=.cells #[.int .i64 t555,.bool t556,.int .i64 t557,.slice Ao11 t558.length co11,.int .i64 t561] 26 (0,0)) (za0 BK563) hb);have n4_:=qal.mk (qac (g:=gb572) (o:=.cells #[.int .i64 t564,.bool true,.int .i64 t566,.slice Ao16 t567.length co16,.int .i64 t570] 26 (0,0)) (za0 BK572) hb);have n5_:=qal.mk (qae (za3 HB GE563 GE572) hb);clear HO_564003;clear HO_573003;clear HO579;clear BK563;clear BK572;clear HB;have HO_564003:=n0_;have HO_573003:=n1_;have HO579:=n2_;have BK563:=n3_;have BK572:=n4_;have HB:=n5_;clear n0_ n1_ n2_ n3_ n4_ n5_;(try clear hb);(try clear hb2);(try clear hk);(try clear hi);have hcz49_0:w48.cell? ⟨gb572,0,none⟩=some (.int .i64 t564):=(qab BK572.out 0).trans rfl;have hcz49_1:w48.cell? ⟨gb572,1,none⟩=some (.bool true):=(qab BK572.out 1).trans rfl;have hcz49_2:w48.cell? ⟨gb572,2,none⟩=some (.int .i64 t566):=(qab BK572.out 2).trans rfl;have hcz49_3:w48.cell? ⟨gb572,3,none⟩=some (.slice Ao16 t567.length co16):=(qab BK572.out 3).trans rfl;have hcz49_4:w48.cell? ⟨gb572,4,none⟩=some (.int .i64 t570):=(qab BK572.out 4).trans rfl;have hfz49_0:=qaa BK572.out 0;have hfz49_1:=qaa BK572.out 1;have hfz49_2:=qaa BK572.out 2;have hfz49_3:=qaa BK572.out 3;have hfz49_4:=qaa BK572.out 4))
         go_ret
         exact⟨za9,za3 HB GE563 GE572⟩
        ·rw[if_neg c41] at H
         have c41b0:(t580 == t554)=false:=beq_eq_false_iff_ne.mpr c41
         have c41b1:(t580 != t554)=true:=bne_iff_ne.mpr c41
         obtain rfl:=Option.some.inj H
         have hnb50:=NB572_563.out
         have hnc50:=NB563_572.out
         have hcz51_0:wc.cell? ⟨gb572,0,none⟩=some (.int .i64 t564):=(qab BK572.out 0).trans rfl
         have hcz51_1:wc.cell? ⟨gb572,1,none⟩=some (.bool true):=(qab BK572.out 1).trans rfl
         have hcz51_2:wc.cell? ⟨gb572,2,none⟩=some (.int .i64 t566):=(qab BK572.out 2).trans rfl
         have hcz51_3:wc.cell? ⟨gb572,3,none⟩=some (.slice Ao16 t567.length co16):=(qab BK572.out 3).trans rfl
         have hcz51_4:wc.cell? ⟨gb572,4,none⟩=some (.int .i64 t570):=(qab BK572.out 4).trans rfl
         have hfz51_0:=qaa BK572.out 0
         have hfz51_1:=qaa BK572.out 1
         have hfz51_2:=qaa BK572.out 2
         have hfz51_3:=qaa BK572.out 3
         have hfz51_4:=qaa BK572.out 4
         go_wp2_with(first|((with_reducible refine qai (f:=33) rfl ?_);refine qau (some 51) rfl rfl Try.func33 (by kernel_rfl) rfl #[.agg #[.int .i64 t564,.bool true,.int .i64 t566,.slice Ao16 t567.length co16,.int .i64 t570]] rfl (by(try simp only[List.map_toArray,List.map_cons,List.map_nil]);first|done|rfl|(simp only[List.length_drop,List.length_take];rfl)) ?_;(with_reducible refine(impl_HouseOk.calls kj5 t564 true t566 _ _ t567 t570 true _ ?side1 ?side2 A35.out).mono ?_);(case side1=>repeat(first|exact(Kd.S_reads' HO_573003.out).2.2|(with_reducible refine Kd.C_alloc ?_ _)|(with_reducible refine Kd.C_drewN ?_ _)|(with_reducible refine Kd.C_drew ?_)));(case side2=>exact(Kd.S_reads' HO_573003.out).2.1);rintro e w52 ⟨rfl,hb⟩;refine⟨_,rfl,?_⟩;have n0_:=qal.mk (Kd.S_below (za10 HO_564003) hb);have n1_:=qal.mk (Kd.S_below (za10 HO_573003) hb);have n2_:=qal.mk (qac (g:=gb563) (o:=.cells #[.int .i64 t555,.bool t556,.int .i64 t557,.slice Ao11 t558.length co11,.int .i64 t561] 26 (0,0)) (za0 BK563) hb);have n3_:=qal.mk (qac (g:=gb572) (o:=.cells #[.int .i64 t564,.bool true,.int .i64 t566,.slice Ao16 t567.length co16,.int .i64 t570] 26 (0,0)) (za0 BK572) hb);have n4_:=qal.mk (qae (za3 HB GE563 GE572) hb);clear HO_564003;clear HO_573003;clear BK563;clear BK572;clear HB;have HO_564003:=n0_;have HO_573003:=n1_;have BK563:=n2_;have BK572:=n3_;have HB:=n4_;clear n0_ n1_ n2_ n3_ n4_;(try clear hb);(try clear hb2);(try clear hk);(try clear hi);have hcz53_0:w52.cell? ⟨gb572,0,none⟩=some (.int .i64 t564):=(qab BK572.out 0).trans rfl;have hcz53_1:w52.cell? ⟨gb572,1,none⟩=some (.bool true):=(qab BK572.out 1).trans rfl;have hcz53_2:w52.cell? ⟨gb572,2,none⟩=some (.int .i64 t566):=(qab BK572.out 2).trans rfl;have hcz53_3:w52.cell? ⟨gb572,3,none⟩=some (.slice Ao16 t567.length co16):=(qab BK572.out 3).trans rfl;have hcz53_4:w52.cell? ⟨gb572,4,none⟩=some (.int .i64 t570):=(qab BK572.out 4).trans rfl;have hfz53_0:=qaa BK572.out 0;have hfz53_1:=qaa BK572.out 1;have hfz53_2:=qaa BK572.out 2;have hfz53_3:=qaa BK572.out 3;have hfz53_4:=qaa BK572.out 4)|(go_at_call 34;(with_reducible refine(impl_HouseStock.calls kj5 t564 true t566 _ _ t567 t570 false t576 t577 _ ?side1 ?side2 A39.out).mono ?_);(case side1=>repeat(first|exact(Kd.S_reads' HO_573003.out).2.2|(with_reducible refine Kd.C_alloc ?_ _)|(with_reducible refine Kd.C_drewN ?_ _)|(with_reducible refine Kd.C_drew ?_)));(case side2=>exact(Kd.S_reads' HO_573003.out).2.1);rintro e w54 ⟨v578,rfl,ho0,hb⟩;have n0_:=qal.mk (Kd.S_below (za10 HO_564003) hb);have n1_:=qal.mk (Kd.S_below (za10 HO_573003) hb);have n2_:=qal.mk (Kd.R_lower ho0 (qad (za3 HB GE563 GE572)));have n3_:=qal.mk (qac (g:=gb563) (o:=.cells #[.int .i64 t555,.bool t556,.int .i64 t557,.slice Ao11 t558.length co11,.int .i64 t561] 26 (0,0)) (za0 BK563) hb);have n4_:=qal.mk (qac (g:=gb572) (o:=.cells #[.int .i64 t564,.bool true,.int .i64 t566,.slice Ao16 t567.length co16,.int .i64 t570] 26 (0,0)) (za0 BK572) hb);have n5_:=qal.mk (qae (za3 HB GE563 GE572) hb);clear HO_564003;clear HO_573003;clear BK563;clear BK572;clear HB;have HO_564003:=n0_;have HO_573003:=n1_;have HO579:=n2_;have BK563:=n3_;have BK572:=n4_;have HB:=n5_;clear n0_ n1_ n2_ n3_ n4_ n5_;(try clear hb);(try clear hb2);(try clear hk);(try clear hi);(try clear ho0);obtain⟨Ao55,co55,eo55⟩:=Kd.R_slice HO579.out;subst eo55)|(go_at_call 26;(with_reducible refine(impl_StockFree.calls kj5 t576 _ _ t577 t580 _ ?side1 ?side2 A40.out).mono ?_);(case side1=>repeat(first|exact(Kd.R_reads' HO579.out).2.2|(with_reducible refine Kd.C_alloc ?_ _)|(with_reducible refine Kd.C_drewN ?_ _)|(with_reducible refine Kd.C_drew ?_)));(case side2=>exact(Kd.R_reads' HO579.out).2.1);rintro e w56 ⟨rfl,hb⟩;have n0_:=qal.mk (Kd.S_below (za10 HO_564003) hb);have n1_:=qal.mk (Kd.S_below (za10 HO_573003) hb);have n2_:=qal.mk (Kd.R_below (za4 HO579) hb);have n3_:=qal.mk (qac (g:=gb563) (o:=.cells #[.int .i64 t555,.bool t556,.int .i64 t557,.slice Ao11 t558.length co11,.int .i64 t561] 26 (0,0)) (za0 BK563) hb);have n4_:=qal.mk (qac (g:=gb572) (o:=.cells #[.int .i64 t564,.bool true,.int .i64 t566,.slice Ao16 t567.length co16,.int .i64 t570] 26 (0,0)) (za0 BK572) hb);have n5_:=qal.mk (qae (za3 HB GE563 GE572) hb);clear HO_564003;clear HO_573003;clear HO579;clear BK563;clear BK572;clear HB;have HO_564003:=n0_;have HO_573003:=n1_;have HO579:=n2_;have BK563:=n3_;have BK572:=n4_;have HB:=n5_;clear n0_ n1_ n2_ n3_ n4_ n5_;(try clear hb);(try clear hb2);(try clear hk);(try clear hi)))
         go_ret
         exact⟨za9,za3 HB GE563 GE572⟩
       ·rw[if_neg c38] at H
        have c38b0:(t564 == t553)=false:=beq_eq_false_iff_ne.mpr c38
        have c38b1:(t564 != t553)=true:=bne_iff_ne.mpr c38
        obtain rfl:=Option.some.inj H
        have hnb57:=NB572_563.out
        have hnc57:=NB563_572.out
        have hcz58_0:wc.cell? ⟨gb572,0,none⟩=some (.int .i64 t564):=(qab BK572.out 0).trans rfl
        have hcz58_1:wc.cell? ⟨gb572,1,none⟩=some (.bool true):=(qab BK572.out 1).trans rfl
        have hcz58_2:wc.cell? ⟨gb572,2,none⟩=some (.int .i64 t566):=(qab BK572.out 2).trans rfl
        have hcz58_3:wc.cell? ⟨gb572,3,none⟩=some (.slice Ao16 t567.length co16):=(qab BK572.out 3).trans rfl
        have hcz58_4:wc.cell? ⟨gb572,4,none⟩=some (.int .i64 t570):=(qab BK572.out 4).trans rfl
        have hfz58_0:=qaa BK572.out 0
        have hfz58_1:=qaa BK572.out 1
        have hfz58_2:=qaa BK572.out 2
        have hfz58_3:=qaa BK572.out 3
        have hfz58_4:=qaa BK572.out 4
        go_wp2_with(first|((with_reducible refine qai (f:=33) rfl ?_);refine qau (some 51) rfl rfl Try.func33 (by kernel_rfl) rfl #[.agg #[.int .i64 t564,.bool true,.int .i64 t566,.slice Ao16 t567.length co16,.int .i64 t570]] rfl (by(try simp only[List.map_toArray,List.map_cons,List.map_nil]);first|done|rfl|(simp only[List.length_drop,List.length_take];rfl)) ?_;(with_reducible refine(impl_HouseOk.calls kj5 t564 true t566 _ _ t567 t570 true _ ?side1 ?side2 A35.out).mono ?_);(case side1=>repeat(first|exact(Kd.S_reads' HO_573003.out).2.2|(with_reducible refine Kd.C_alloc ?_ _)|(with_reducible refine Kd.C_drewN ?_ _)|(with_reducible refine Kd.C_drew ?_)));(case side2=>exact(Kd.S_reads' HO_573003.out).2.1);rintro e w59 ⟨rfl,hb⟩;refine⟨_,rfl,?_⟩;have n0_:=qal.mk (Kd.S_below (za10 HO_564003) hb);have n1_:=qal.mk (Kd.S_below (za10 HO_573003) hb);have n2_:=qal.mk (qac (g:=gb563) (o:=.cells #[.int .i64 t555,.bool t556,.int .i64 t557,.slice Ao11 t558.length co11,.int .i64 t561] 26 (0,0)) (za0 BK563) hb);have n3_:=qal.mk (qac (g:=gb572) (o:=.cells #[.int .i64 t564,.bool true,.int .i64 t566,.slice Ao16 t567.length co16,.int .i64 t570] 26 (0,0)) (za0 BK572) hb);have n4_:=qal.mk (qae (za3 HB GE563 GE572) hb);clear HO_564003;clear HO_573003;clear BK563;clear BK572;clear HB;have HO_564003:=n0_;have HO_573003:=n1_;have BK563:=n2_;have BK572:=n3_;have HB:=n4_;clear n0_ n1_ n2_ n3_ n4_;(try clear hb);(try clear hb2);(try clear hk);(try clear hi);have hcz60_0:w59.cell? ⟨gb572,0,none⟩=some (.int .i64 t564):=(qab BK572.out 0).trans rfl;have hcz60_1:w59.cell? ⟨gb572,1,none⟩=some (.bool true):=(qab BK572.out 1).trans rfl;have hcz60_2:w59.cell? ⟨gb572,2,none⟩=some (.int .i64 t566):=(qab BK572.out 2).trans rfl;have hcz60_3:w59.cell? ⟨gb572,3,none⟩=some (.slice Ao16 t567.length co16):=(qab BK572.out 3).trans rfl;have hcz60_4:w59.cell? ⟨gb572,4,none⟩=some (.int .i64 t570):=(qab BK572.out 4).trans rfl;have hfz60_0:=qaa BK572.out 0;have hfz60_1:=qaa BK572.out 1;have hfz60_2:=qaa BK572.out 2;have hfz60_3:=qaa BK572.out 3;have hfz60_4:=qaa BK572.out 4))
        go_ret
        exact⟨za9,za3 HB GE563 GE572⟩
      ·replace c37:=Bool.eq_false_iff.mpr c37
       subst c37
       have H1:(some false)=some r:=by rw[if_neg (show ¬(false=true) by decide)] at H;exact H
       clear H
       have H:=H1
       clear H1
       obtain rfl:=Option.some.inj H
       have hnb61:=NB572_563.out
       have hnc61:=NB563_572.out
       have hcz62_0:wc.cell? ⟨gb572,0,none⟩=some (.int .i64 t564):=(qab BK572.out 0).trans rfl
       have hcz62_1:wc.cell? ⟨gb572,1,none⟩=some (.bool false):=(qab BK572.out 1).trans rfl
       have hcz62_2:wc.cell? ⟨gb572,2,none⟩=some (.int .i64 t566):=(qab BK572.out 2).trans rfl
       have hcz62_3:wc.cell? ⟨gb572,3,none⟩=some (.slice Ao16 t567.length co16):=(qab BK572.out 3).trans rfl
       have hcz62_4:wc.cell? ⟨gb572,4,none⟩=some (.int .i64 t570):=(qab BK572.out 4).trans rfl
       have hfz62_0:=qaa BK572.out 0
       have hfz62_1:=qaa BK572.out 1
       have hfz62_2:=qaa BK572.out 2
       have hfz62_3:=qaa BK572.out 3
       have hfz62_4:=qaa BK572.out 4
       go_wp2_with(first|((with_reducible refine qai (f:=33) rfl ?_);refine qau (some 51) rfl rfl Try.func33 (by kernel_rfl) rfl #[.agg #[.int .i64 t564,.bool false,.int .i64 t566,.slice Ao16 t567.length co16,.int .i64 t570]] rfl (by(try simp only[List.map_toArray,List.map_cons,List.map_nil]);first|done|rfl|(simp only[List.length_drop,List.length_take];rfl)) ?_;(with_reducible refine(impl_HouseOk.calls kj5 t564 false t566 _ _ t567 t570 true _ ?side1 ?side2 A35.out).mono ?_);(case side1=>repeat(first|exact(Kd.S_reads' HO_573003.out).2.2|(with_reducible refine Kd.C_alloc ?_ _)|(with_reducible refine Kd.C_drewN ?_ _)|(with_reducible refine Kd.C_drew ?_)));(case side2=>exact(Kd.S_reads' HO_573003.out).2.1);rintro e w63 ⟨rfl,hb⟩;refine⟨_,rfl,?_⟩;have n0_:=qal.mk (Kd.S_below (za10 HO_564003) hb);have n1_:=qal.mk (Kd.S_below (za10 HO_573003) hb);have n2_:=qal.mk (qac (g:=gb563) (o:=.cells #[.int .i64 t555,.bool t556,.int .i64 t557,.slice Ao11 t558.length co11,.int .i64 t561] 26 (0,0)) (za0 BK563) hb);have n3_:=qal.mk (qac (g:=gb572) (o:=.cells #[.int .i64 t564,.bool false,.int .i64 t566,.slice Ao16 t567.length co16,.int .i64 t570] 26 (0,0)) (za0 BK572) hb);have n4_:=qal.mk (qae (za3 HB GE563 GE572) hb);clear HO_564003;clear HO_573003;clear BK563;clear BK572;clear HB;have HO_564003:=n0_;have HO_573003:=n1_;have BK563:=n2_;have BK572:=n3_;have HB:=n4_;clear n0_ n1_ n2_ n3_ n4_;(try clear hb);(try clear hb2);(try clear hk);(try clear hi);have hcz64_0:w63.cell? ⟨gb572,0,none⟩=some (.int .i64 t564):=(qab BK572.out 0).trans rfl;have hcz64_1:w63.cell? ⟨gb572,1,none⟩=some (.bool false):=(qab BK572.out 1).trans rfl;have hcz64_2:w63.cell? ⟨gb572,2,none⟩=some (.int .i64 t566):=(qab BK572.out 2).trans rfl;have hcz64_3:w63.cell? ⟨gb572,3,none⟩=some (.slice Ao16 t567.length co16):=(qab BK572.out 3).trans rfl;have hcz64_4:w63.cell? ⟨gb572,4,none⟩=some (.int .i64 t570):=(qab BK572.out 4).trans rfl;have hfz64_0:=qaa BK572.out 0;have hfz64_1:=qaa BK572.out 1;have hfz64_2:=qaa BK572.out 2;have hfz64_3:=qaa BK572.out 3;have hfz64_4:=qaa BK572.out 4))
       go_ret
       exact⟨za9,za3 HB GE563 GE572⟩
     ·replace c36:=Bool.eq_false_iff.mpr c36
      subst c36
      have H1:(some false)=some r:=by rw[if_neg (show ¬(false=true) by decide)] at H;exact H
      clear H
      have H:=H1
      clear H1
      obtain rfl:=Option.some.inj H
      have hnb65:=NB572_563.out
      have hnc65:=NB563_572.out
      have hcz66_0:wc.cell? ⟨gb572,0,none⟩=some (.int .i64 t564):=(qab BK572.out 0).trans rfl
      have hcz66_1:wc.cell? ⟨gb572,1,none⟩=some (.bool t565):=(qab BK572.out 1).trans rfl
      have hcz66_2:wc.cell? ⟨gb572,2,none⟩=some (.int .i64 t566):=(qab BK572.out 2).trans rfl
      have hcz66_3:wc.cell? ⟨gb572,3,none⟩=some (.slice Ao16 t567.length co16):=(qab BK572.out 3).trans rfl
      have hcz66_4:wc.cell? ⟨gb572,4,none⟩=some (.int .i64 t570):=(qab BK572.out 4).trans rfl
      have hfz66_0:=qaa BK572.out 0
      have hfz66_1:=qaa BK572.out 1
      have hfz66_2:=qaa BK572.out 2
      have hfz66_3:=qaa BK572.out 3
      have hfz66_4:=qaa BK572.out 4
      go_wp2_with(first|((with_reducible refine qai (f:=33) rfl ?_);refine qau (some 51) rfl rfl Try.func33 (by kernel_rfl) rfl #[.agg #[.int .i64 t564,.bool t565,.int .i64 t566,.slice Ao16 t567.length co16,.int .i64 t570]] rfl (by(try simp only[List.map_toArray,List.map_cons,List.map_nil]);first|done|rfl|(simp only[List.length_drop,List.length_take];rfl)) ?_;(with_reducible refine(impl_HouseOk.calls kj5 t564 t565 t566 _ _ t567 t570 false _ ?side1 ?side2 A35.out).mono ?_);(case side1=>repeat(first|exact(Kd.S_reads' HO_573003.out).2.2|(with_reducible refine Kd.C_alloc ?_ _)|(with_reducible refine Kd.C_drewN ?_ _)|(with_reducible refine Kd.C_drew ?_)));(case side2=>exact(Kd.S_reads' HO_573003.out).2.1);rintro e w67 ⟨rfl,hb⟩;refine⟨_,rfl,?_⟩;have n0_:=qal.mk (Kd.S_below (za10 HO_564003) hb);have n1_:=qal.mk (Kd.S_below (za10 HO_573003) hb);have n2_:=qal.mk (qac (g:=gb563) (o:=.cells #[.int .i64 t555,.bool t556,.int .i64 t557,.slice Ao11 t558.length co11,.int .i64 t561] 26 (0,0)) (za0 BK563) hb);have n3_:=qal.mk (qac (g:=gb572) (o:=.cells #[.int .i64 t564,.bool t565,.int .i64 t566,.slice Ao16 t567.length co16,.int .i64 t570] 26 (0,0)) (za0 BK572) hb);have n4_:=qal.mk (qae (za3 HB GE563 GE572) hb);clear HO_564003;clear HO_573003;clear BK563;clear BK572;clear HB;have HO_564003:=n0_;have HO_573003:=n1_;have BK563:=n2_;have BK572:=n3_;have HB:=n4_;clear n0_ n1_ n2_ n3_ n4_;(try clear hb);(try clear hb2);(try clear hk);(try clear hi)))
      go_ret
      exact⟨za9,za3 HB GE563 GE572⟩
def laws_FnHouseNew.Pure:Prop:=∀(l0:List Int),l0.length≤maxLen→l0.length*1≤140737488351232→(∀x ∈ l0,(Lit.int .u8 x).wf=true)→∃k,laws_FnHouseNew.f k l0=some true
theorem laws_FnHouseNew.walk (P:laws_FnHouseNew.Pure) (a0:Option Addr) (len0 cap0:Nat) (z0:List Int) (w:World) (w0:(a0=none∧len0=0∧cap0=0∧z0=[])∨∃x,a0=some x∧len0≤cap0∧cap0≤maxLen∧z0.length=cap0∧(∀i,i<z0.length→w.cell? (x.add i)=some (.int .u8 (z0.getD i 0)))∧∀n ∈ z0,(Lit.int .u8 n).wf=true) (y0:len0*1≤140737488351232) :
  Calls Try.prog 7 #[.slice a0 len0 cap0] w fun e w'=>e=.returned (.bool true)∧Below w.heap.size w w':=by
 obtain⟨l0,rfl,hr0,hm0,hw0,hc0⟩:=ReadsInt.ofRowC w0
 obtain⟨k,h⟩:=P l0 hm0 y0 hw0
 refine(laws_FnHouseNew.calls k _ _ l0 true w (Kd.C_of_reads (d:=(0:Int)) (h1:=fun _=>rfl) hr0) hc0 h).mono ?_
 rintro e w' ⟨rfl,hd⟩
 exact⟨rfl,hd⟩
end Go.Proofs.Ytjccnaklodbbfaa.Print
