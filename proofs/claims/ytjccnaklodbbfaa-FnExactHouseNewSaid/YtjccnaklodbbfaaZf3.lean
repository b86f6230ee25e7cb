-- Written by squeeze.py, a program of this session, out of what print.sh and myprint.py had printed: cut to what is used, narrowed. Not trusted, Lean checks it.
import Derived.Test.YtjccnaklodbbfaaZK
import Derived.Test.YtjccnaklodbbfaaZd0
import Derived.Test.YtjccnaklodbbfaaZf1
import Derived.Test.YtjccnaklodbbfaaZf2
namespace Go.Proofs.Ytjccnaklodbbfaa.Print
open Go.RowKit Go.Proofs.YtjccnaklodbbfaaW.PrintWords Go.Proofs.YtjccnaklodbbfaaW.PrintLast Go.Proofs.YtjccnaklodbbfaaW.PrintMore
attribute [local go_sem] max2_int min2_int max_two min_two max_three min_three max_four min_four
set_option linter.unusedVariables false
set_option linter.unusedSimpArgs false
mutual
def laws_FnExactHouseNew.j0:Nat→Int→Int→Bool→Bool→Int→Bool→Int→List (S62)→Int→Int→Bool→Int→List (S62)→Int→Option (Bool)
 |0,_,_,_,_,_,_,_,_,_,_,_,_,_,_=>none
 |k+1,x0,x1,x6,x33,x158000,x158001,x158002,x158003,x158004,x167000,x167001,x167002,x167003,x167004=>if x33=true then(some false) else((laws_markHouse.f x167000 x167001 x167002 x167003 x167004 1).bind fun t168=>((laws_heldHouse.f k x167000 x167001 x167002 x167003 x167004 1).bind fun t169=>(if t169<0 then(some false) else(if t169=t168 then((impl_HouseNew.f x0 x1).bind fun bt170=>((laws_eqHouse.f k bt170.1 bt170.2.1 bt170.2.2.1 bt170.2.2.2.1 bt170.2.2.2.2.1 x158000 x158001 x158002 x158003 x158004).bind fun t179=>(if t179=true then(laws_FnExactHouseNew.j1 k t168 (bt170.2.2.2.2.2 != x6) x167000 x167001 x167002 x167003 x167004) else(laws_FnExactHouseNew.j1 k t168 true x167000 x167001 x167002 x167003 x167004)))) else(some false)))))
def laws_FnExactHouseNew.j1:Nat→Int→Bool→Int→Bool→Int→List (S62)→Int→Option (Bool)
 |0,_,_,_,_,_,_,_=>none
 |k+1,x9,x59,x167000,x167001,x167002,x167003,x167004=>if x59=true then(some false) else((laws_heldHouse.f k x167000 x167001 x167002 x167003 x167004 1).bind fun t180=>(if t180<0 then(some false) else(if t180=x9 then(some true) else(some false))))
end
def laws_FnExactHouseNew.f (k:Nat) (a0:Int) (a1:Int):Option (Bool):=(spec_HouseNew.f a0 a1).bind fun bt149=>((impl_HouseNew.f a0 a1).bind fun bt158=>((laws_eqHouse.f k bt158.1 bt158.2.1 bt158.2.2.1 bt158.2.2.2.1 bt158.2.2.2.2.1 bt149.1 bt149.2.1 bt149.2.2.1 bt149.2.2.2.1 bt149.2.2.2.2.1).bind fun t167=>(if t167=true then(laws_FnExactHouseNew.j0 k a0 a1 bt149.2.2.2.2.2 (bt158.2.2.2.2.2 != bt149.2.2.2.2.2) bt149.1 bt149.2.1 bt149.2.2.1 bt149.2.2.2.1 bt149.2.2.2.2.1 bt158.1 bt158.2.1 bt158.2.2.1 bt158.2.2.2.1 bt158.2.2.2.2.1) else(laws_FnExactHouseNew.j0 k a0 a1 bt149.2.2.2.2.2 true bt149.1 bt149.2.1 bt149.2.2.1 bt149.2.2.2.1 bt149.2.2.2.2.1 bt158.1 bt158.2.1 bt158.2.2.1 bt158.2.2.2.1 bt158.2.2.2.2.1))))
theorem laws_FnExactHouseNew.mono_l:∀k,(∀y0 y1 y2 y3 y4 y5 y6 y7 y8 y9 y10 y11 y12 y13,LeO (laws_FnExactHouseNew.j0 k y0 y1 y2 y3 y4 y5 y6 y7 y8 y9 y10 y11 y12 y13) (laws_FnExactHouseNew.j0 (k+1) y0 y1 y2 y3 y4 y5 y6 y7 y8 y9 y10 y11 y12 y13))∧(∀y0 y1 y2 y3 y4 y5 y6,LeO (laws_FnExactHouseNew.j1 k y0 y1 y2 y3 y4 y5 y6) (laws_FnExactHouseNew.j1 (k+1) y0 y1 y2 y3 y4 y5 y6))
 |0=>⟨fun _ _ _ _ _ _ _ _ _ _ _ _ _ _ r h=>by simp[laws_FnExactHouseNew.j0] at h,fun _ _ _ _ _ _ _ r h=>by simp[laws_FnExactHouseNew.j1] at h⟩
 |k+1=>by
  obtain⟨ih0,ih1⟩:=laws_FnExactHouseNew.mono_l k
  refine⟨?_,?_⟩
  ·intro y0 y1 y2 y3 y4 y5 y6 y7 y8 y9 y10 y11 y12 y13
   unfold laws_FnExactHouseNew.j0
   repeat' first
   |(with_reducible exact ih0 _ _ _ _ _ _ _ _ _ _ _ _ _ _)
   |(with_reducible exact ih1 _ _ _ _ _ _ _)
   |(with_reducible exact laws_eqHouse.mono _ _ _ _ _ _ _ _ _ _ _)
   |(with_reducible exact laws_heldHouse.mono _ _ _ _ _ _ _)
   |(with_reducible exact LeO.refl _)
   |(with_reducible exact LeO.none _)
   |(with_reducible refine LeO.ite ?_ ?_)
   |(with_reducible refine LeO.bind ?_ (fun _=>?_))
   |exact ih0 _ _ _ _ _ _ _ _ _ _ _ _ _ _
   |exact ih1 _ _ _ _ _ _ _
   |exact laws_eqHouse.mono _ _ _ _ _ _ _ _ _ _ _
   |exact laws_heldHouse.mono _ _ _ _ _ _ _
   |exact LeO.none _
   |refine LeO.ite ?_ ?_
   |refine LeO.bind ?_ (fun _=>?_)
  ·intro y0 y1 y2 y3 y4 y5 y6
   unfold laws_FnExactHouseNew.j1
   repeat' first
   |(with_reducible exact ih0 _ _ _ _ _ _ _ _ _ _ _ _ _ _)
   |(with_reducible exact ih1 _ _ _ _ _ _ _)
   |(with_reducible exact laws_eqHouse.mono _ _ _ _ _ _ _ _ _ _ _)
   |(with_reducible exact laws_heldHouse.mono _ _ _ _ _ _ _)
   |(with_reducible exact LeO.refl _)
   |(with_reducible exact LeO.none _)
   |(with_reducible refine LeO.ite ?_ ?_)
   |(with_reducible refine LeO.bind ?_ (fun _=>?_))
   |exact ih0 _ _ _ _ _ _ _ _ _ _ _ _ _ _
   |exact ih1 _ _ _ _ _ _ _
   |exact laws_eqHouse.mono _ _ _ _ _ _ _ _ _ _ _
   |exact laws_heldHouse.mono _ _ _ _ _ _ _
   |exact LeO.none _
   |refine LeO.ite ?_ ?_
   |refine LeO.bind ?_ (fun _=>?_)
theorem laws_FnExactHouseNew.mono:∀a0 a1 k,LeO (laws_FnExactHouseNew.f k a0 a1) (laws_FnExactHouseNew.f (k+1) a0 a1):=by
 intro a0 a1 k
 obtain⟨ih0,ih1⟩:=laws_FnExactHouseNew.mono_l k
 unfold laws_FnExactHouseNew.f
 repeat' first
   |(with_reducible exact ih0 _ _ _ _ _ _ _ _ _ _ _ _ _ _)
   |(with_reducible exact ih1 _ _ _ _ _ _ _)
   |(with_reducible exact laws_eqHouse.mono _ _ _ _ _ _ _ _ _ _ _)
   |(with_reducible exact laws_heldHouse.mono _ _ _ _ _ _ _)
   |(with_reducible exact LeO.refl _)
   |(with_reducible exact LeO.none _)
   |(with_reducible refine LeO.ite ?_ ?_)
   |(with_reducible refine LeO.bind ?_ (fun _=>?_))
   |exact ih0 _ _ _ _ _ _ _ _ _ _ _ _ _ _
   |exact ih1 _ _ _ _ _ _ _
   |exact laws_eqHouse.mono _ _ _ _ _ _ _ _ _ _ _
   |exact laws_heldHouse.mono _ _ _ _ _ _ _
   |exact LeO.none _
   |refine LeO.ite ?_ ?_
   |refine LeO.bind ?_ (fun _=>?_)
set_option maxHeartbeats 8000000 in
set_option maxRecDepth 100000 in
theorem laws_FnExactHouseNew.calls (k:Nat) (a0:Int) (a1:Int) (r:Bool) (w:World) (h:laws_FnExactHouseNew.f k a0 a1=some r) :
  Calls Try.prog 3 #[.int .i64 a0,.int .i64 a1] w fun e w'=>e=.returned (.bool r)∧Below w.heap.size w w':=by
 have hu26:=Try.underlying26
 have HB:=qal.mk (Below.refl w.heap.size w)
 have H:((spec_HouseNew.f a0 a1).bind fun bt149=>((impl_HouseNew.f a0 a1).bind fun bt158=>((laws_eqHouse.f k bt158.1 bt158.2.1 bt158.2.2.1 bt158.2.2.2.1 bt158.2.2.2.2.1 bt149.1 bt149.2.1 bt149.2.2.1 bt149.2.2.2.1 bt149.2.2.2.2.1).bind fun t167=>(if t167=true then(laws_FnExactHouseNew.j0 k a0 a1 bt149.2.2.2.2.2 (bt158.2.2.2.2.2 != bt149.2.2.2.2.2) bt149.1 bt149.2.1 bt149.2.2.1 bt149.2.2.2.1 bt149.2.2.2.2.1 bt158.1 bt158.2.1 bt158.2.2.1 bt158.2.2.2.1 bt158.2.2.2.2.1) else(laws_FnExactHouseNew.j0 k a0 a1 bt149.2.2.2.2.2 true bt149.1 bt149.2.1 bt149.2.2.1 bt149.2.2.2.1 bt149.2.2.2.2.1 bt158.1 bt158.2.1 bt158.2.2.1 bt158.2.2.2.1 bt158.2.2.2.2.1)))))=some r:=h
 clear h
 replace H:=Option.bind_eq_some_iff.mp H
 obtain⟨⟨t149,t150,t151,t152,t155,t156⟩,A30,H⟩:=H
 replace H:((impl_HouseNew.f a0 a1).bind fun bt158=>((laws_eqHouse.f k bt158.1 bt158.2.1 bt158.2.2.1 bt158.2.2.2.1 bt158.2.2.2.2.1 t149 t150 t151 t152 t155).bind fun t167=>(if t167=true then(laws_FnExactHouseNew.j0 k a0 a1 t156 (bt158.2.2.2.2.2 != t156) t149 t150 t151 t152 t155 bt158.1 bt158.2.1 bt158.2.2.1 bt158.2.2.2.1 bt158.2.2.2.2.1) else(laws_FnExactHouseNew.j0 k a0 a1 t156 true t149 t150 t151 t152 t155 bt158.1 bt158.2.1 bt158.2.2.1 bt158.2.2.2.1 bt158.2.2.2.2.1))))=some r:=H
 have A3:=qal.mk A30
 clear A30
 replace H:=Option.bind_eq_some_iff.mp H
 obtain⟨⟨t158,t159,t160,t161,t164,t165⟩,A40,H⟩:=H
 replace H:((laws_eqHouse.f k t158 t159 t160 t161 t164 t149 t150 t151 t152 t155).bind fun t167=>(if t167=true then(laws_FnExactHouseNew.j0 k a0 a1 t156 (t165 != t156) t149 t150 t151 t152 t155 t158 t159 t160 t161 t164) else(laws_FnExactHouseNew.j0 k a0 a1 t156 true t149 t150 t151 t152 t155 t158 t159 t160 t161 t164)))=some r:=H
 have A4:=qal.mk A40
 clear A40
 have HC5:=qal.mk H
 clear H
 go_enter Try.func3,Try.ntmps3
 go_upto_region 3 with(first|((with_reducible refine qai (f:=15) rfl ?_);refine qau (some 16) rfl rfl Try.func15 (by kernel_rfl) rfl #[.int .i64 a0,.int .i64 a1] rfl (by(try simp only[List.map_toArray,List.map_cons,List.map_nil]);first|done|rfl|(simp only[List.length_drop,List.length_take];rfl)) ?_;(with_reducible refine(spec_HouseNew.calls a0 a1 t149 t150 t151 t152 t155 t156 _ A3.out).mono ?_);rintro e w6 ⟨v153,rfl,ho0,hb⟩;refine⟨_,rfl,?_⟩;have n0_:=qal.mk (Kd.S_lower ho0 (qad (za2 HB)));have n1_:=qal.mk (qae (za2 HB) hb);clear HB;have HO154:=n0_;have HB:=n1_;clear n0_ n1_;(try clear hb);(try clear hb2);(try clear hk);(try clear hi);(try clear ho0))|((with_reducible refine qak (N:=5) rfl ?_);refine qaj ?hg (N:=5) ?hd (cs:=#[.int .i64 0,.bool false,.int .i64 0,.slice none 0 0,.int .i64 0]) (t:=26) ?hr ?_;(case hd=>rfl);(case hg=>rfl);(case hr=>first|(go_simp;done)|(go_simp;rfl));intro gb157 hg w7 hbox hb;have n0_:=qal.mk (Kd.S_below (za10 HO154) hb);have n1_:=qal.mk (qae (za2 HB) hb);have n2_:=qal.mk (hbox);have n3_:=qal.mk ((by rw[hg];exact(qad (za2 HB)):w.heap.size≤gb157));have n4_:=qal.mk ((by rw[hg];exact(qad (za2 HB)):w.heap.size≤gb157));clear HO154;clear HB;have HO154:=n0_;have HB:=n1_;have BK157:=n2_;have GW157:=n3_;have GE157:=n4_;clear n0_ n1_ n2_ n3_ n4_;clear hb hbox hg;have hcz8_0:w7.cell? ⟨gb157,0,none⟩=some (.int .i64 0):=(qab BK157.out 0).trans rfl;have hcz8_1:w7.cell? ⟨gb157,1,none⟩=some (.bool false):=(qab BK157.out 1).trans rfl;have hcz8_2:w7.cell? ⟨gb157,2,none⟩=some (.int .i64 0):=(qab BK157.out 2).trans rfl;have hcz8_3:w7.cell? ⟨gb157,3,none⟩=some (.slice none 0 0):=(qab BK157.out 3).trans rfl;have hcz8_4:w7.cell? ⟨gb157,4,none⟩=some (.int .i64 0):=(qab BK157.out 4).trans rfl;have hfz8_0:=qaa BK157.out 0;have hfz8_1:=qaa BK157.out 1;have hfz8_2:=qaa BK157.out 2;have hfz8_3:=qaa BK157.out 3;have hfz8_4:=qaa BK157.out 4;obtain⟨Ao9,co9,eo9⟩:=Kd.S_slice HO154.out;subst eo9)|((with_reducible refine qai (f:=16) rfl ?_);refine qau (some 22) rfl rfl Try.func16 (by kernel_rfl) rfl #[.int .i64 a0,.int .i64 a1] rfl (by(try simp only[List.map_toArray,List.map_cons,List.map_nil]);first|done|rfl|(simp only[List.length_drop,List.length_take];rfl)) ?_;(with_reducible refine(impl_HouseNew.calls a0 a1 t158 t159 t160 t161 t164 t165 _ A4.out).mono ?_);rintro e w10 ⟨v162,rfl,ho0,hb⟩;refine⟨_,rfl,?_⟩;have n0_:=qal.mk (Kd.S_elder' (by(with_reducible repeat(first|apply Kd.S_alloc|apply Kd.S_drewN|apply Kd.S_drew));exact(Kd.S_mono (Kd.S_far (p:=⟨gb157,4,none⟩) (Kd.S_far (p:=⟨gb157,3,none⟩) (Kd.S_far (p:=⟨gb157,2,none⟩) (Kd.S_far (p:=⟨gb157,1,none⟩) (Kd.S_far (p:=⟨gb157,0,none⟩) (Kd.S_types HO154.out BK157.out (by decide)) (fun _ hk=>hk.2) (.int .i64 t149)) (fun _ hk=>hk.2) (.bool t150)) (fun _ hk=>hk.2) (.int .i64 t151)) (fun _ hk=>hk.2) (.slice Ao9 t152.length co9)) (fun _ hk=>hk.2) (.int .i64 t155)) (fun _ h_=>h_.1))) (Kd.S_base ho0) hb);have n1_:=qal.mk (Kd.S_lower (Kd.S_new' ho0 (Kd.S_lt (by(with_reducible repeat(first|apply Kd.S_alloc|apply Kd.S_drewN|apply Kd.S_drew));exact(Kd.S_mono (Kd.S_far (p:=⟨gb157,4,none⟩) (Kd.S_far (p:=⟨gb157,3,none⟩) (Kd.S_far (p:=⟨gb157,2,none⟩) (Kd.S_far (p:=⟨gb157,1,none⟩) (Kd.S_far (p:=⟨gb157,0,none⟩) (Kd.S_types HO154.out BK157.out (by decide)) (fun _ hk=>hk.2) (.int .i64 t149)) (fun _ hk=>hk.2) (.bool t150)) (fun _ hk=>hk.2) (.int .i64 t151)) (fun _ hk=>hk.2) (.slice Ao9 t152.length co9)) (fun _ hk=>hk.2) (.int .i64 t155)) (fun _ h_=>h_.1))))) (qad (za1 HB GE157)));have n2_:=qal.mk (qac (g:=gb157) (o:=.cells #[.int .i64 t149,.bool t150,.int .i64 t151,.slice Ao9 t152.length co9,.int .i64 t155] 26 (0,0)) (by(with_reducible repeat(first|refine qag ?_ _|refine qah ?_|refine qaf ?_ _));refine qan (cs:=#[.int .i64 t149,.bool t150,.int .i64 t151,.slice Ao9 t152.length co9,.int .i64 0]) ?_ 4 _ rfl;(with_reducible repeat(first|refine qag ?_ _|refine qah ?_|refine qaf ?_ _));refine qan (cs:=#[.int .i64 t149,.bool t150,.int .i64 t151,.slice none 0 0,.int .i64 0]) ?_ 3 _ rfl;(with_reducible repeat(first|refine qag ?_ _|refine qah ?_|refine qaf ?_ _));refine qan (cs:=#[.int .i64 t149,.bool t150,.int .i64 0,.slice none 0 0,.int .i64 0]) ?_ 2 _ rfl;(with_reducible repeat(first|refine qag ?_ _|refine qah ?_|refine qaf ?_ _));refine qan (cs:=#[.int .i64 t149,.bool false,.int .i64 0,.slice none 0 0,.int .i64 0]) ?_ 1 _ rfl;(with_reducible repeat(first|refine qag ?_ _|refine qah ?_|refine qaf ?_ _));refine qan (cs:=#[.int .i64 0,.bool false,.int .i64 0,.slice none 0 0,.int .i64 0]) ?_ 0 _ rfl;(with_reducible repeat(first|refine qag ?_ _|refine qah ?_|refine qaf ?_ _));exact BK157.out) hb);have n3_:=qal.mk (qae (za1 HB GE157) hb);clear HO154;clear BK157;clear HB;have HO154:=n0_;have HO163:=n1_;have BK157:=n2_;have HB:=n3_;clear n0_ n1_ n2_ n3_;(try clear hb);(try clear hb2);(try clear hk);(try clear hi);(try clear ho0))|((with_reducible refine qak (N:=7) rfl ?_);refine qaj ?hg (N:=7) ?hd (cs:=#[.int .i64 0,.bool false,.int .i64 0,.slice none 0 0,.int .i64 0]) (t:=26) ?hr ?_;(case hd=>rfl);(case hg=>rfl);(case hr=>first|(go_simp;done)|(go_simp;rfl));intro gb166 hg w11 hbox hb;have n0_:=qal.mk (Kd.S_below (za10 HO154) hb);have n1_:=qal.mk (Kd.S_below (za10 HO163) hb);have n2_:=qal.mk (qac (g:=gb157) (o:=.cells #[.int .i64 t149,.bool t150,.int .i64 t151,.slice Ao9 t152.length co9,.int .i64 t155] 26 (0,0)) (za0 BK157) hb);have n3_:=qal.mk (qae (za1 HB GE157) hb);have n4_:=qal.mk (hbox);have n5_:=qal.mk ((by rw[hg];exact(qad (za1 HB GE157)):w.heap.size≤gb166));have n6_:=qal.mk ((by rw[hg];exact(qad (za1 HB GE157)):w.heap.size≤gb166));have n7_:=qal.mk ((by rw[hg];exact Nat.ne_of_lt (qao (g:=gb157) (o:=.cells #[.int .i64 t149,.bool t150,.int .i64 t151,.slice Ao9 t152.length co9,.int .i64 t155] 26 (0,0)) (za0 BK157)):gb157≠gb166));have n8_:=qal.mk ((by rw[hg];exact Nat.ne_of_gt (qao (g:=gb157) (o:=.cells #[.int .i64 t149,.bool t150,.int .i64 t151,.slice Ao9 t152.length co9,.int .i64 t155] 26 (0,0)) (za0 BK157)):gb166≠gb157));clear HO154;clear HO163;clear BK157;clear HB;have HO154:=n0_;have HO163:=n1_;have BK157:=n2_;have HB:=n3_;have BK166:=n4_;have GW166:=n5_;have GE166:=n6_;have NB157_166:=n7_;have NB166_157:=n8_;clear n0_ n1_ n2_ n3_ n4_ n5_ n6_ n7_ n8_;clear hb hbox hg;have hnb12:=NB166_157.out;have hnc12:=NB157_166.out;have hcz13_0:w11.cell? ⟨gb166,0,none⟩=some (.int .i64 0):=(qab BK166.out 0).trans rfl;have hcz13_1:w11.cell? ⟨gb166,1,none⟩=some (.bool false):=(qab BK166.out 1).trans rfl;have hcz13_2:w11.cell? ⟨gb166,2,none⟩=some (.int .i64 0):=(qab BK166.out 2).trans rfl;have hcz13_3:w11.cell? ⟨gb166,3,none⟩=some (.slice none 0 0):=(qab BK166.out 3).trans rfl;have hcz13_4:w11.cell? ⟨gb166,4,none⟩=some (.int .i64 0):=(qab BK166.out 4).trans rfl;have hfz13_0:=qaa BK166.out 0;have hfz13_1:=qaa BK166.out 1;have hfz13_2:=qaa BK166.out 2;have hfz13_3:=qaa BK166.out 3;have hfz13_4:=qaa BK166.out 4;obtain⟨Ao14,co14,eo14⟩:=Kd.S_slice HO163.out;subst eo14))
 (try simp only[Act.put,List.setIfInBounds_toArray,List.set_cons_zero,List.set_cons_succ])
 go_cut [33] (fun v33 wc=>∃(kq:Nat) (x33_4:Bool),v33=.bool x33_4∧qal (laws_FnExactHouseNew.j0 kq a0 a1 t156 x33_4 t149 t150 t151 t152 t155 t158 t159 t160 t161 t164=some r)∧qal (kq≤k)∧qal (Kd.S k62 62 wc w.heap.size (fun k_=>some k_≠((.slice Ao14 t161.length co14):Value).ownBlock) (.slice Ao9 t152.length co9) t152)∧qal (Kd.S k62 62 wc w.heap.size (fun k_=>some k_≠((.slice Ao9 t152.length co9):Value).ownBlock) (.slice Ao14 t161.length co14) t161)∧qal (wc.heap[gb157]?=some (.cells #[.int .i64 t149,.bool t150,.int .i64 t151,(.slice Ao9 t152.length co9),.int .i64 t155] 26 (0,0)))∧qal (wc.heap[gb166]?=some (.cells #[.int .i64 t158,.bool t159,.int .i64 t160,(.slice Ao14 t161.length co14),.int .i64 t164] 26 (0,0)))∧qal (Below w.heap.size w wc))
 case first=>
  have H:=HC5.out
  clear HC5
  replace H:=Option.bind_eq_some_iff.mp H
  obtain⟨t167,A150,H⟩:=H
  replace H:(if t167=true then(laws_FnExactHouseNew.j0 k a0 a1 t156 (t165 != t156) t149 t150 t151 t152 t155 t158 t159 t160 t161 t164) else(laws_FnExactHouseNew.j0 k a0 a1 t156 true t149 t150 t151 t152 t155 t158 t159 t160 t161 t164))=some r:=H
  have A15:=qal.mk A150
  clear A150
  by_cases c16:t167=true
  ·subst c16
   have H1:(laws_FnExactHouseNew.j0 k a0 a1 t156 (t165 != t156) t149 t150 t151 t152 t155 t158 t159 t160 t161 t164)=some r:=by rw[if_pos rfl] at H;exact H
   clear H
   have H:=H1
   clear H1
   have H':=qal.mk H
   clear H
   have hnb17:=NB166_157.out
   have hnc17:=NB157_166.out
   have hcz18_0:w11.cell? ⟨gb166,0,none⟩=some (.int .i64 0):=(qab BK166.out 0).trans rfl
   have hcz18_1:w11.cell? ⟨gb166,1,none⟩=some (.bool false):=(qab BK166.out 1).trans rfl
   have hcz18_2:w11.cell? ⟨gb166,2,none⟩=some (.int .i64 0):=(qab BK166.out 2).trans rfl
   have hcz18_3:w11.cell? ⟨gb166,3,none⟩=some (.slice none 0 0):=(qab BK166.out 3).trans rfl
   have hcz18_4:w11.cell? ⟨gb166,4,none⟩=some (.int .i64 0):=(qab BK166.out 4).trans rfl
   have hfz18_0:=qaa BK166.out 0
   have hfz18_1:=qaa BK166.out 1
   have hfz18_2:=qaa BK166.out 2
   have hfz18_3:=qaa BK166.out 3
   have hfz18_4:=qaa BK166.out 4
   have hcz19_0:w11.cell? ⟨gb157,0,none⟩=some (.int .i64 t149):=(qab BK157.out 0).trans rfl
   have hcz19_1:w11.cell? ⟨gb157,1,none⟩=some (.bool t150):=(qab BK157.out 1).trans rfl
   have hcz19_2:w11.cell? ⟨gb157,2,none⟩=some (.int .i64 t151):=(qab BK157.out 2).trans rfl
   have hcz19_3:w11.cell? ⟨gb157,3,none⟩=some (.slice Ao9 t152.length co9):=(qab BK157.out 3).trans rfl
   have hcz19_4:w11.cell? ⟨gb157,4,none⟩=some (.int .i64 t155):=(qab BK157.out 4).trans rfl
   have hfz19_0:=qaa BK157.out 0
   have hfz19_1:=qaa BK157.out 1
   have hfz19_2:=qaa BK157.out 2
   have hfz19_3:=qaa BK157.out 3
   have hfz19_4:=qaa BK157.out 4
   go_wp2_with(first|((with_reducible refine qai (f:=17) rfl ?_);refine qau (some 27) rfl rfl Try.func17 (by kernel_rfl) rfl #[.agg #[.int .i64 t158,.bool t159,.int .i64 t160,.slice Ao14 t161.length co14,.int .i64 t164],.agg #[.int .i64 t149,.bool t150,.int .i64 t151,.slice Ao9 t152.length co9,.int .i64 t155]] rfl (by(try simp only[List.map_toArray,List.map_cons,List.map_nil]);first|done|rfl|(simp only[List.length_drop,List.length_take];rfl)) ?_;(with_reducible refine(laws_eqHouse.calls k t158 t159 t160 _ _ t161 t164 t149 t150 t151 _ _ t152 t155 true _ ?side1 ?side2 ?side3 ?side4 A15.out).mono ?_);(case side1=>refine(Kd.S_reads' (e:=62) (base:=w.heap.size) (ok:=fun k_=>(True∧some k_≠(.slice Ao9 t152.length co9:Value).ownBlock)) (n:=t161.length) (c:=co14) ?_).2.2;exact(by(with_reducible repeat(first|apply Kd.S_alloc|apply Kd.S_drewN|apply Kd.S_drew));exact(Kd.S_mono (Kd.S_far (p:=⟨gb166,4,none⟩) (Kd.S_far (p:=⟨gb166,3,none⟩) (Kd.S_far (p:=⟨gb166,2,none⟩) (Kd.S_far (p:=⟨gb166,1,none⟩) (Kd.S_far (p:=⟨gb166,0,none⟩) (Kd.S_types HO163.out BK166.out (by decide)) (fun _ hk=>hk.2) (.int .i64 t158)) (fun _ hk=>hk.2) (.bool t159)) (fun _ hk=>hk.2) (.int .i64 t160)) (fun _ hk=>hk.2) (.slice Ao14 t161.length co14)) (fun _ hk=>hk.2) (.int .i64 t164)) (fun _ h_=>h_.1))));(case side2=>exact(Kd.S_reads' HO163.out).2.1);(case side3=>refine(Kd.S_reads' (e:=62) (base:=w.heap.size) (ok:=fun k_=>(True∧some k_≠(.slice Ao14 t161.length co14:Value).ownBlock)) (n:=t152.length) (c:=co9) ?_).2.2;exact(by(with_reducible repeat(first|apply Kd.S_alloc|apply Kd.S_drewN|apply Kd.S_drew));exact(Kd.S_mono (Kd.S_far (p:=⟨gb166,4,none⟩) (Kd.S_far (p:=⟨gb166,3,none⟩) (Kd.S_far (p:=⟨gb166,2,none⟩) (Kd.S_far (p:=⟨gb166,1,none⟩) (Kd.S_far (p:=⟨gb166,0,none⟩) (Kd.S_types HO154.out BK166.out (by decide)) (fun _ hk=>hk.2) (.int .i64 t158)) (fun _ hk=>hk.2) (.bool t159)) (fun _ hk=>hk.2) (.int .i64 t160)) (fun _ hk=>hk.2) (.slice Ao14 t161.length co14)) (fun _ hk=>hk.2) (.int .i64 t164)) (fun _ h_=>h_.1))));(case side4=>exact(Kd.S_reads' HO154.out).2.1);rintro e w20 ⟨rfl,hb⟩;refine⟨_,rfl,?_⟩;have n0_:=qal.mk (Kd.S_below (by(with_reducible repeat(first|apply Kd.S_alloc|apply Kd.S_drewN|apply Kd.S_drew));exact(Kd.S_mono (Kd.S_far (p:=⟨gb166,4,none⟩) (Kd.S_far (p:=⟨gb166,3,none⟩) (Kd.S_far (p:=⟨gb166,2,none⟩) (Kd.S_far (p:=⟨gb166,1,none⟩) (Kd.S_far (p:=⟨gb166,0,none⟩) (Kd.S_types HO154.out BK166.out (by decide)) (fun _ hk=>hk.2) (.int .i64 t158)) (fun _ hk=>hk.2) (.bool t159)) (fun _ hk=>hk.2) (.int .i64 t160)) (fun _ hk=>hk.2) (.slice Ao14 t161.length co14)) (fun _ hk=>hk.2) (.int .i64 t164)) (fun _ h_=>h_.1))) hb);have n1_:=qal.mk (Kd.S_below (by(with_reducible repeat(first|apply Kd.S_alloc|apply Kd.S_drewN|apply Kd.S_drew));exact(Kd.S_mono (Kd.S_far (p:=⟨gb166,4,none⟩) (Kd.S_far (p:=⟨gb166,3,none⟩) (Kd.S_far (p:=⟨gb166,2,none⟩) (Kd.S_far (p:=⟨gb166,1,none⟩) (Kd.S_far (p:=⟨gb166,0,none⟩) (Kd.S_types HO163.out BK166.out (by decide)) (fun _ hk=>hk.2) (.int .i64 t158)) (fun _ hk=>hk.2) (.bool t159)) (fun _ hk=>hk.2) (.int .i64 t160)) (fun _ hk=>hk.2) (.slice Ao14 t161.length co14)) (fun _ hk=>hk.2) (.int .i64 t164)) (fun _ h_=>h_.1))) hb);have n2_:=qal.mk (qac (g:=gb157) (o:=.cells #[.int .i64 t149,.bool t150,.int .i64 t151,.slice Ao9 t152.length co9,.int .i64 t155] 26 (0,0)) (za17 NB157_166 BK157) hb);have n3_:=qal.mk (qac (g:=gb166) (o:=.cells #[.int .i64 t158,.bool t159,.int .i64 t160,.slice Ao14 t161.length co14,.int .i64 t164] 26 (0,0)) (by(with_reducible repeat(first|refine qag ?_ _|refine qah ?_|refine qaf ?_ _));refine qan (cs:=#[.int .i64 t158,.bool t159,.int .i64 t160,.slice Ao14 t161.length co14,.int .i64 0]) ?_ 4 _ rfl;(with_reducible repeat(first|refine qag ?_ _|refine qah ?_|refine qaf ?_ _));refine qan (cs:=#[.int .i64 t158,.bool t159,.int .i64 t160,.slice none 0 0,.int .i64 0]) ?_ 3 _ rfl;(with_reducible repeat(first|refine qag ?_ _|refine qah ?_|refine qaf ?_ _));refine qan (cs:=#[.int .i64 t158,.bool t159,.int .i64 0,.slice none 0 0,.int .i64 0]) ?_ 2 _ rfl;(with_reducible repeat(first|refine qag ?_ _|refine qah ?_|refine qaf ?_ _));refine qan (cs:=#[.int .i64 t158,.bool false,.int .i64 0,.slice none 0 0,.int .i64 0]) ?_ 1 _ rfl;(with_reducible repeat(first|refine qag ?_ _|refine qah ?_|refine qaf ?_ _));refine qan (cs:=#[.int .i64 0,.bool false,.int .i64 0,.slice none 0 0,.int .i64 0]) ?_ 0 _ rfl;(with_reducible repeat(first|refine qag ?_ _|refine qah ?_|refine qaf ?_ _));exact BK166.out) hb);have n4_:=qal.mk (qae (za3 HB GE157 GE166) hb);clear HO154;clear HO163;clear BK157;clear BK166;clear HB;have HO154:=n0_;have HO163:=n1_;have BK157:=n2_;have BK166:=n3_;have HB:=n4_;clear n0_ n1_ n2_ n3_ n4_;(try clear hb);(try clear hb2);(try clear hk);(try clear hi)))
   go_meet
   case rel=>exact⟨_,((t165 != t156)),(za22),H',⟨za46⟩,⟨by(with_reducible repeat(first|apply Kd.S_alloc|apply Kd.S_drewN|apply Kd.S_drew));exact Kd.S_mono HO154.out (fun _ hk=>hk.2)⟩,⟨by(with_reducible repeat(first|apply Kd.S_alloc|apply Kd.S_drewN|apply Kd.S_drew));exact Kd.S_mono HO163.out (fun _ hk=>hk.2)⟩,⟨za0 BK157⟩,⟨za0 BK166⟩,⟨za3 HB GE157 GE166⟩⟩
  ·replace c16:=Bool.eq_false_iff.mpr c16
   subst c16
   have H1:(laws_FnExactHouseNew.j0 k a0 a1 t156 true t149 t150 t151 t152 t155 t158 t159 t160 t161 t164)=some r:=by rw[if_neg (show ¬(false=true) by decide)] at H;exact H
   clear H
   have H:=H1
   clear H1
   have H':=qal.mk H
   clear H
   have hnb21:=NB166_157.out
   have hnc21:=NB157_166.out
   have hcz22_0:w11.cell? ⟨gb166,0,none⟩=some (.int .i64 0):=(qab BK166.out 0).trans rfl
   have hcz22_1:w11.cell? ⟨gb166,1,none⟩=some (.bool false):=(qab BK166.out 1).trans rfl
   have hcz22_2:w11.cell? ⟨gb166,2,none⟩=some (.int .i64 0):=(qab BK166.out 2).trans rfl
   have hcz22_3:w11.cell? ⟨gb166,3,none⟩=some (.slice none 0 0):=(qab BK166.out 3).trans rfl
   have hcz22_4:w11.cell? ⟨gb166,4,none⟩=some (.int .i64 0):=(qab BK166.out 4).trans rfl
   have hfz22_0:=qaa BK166.out 0
   have hfz22_1:=qaa BK166.out 1
   have hfz22_2:=qaa BK166.out 2
   have hfz22_3:=qaa BK166.out 3
   have hfz22_4:=qaa BK166.out 4
   have hcz23_0:w11.cell? ⟨gb157,0,none⟩=some (.int .i64 t149):=(qab BK157.out 0).trans rfl
   have hcz23_1:w11.cell? ⟨gb157,1,none⟩=some (.bool t150):=(qab BK157.out 1).trans rfl
   have hcz23_2:w11.cell? ⟨gb157,2,none⟩=some (.int .i64 t151):=(qab BK157.out 2).trans rfl
   have hcz23_3:w11.cell? ⟨gb157,3,none⟩=some (.slice Ao9 t152.length co9):=(qab BK157.out 3).trans rfl
   have hcz23_4:w11.cell? ⟨gb157,4,none⟩=some (.int .i64 t155):=(qab BK157.out 4).trans rfl
   have hfz23_0:=qaa BK157.out 0
   have hfz23_1:=qaa BK157.out 1
   have hfz23_2:=qaa BK157.out 2
   have hfz23_3:=qaa BK157.out 3
   have hfz23_4:=qaa BK157.out 4
   go_wp2_with(first|((with_reducible refine qai (f:=17) rfl ?_);refine qau (some 27) rfl rfl Try.func17 (by kernel_rfl) rfl #[.agg #[.int .i64 t158,.bool t159,.int .i64 t160,.slice Ao14 t161.length co14,.int .i64 t164],.agg #[.int .i64 t149,.bool t150,.int .i64 t151,.slice Ao9 t152.length co9,.int .i64 t155]] rfl (by(try simp only[List.map_toArray,List.map_cons,List.map_nil]);first|done|rfl|(simp only[List.length_drop,List.length_take];rfl)) ?_;(with_reducible refine(laws_eqHouse.calls k t158 t159 t160 _ _ t161 t164 t149 t150 t151 _ _ t152 t155 false _ ?side1 ?side2 ?side3 ?side4 A15.out).mono ?_);(case side1=>refine(Kd.S_reads' (e:=62) (base:=w.heap.size) (ok:=fun k_=>(True∧some k_≠(.slice Ao9 t152.length co9:Value).ownBlock)) (n:=t161.length) (c:=co14) ?_).2.2;exact(by(with_reducible repeat(first|apply Kd.S_alloc|apply Kd.S_drewN|apply Kd.S_drew));exact(Kd.S_mono (Kd.S_far (p:=⟨gb166,4,none⟩) (Kd.S_far (p:=⟨gb166,3,none⟩) (Kd.S_far (p:=⟨gb166,2,none⟩) (Kd.S_far (p:=⟨gb166,1,none⟩) (Kd.S_far (p:=⟨gb166,0,none⟩) (Kd.S_types HO163.out BK166.out (by decide)) (fun _ hk=>hk.2) (.int .i64 t158)) (fun _ hk=>hk.2) (.bool t159)) (fun _ hk=>hk.2) (.int .i64 t160)) (fun _ hk=>hk.2) (.slice Ao14 t161.length co14)) (fun _ hk=>hk.2) (.int .i64 t164)) (fun _ h_=>h_.1))));(case side2=>exact(Kd.S_reads' HO163.out).2.1);(case side3=>refine(Kd.S_reads' (e:=62) (base:=w.heap.size) (ok:=fun k_=>(True∧some k_≠(.slice Ao14 t161.length co14:Value).ownBlock)) (n:=t152.length) (c:=co9) ?_).2.2;exact(by(with_reducible repeat(first|apply Kd.S_alloc|apply Kd.S_drewN|apply Kd.S_drew));exact(Kd.S_mono (Kd.S_far (p:=⟨gb166,4,none⟩) (Kd.S_far (p:=⟨gb166,3,none⟩) (Kd.S_far (p:=⟨gb166,2,none⟩) (Kd.S_far (p:=⟨gb166,1,none⟩) (Kd.S_far (p:=⟨gb166,0,none⟩) (Kd.S_types HO154.out BK166.out (by decide)) (fun _ hk=>hk.2) (.int .i64 t158)) (fun _ hk=>hk.2) (.bool t159)) (fun _ hk=>hk.2) (.int .i64 t160)) (fun _ hk=>hk.2) (.slice Ao14 t161.length co14)) (fun _ hk=>hk.2) (.int .i64 t164)) (fun _ h_=>h_.1))));(case side4=>exact(Kd.S_reads' HO154.out).2.1);rintro e w24 ⟨rfl,hb⟩;refine⟨_,rfl,?_⟩;have n0_:=qal.mk (Kd.S_below (by(with_reducible repeat(first|apply Kd.S_alloc|apply Kd.S_drewN|apply Kd.S_drew));exact(Kd.S_mono (Kd.S_far (p:=⟨gb166,4,none⟩) (Kd.S_far (p:=⟨gb166,3,none⟩) (Kd.S_far (p:=⟨gb166,2,none⟩) (Kd.S_far (p:=⟨gb166,1,none⟩) (Kd.S_far (p:=⟨gb166,0,none⟩) (Kd.S_types HO154.out BK166.out (by decide)) (fun _ hk=>hk.2) (.int .i64 t158)) (fun _ hk=>hk.2) (.bool t159)) (fun _ hk=>hk.2) (.int .i64 t160)) (fun _ hk=>hk.2) (.slice Ao14 t161.length co14)) (fun _ hk=>hk.2) (.int .i64 t164)) (fun _ h_=>h_.1))) hb);have n1_:=qal.mk (Kd.S_below (by(with_reducible repeat(first|apply Kd.S_alloc|apply Kd.S_drewN|apply Kd.S_drew));exact(Kd.S_mono (Kd.S_far (p:=⟨gb166,4,none⟩) (Kd.S_far (p:=⟨gb166,3,none⟩) (Kd.S_far (p:=⟨gb166,2,none⟩) (Kd.S_far (p:=⟨gb166,1,none⟩) (Kd.S_far (p:=⟨gb166,0,none⟩) (Kd.S_types HO163.out BK166.out (by decide)) (fun _ hk=>hk.2) (.int .i64 t158)) (fun _ hk=>hk.2) (.bool t159)) (fun _ hk=>hk.2) (.int .i64 t160)) (fun _ hk=>hk.2) (.slice Ao14 t161.length co14)) (fun _ hk=>hk.2) (.int .i64 t164)) (fun _ h_=>h_.1))) hb);have n2_:=qal.mk (qac (g:=gb157) (o:=.cells #[.int .i64 t149,.bool t150,.int .i64 t151,.slice Ao9 t152.length co9,.int .i64 t155] 26 (0,0)) (za17 NB157_166 BK157) hb);have n3_:=qal.mk (qac (g:=gb166) (o:=.cells #[.int .i64 t158,.bool t159,.int .i64 t160,.slice Ao14 t161.length co14,.int .i64 t164] 26 (0,0)) (by(with_reducible repeat(first|refine qag ?_ _|refine qah ?_|refine qaf ?_ _));refine qan (cs:=#[.int .i64 t158,.bool t159,.int .i64 t160,.slice Ao14 t161.length co14,.int .i64 0]) ?_ 4 _ rfl;(with_reducible repeat(first|refine qag ?_ _|refine qah ?_|refine qaf ?_ _));refine qan (cs:=#[.int .i64 t158,.bool t159,.int .i64 t160,.slice none 0 0,.int .i64 0]) ?_ 3 _ rfl;(with_reducible repeat(first|refine qag ?_ _|refine qah ?_|refine qaf ?_ _));refine qan (cs:=#[.int .i64 t158,.bool t159,.int .i64 0,.slice none 0 0,.int .i64 0]) ?_ 2 _ rfl;(with_reducible repeat(first|refine qag ?_ _|refine qah ?_|refine qaf ?_ _));refine qan (cs:=#[.int .i64 t158,.bool false,.int .i64 0,.slice none 0 0,.int .i64 0]) ?_ 1 _ rfl;(with_reducible repeat(first|refine qag ?_ _|refine qah ?_|refine qaf ?_ _));refine qan (cs:=#[.int .i64 0,.bool false,.int .i64 0,.slice none 0 0,.int .i64 0]) ?_ 0 _ rfl;(with_reducible repeat(first|refine qag ?_ _|refine qah ?_|refine qaf ?_ _));exact BK166.out) hb);have n4_:=qal.mk (qae (za3 HB GE157 GE166) hb);clear HO154;clear HO163;clear BK157;clear BK166;clear HB;have HO154:=n0_;have HO163:=n1_;have BK157:=n2_;have BK166:=n3_;have HB:=n4_;clear n0_ n1_ n2_ n3_ n4_;(try clear hb);(try clear hb2);(try clear hk);(try clear hi)))
   go_meet
   case rel=>exact⟨_,(true),(za22),H',⟨za46⟩,⟨by(with_reducible repeat(first|apply Kd.S_alloc|apply Kd.S_drewN|apply Kd.S_drew));exact Kd.S_mono HO154.out (fun _ hk=>hk.2)⟩,⟨by(with_reducible repeat(first|apply Kd.S_alloc|apply Kd.S_drewN|apply Kd.S_drew));exact Kd.S_mono HO163.out (fun _ hk=>hk.2)⟩,⟨za0 BK157⟩,⟨za0 BK166⟩,⟨za3 HB GE157 GE166⟩⟩
 case rest=>
  clear HC5
  try clear c1
  try clear c2
  try clear p2
  try clear c3
  try clear c12
  try clear c15
  try clear c16
  try clear c17
  try clear c21
  try clear hcz13_0
  try clear hcz13_1
  try clear hcz13_2
  try clear hcz13_3
  try clear hcz13_4
  try clear hcz18_0
  try clear hcz18_1
  try clear hcz18_2
  try clear hcz18_3
  try clear hcz18_4
  try clear hcz19_0
  try clear hcz19_1
  try clear hcz19_2
  try clear hcz19_3
  try clear hcz19_4
  try clear hcz22_0
  try clear hcz22_1
  try clear hcz22_2
  try clear hcz22_3
  try clear hcz22_4
  try clear hcz23_0
  try clear hcz23_1
  try clear hcz23_2
  try clear hcz23_3
  try clear hcz23_4
  try clear hcz8_0
  try clear hcz8_1
  try clear hcz8_2
  try clear hcz8_3
  try clear hcz8_4
  try clear hfz13_0
  try clear hfz13_1
  try clear hfz13_2
  try clear hfz13_3
  try clear hfz13_4
  try clear hfz18_0
  try clear hfz18_1
  try clear hfz18_2
  try clear hfz18_3
  try clear hfz18_4
  try clear hfz19_0
  try clear hfz19_1
  try clear hfz19_2
  try clear hfz19_3
  try clear hfz19_4
  try clear hfz22_0
  try clear hfz22_1
  try clear hfz22_2
  try clear hfz22_3
  try clear hfz22_4
  try clear hfz23_0
  try clear hfz23_1
  try clear hfz23_2
  try clear hfz23_3
  try clear hfz23_4
  try clear hfz8_0
  try clear hfz8_1
  try clear hfz8_2
  try clear hfz8_3
  try clear hfz8_4
  obtain⟨kq,x33_4,rfl,HA,HJ4,HO_158003,HO_167003,BK157,BK166,HB⟩:=hcut
  cases kq with
  |zero=>exact absurd HA.out (by simp[laws_FnExactHouseNew.j0])
  |succ kj4=>
   have H:=HA.out
   clear HA
   simp only[laws_FnExactHouseNew.j0] at H
   by_cases c25:x33_4=true
   ·subst c25
    have H1:(some false)=some r:=by rw[if_pos rfl] at H;exact H
    clear H
    have H:=H1
    clear H1
    obtain rfl:=Option.some.inj H
    go_wp2
    go_ret
    exact⟨za9,za3 HB GE157 GE166⟩
   ·replace c25:=Bool.eq_false_iff.mpr c25
    subst c25
    have H1:((laws_markHouse.f t158 t159 t160 t161 t164 1).bind fun t168=>((laws_heldHouse.f kj4 t158 t159 t160 t161 t164 1).bind fun t169=>(if t169<0 then(some false) else(if t169=t168 then((impl_HouseNew.f a0 a1).bind fun bt170=>((laws_eqHouse.f kj4 bt170.1 bt170.2.1 bt170.2.2.1 bt170.2.2.2.1 bt170.2.2.2.2.1 t149 t150 t151 t152 t155).bind fun t179=>(if t179=true then(laws_FnExactHouseNew.j1 kj4 t168 (bt170.2.2.2.2.2 != t156) t158 t159 t160 t161 t164) else(laws_FnExactHouseNew.j1 kj4 t168 true t158 t159 t160 t161 t164)))) else(some false)))))=some r:=by rw[if_neg (show ¬(false=true) by decide)] at H;exact H
    clear H
    have H:=H1
    clear H1
    replace H:=Option.bind_eq_some_iff.mp H
    obtain⟨t168,A260,H⟩:=H
    replace H:((laws_heldHouse.f kj4 t158 t159 t160 t161 t164 1).bind fun t169=>(if t169<0 then(some false) else(if t169=t168 then((impl_HouseNew.f a0 a1).bind fun bt170=>((laws_eqHouse.f kj4 bt170.1 bt170.2.1 bt170.2.2.1 bt170.2.2.2.1 bt170.2.2.2.2.1 t149 t150 t151 t152 t155).bind fun t179=>(if t179=true then(laws_FnExactHouseNew.j1 kj4 t168 (bt170.2.2.2.2.2 != t156) t158 t159 t160 t161 t164) else(laws_FnExactHouseNew.j1 kj4 t168 true t158 t159 t160 t161 t164)))) else(some false))))=some r:=H
    have A26:=qal.mk A260
    clear A260
    replace H:=Option.bind_eq_some_iff.mp H
    obtain⟨t169,A270,H⟩:=H
    replace H:(if t169<0 then(some false) else(if t169=t168 then((impl_HouseNew.f a0 a1).bind fun bt170=>((laws_eqHouse.f kj4 bt170.1 bt170.2.1 bt170.2.2.1 bt170.2.2.2.1 bt170.2.2.2.2.1 t149 t150 t151 t152 t155).bind fun t179=>(if t179=true then(laws_FnExactHouseNew.j1 kj4 t168 (bt170.2.2.2.2.2 != t156) t158 t159 t160 t161 t164) else(laws_FnExactHouseNew.j1 kj4 t168 true t158 t159 t160 t161 t164)))) else(some false)))=some r:=H
    have A27:=qal.mk A270
    clear A270
    by_cases c28:t169<0
    ·rw[if_pos c28] at H
     have c28b0:decide (t169<0)=true:=decide_eq_true c28
     clear c28
     obtain rfl:=Option.some.inj H
     have hnb29:=NB166_157.out
     have hnc29:=NB157_166.out
     have hcz30_0:wc.cell? ⟨gb166,0,none⟩=some (.int .i64 t158):=(qab BK166.out 0).trans rfl
     have hcz30_1:wc.cell? ⟨gb166,1,none⟩=some (.bool t159):=(qab BK166.out 1).trans rfl
     have hcz30_2:wc.cell? ⟨gb166,2,none⟩=some (.int .i64 t160):=(qab BK166.out 2).trans rfl
     have hcz30_3:wc.cell? ⟨gb166,3,none⟩=some (.slice Ao14 t161.length co14):=(qab BK166.out 3).trans rfl
     have hcz30_4:wc.cell? ⟨gb166,4,none⟩=some (.int .i64 t164):=(qab BK166.out 4).trans rfl
     have hfz30_0:=qaa BK166.out 0
     have hfz30_1:=qaa BK166.out 1
     have hfz30_2:=qaa BK166.out 2
     have hfz30_3:=qaa BK166.out 3
     have hfz30_4:=qaa BK166.out 4
     go_wp2_with(first|((with_reducible refine qai (f:=18) rfl ?_);refine qau (some 36) rfl rfl Try.func18 (by kernel_rfl) rfl #[.agg #[.int .i64 t158,.bool t159,.int .i64 t160,.slice Ao14 t161.length co14,.int .i64 t164],.int .i64 1] rfl (by(try simp only[List.map_toArray,List.map_cons,List.map_nil]);first|done|rfl|(simp only[List.length_drop,List.length_take];rfl)) ?_;(with_reducible refine(laws_markHouse.calls t158 t159 t160 _ _ t161 t164 1 t168 _ ?side1 ?side2 A26.out).mono ?_);(case side1=>repeat(first|exact(Kd.S_reads' HO_167003.out).2.2|(with_reducible refine Kd.C_alloc ?_ _)|(with_reducible refine Kd.C_drewN ?_ _)|(with_reducible refine Kd.C_drew ?_)));(case side2=>exact(Kd.S_reads' HO_167003.out).2.1);rintro e w31 ⟨rfl,hb⟩;refine⟨_,rfl,?_⟩;have n0_:=qal.mk (Kd.S_below (za10 HO_158003) hb);have n1_:=qal.mk (Kd.S_below (za10 HO_167003) hb);have n2_:=qal.mk (qac (g:=gb157) (o:=.cells #[.int .i64 t149,.bool t150,.int .i64 t151,.slice Ao9 t152.length co9,.int .i64 t155] 26 (0,0)) (za0 BK157) hb);have n3_:=qal.mk (qac (g:=gb166) (o:=.cells #[.int .i64 t158,.bool t159,.int .i64 t160,.slice Ao14 t161.length co14,.int .i64 t164] 26 (0,0)) (za0 BK166) hb);have n4_:=qal.mk (qae (za3 HB GE157 GE166) hb);clear HO_158003;clear HO_167003;clear BK157;clear BK166;clear HB;have HO_158003:=n0_;have HO_167003:=n1_;have BK157:=n2_;have BK166:=n3_;have HB:=n4_;clear n0_ n1_ n2_ n3_ n4_;(try clear hb);(try clear hb2);(try clear hk);(try clear hi);have hcz32_0:w31.cell? ⟨gb166,0,none⟩=some (.int .i64 t158):=(qab BK166.out 0).trans rfl;have hcz32_1:w31.cell? ⟨gb166,1,none⟩=some (.bool t159):=(qab BK166.out 1).trans rfl;have hcz32_2:w31.cell? ⟨gb166,2,none⟩=some (.int .i64 t160):=(qab BK166.out 2).trans rfl;have hcz32_3:w31.cell? ⟨gb166,3,none⟩=some (.slice Ao14 t161.length co14):=(qab BK166.out 3).trans rfl;have hcz32_4:w31.cell? ⟨gb166,4,none⟩=some (.int .i64 t164):=(qab BK166.out 4).trans rfl;have hfz32_0:=qaa BK166.out 0;have hfz32_1:=qaa BK166.out 1;have hfz32_2:=qaa BK166.out 2;have hfz32_3:=qaa BK166.out 3;have hfz32_4:=qaa BK166.out 4)|((with_reducible refine qai (f:=19) rfl ?_);refine qau (some 39) rfl rfl Try.func19 (by kernel_rfl) rfl #[.agg #[.int .i64 t158,.bool t159,.int .i64 t160,.slice Ao14 t161.length co14,.int .i64 t164],.int .i64 1] rfl (by(try simp only[List.map_toArray,List.map_cons,List.map_nil]);first|done|rfl|(simp only[List.length_drop,List.length_take];rfl)) ?_;(with_reducible refine(laws_heldHouse.calls kj4 t158 t159 t160 _ _ t161 t164 1 t169 _ ?side1 ?side2 A27.out).mono ?_);(case side1=>repeat(first|exact(Kd.S_reads' HO_167003.out).2.2|(with_reducible refine Kd.C_alloc ?_ _)|(with_reducible refine Kd.C_drewN ?_ _)|(with_reducible refine Kd.C_drew ?_)));(case side2=>exact(Kd.S_reads' HO_167003.out).2.1);rintro e w33 ⟨rfl,hb⟩;refine⟨_,rfl,?_⟩;have n0_:=qal.mk (Kd.S_below (za10 HO_158003) hb);have n1_:=qal.mk (Kd.S_below (za10 HO_167003) hb);have n2_:=qal.mk (qac (g:=gb157) (o:=.cells #[.int .i64 t149,.bool t150,.int .i64 t151,.slice Ao9 t152.length co9,.int .i64 t155] 26 (0,0)) (za0 BK157) hb);have n3_:=qal.mk (qac (g:=gb166) (o:=.cells #[.int .i64 t158,.bool t159,.int .i64 t160,.slice Ao14 t161.length co14,.int .i64 t164] 26 (0,0)) (za0 BK166) hb);have n4_:=qal.mk (qae (za3 HB GE157 GE166) hb);clear HO_158003;clear HO_167003;clear BK157;clear BK166;clear HB;have HO_158003:=n0_;have HO_167003:=n1_;have BK157:=n2_;have BK166:=n3_;have HB:=n4_;clear n0_ n1_ n2_ n3_ n4_;(try clear hb);(try clear hb2);(try clear hk);(try clear hi)))
     go_ret
     exact⟨za9,za3 HB GE157 GE166⟩
    ·rw[if_neg c28] at H
     have c28b0:decide (t169<0)=false:=decide_eq_false c28
     clear c28
     by_cases c34:t169=t168
     ·rw[if_pos c34] at H
      have c34b0:(t169 == t168)=true:=beq_iff_eq.mpr c34
      have c34b1:(t169 != t168)=false:=bne_eq_false_iff_eq.mpr c34
      clear c34
      replace H:=Option.bind_eq_some_iff.mp H
      obtain⟨⟨t170,t171,t172,t173,t176,t177⟩,A350,H⟩:=H
      replace H:((laws_eqHouse.f kj4 t170 t171 t172 t173 t176 t149 t150 t151 t152 t155).bind fun t179=>(if t179=true then(laws_FnExactHouseNew.j1 kj4 t168 (t177 != t156) t158 t159 t160 t161 t164) else(laws_FnExactHouseNew.j1 kj4 t168 true t158 t159 t160 t161 t164)))=some r:=H
      have A35:=qal.mk A350
      clear A350
      have HC36:=qal.mk H
      clear H
      have hnb37:=NB166_157.out
      have hnc37:=NB157_166.out
      have hcz38_0:wc.cell? ⟨gb166,0,none⟩=some (.int .i64 t158):=(qab BK166.out 0).trans rfl
      have hcz38_1:wc.cell? ⟨gb166,1,none⟩=some (.bool t159):=(qab BK166.out 1).trans rfl
      have hcz38_2:wc.cell? ⟨gb166,2,none⟩=some (.int .i64 t160):=(qab BK166.out 2).trans rfl
      have hcz38_3:wc.cell? ⟨gb166,3,none⟩=some (.slice Ao14 t161.length co14):=(qab BK166.out 3).trans rfl
      have hcz38_4:wc.cell? ⟨gb166,4,none⟩=some (.int .i64 t164):=(qab BK166.out 4).trans rfl
      have hfz38_0:=qaa BK166.out 0
      have hfz38_1:=qaa BK166.out 1
      have hfz38_2:=qaa BK166.out 2
      have hfz38_3:=qaa BK166.out 3
      have hfz38_4:=qaa BK166.out 4
      go_upto_region 14 with(first|((with_reducible refine qai (f:=18) rfl ?_);refine qau (some 36) rfl rfl Try.func18 (by kernel_rfl) rfl #[.agg #[.int .i64 t158,.bool t159,.int .i64 t160,.slice Ao14 t161.length co14,.int .i64 t164],.int .i64 1] rfl (by(try simp only[List.map_toArray,List.map_cons,List.map_nil]);first|done|rfl|(simp only[List.length_drop,List.length_take];rfl)) ?_;(with_reducible refine(laws_markHouse.calls t158 t159 t160 _ _ t161 t164 1 t168 _ ?side1 ?side2 A26.out).mono ?_);(case side1=>repeat(first|exact(Kd.S_reads' HO_167003.out).2.2|(with_reducible refine Kd.C_alloc ?_ _)|(with_reducible refine Kd.C_drewN ?_ _)|(with_reducible refine Kd.C_drew ?_)));(case side2=>exact(Kd.S_reads' HO_167003.out).2.1);rintro e w39 ⟨rfl,hb⟩;refine⟨_,rfl,?_⟩;have n0_:=qal.mk (Kd.S_below (za10 HO_158003) hb);have n1_:=qal.mk (Kd.S_below (za10 HO_167003) hb);have n2_:=qal.mk (qac (g:=gb157) (o:=.cells #[.int .i64 t149,.bool t150,.int .i64 t151,.slice Ao9 t152.length co9,.int .i64 t155] 26 (0,0)) (za0 BK157) hb);have n3_:=qal.mk (qac (g:=gb166) (o:=.cells #[.int .i64 t158,.bool t159,.int .i64 t160,.slice Ao14 t161.length co14,.int .i64 t164] 26 (0,0)) (za0 BK166) hb);have n4_:=qal.mk (qae (za3 HB GE157 GE166) hb);clear HO_158003;clear HO_167003;clear BK157;clear BK166;clear HB;have HO_158003:=n0_;have HO_167003:=n1_;have BK157:=n2_;have BK166:=n3_;have HB:=n4_;clear n0_ n1_ n2_ n3_ n4_;(try clear hb);(try clear hb2);(try clear hk);(try clear hi);have hcz40_0:w39.cell? ⟨gb166,0,none⟩=some (.int .i64 t158):=(qab BK166.out 0).trans rfl;have hcz40_1:w39.cell? ⟨gb166,1,none⟩=some (.bool t159):=(qab BK166.out 1).trans rfl;have hcz40_2:w39.cell? ⟨gb166,2,none⟩=some (.int .i64 t160):=(qab BK166.out 2).trans rfl;have hcz40_3:w39.cell? ⟨gb166,3,none⟩=some (.slice Ao14 t161.length co14):=(qab BK166.out 3).trans rfl;have hcz40_4:w39.cell? ⟨gb166,4,none⟩=some (.int .i64 t164):=(qab BK166.out 4).trans rfl;have hfz40_0:=qaa BK166.out 0;have hfz40_1:=qaa BK166.out 1;have hfz40_2:=qaa BK166.out 2;have hfz40_3:=qaa BK166.out 3;have hfz40_4:=qaa BK166.out 4)|((with_reducible refine qai (f:=19) rfl ?_);refine qau (some 39) rfl rfl Try.func19 (by kernel_rfl) rfl #[.agg #[.int .i64 t158,.bool t159,.int .i64 t160,.slice Ao14 t161.length co14,.int .i64 t164],.int .i64 1] rfl (by(try simp only[List.map_toArray,List.map_cons,List.map_nil]);first|done|rfl|(simp only[List.length_drop,List.length_take];rfl)) ?_;(with_reducible refine(laws_heldHouse.calls kj4 t158 t159 t160 _ _ t161 t164 1 t169 _ ?side1 ?side2 A27.out).mono ?_);(case side1=>repeat(first|exact(Kd.S_reads' HO_167003.out).2.2|(with_reducible refine Kd.C_alloc ?_ _)|(with_reducible refine Kd.C_drewN ?_ _)|(with_reducible refine Kd.C_drew ?_)));(case side2=>exact(Kd.S_reads' HO_167003.out).2.1);rintro e w41 ⟨rfl,hb⟩;refine⟨_,rfl,?_⟩;have n0_:=qal.mk (Kd.S_below (za10 HO_158003) hb);have n1_:=qal.mk (Kd.S_below (za10 HO_167003) hb);have n2_:=qal.mk (qac (g:=gb157) (o:=.cells #[.int .i64 t149,.bool t150,.int .i64 t151,.slice Ao9 t152.length co9,.int .i64 t155] 26 (0,0)) (za0 BK157) hb);have n3_:=qal.mk (qac (g:=gb166) (o:=.cells #[.int .i64 t158,.bool t159,.int .i64 t160,.slice Ao14 t161.length co14,.int .i64 t164] 26 (0,0)) (za0 BK166) hb);have n4_:=qal.mk (qae (za3 HB GE157 GE166) hb);clear HO_158003;clear HO_167003;clear BK157;clear BK166;clear HB;have HO_158003:=n0_;have HO_167003:=n1_;have BK157:=n2_;have BK166:=n3_;have HB:=n4_;clear n0_ n1_ n2_ n3_ n4_;(try clear hb);(try clear hb2);(try clear hk);(try clear hi))|((with_reducible refine qai (f:=16) rfl ?_);refine qau (some 48) rfl rfl Try.func16 (by kernel_rfl) rfl #[.int .i64 a0,.int .i64 a1] rfl (by(try simp only[List.map_toArray,List.map_cons,List.map_nil]);first|done|rfl|(simp only[List.length_drop,List.length_take];rfl)) ?_;(with_reducible refine(impl_HouseNew.calls a0 a1 t170 t171 t172 t173 t176 t177 _ A35.out).mono ?_);rintro e w42 ⟨v174,rfl,ho0,hb⟩;refine⟨_,rfl,?_⟩;have n0_:=qal.mk (Kd.S_elder' (za10 HO_158003) (Kd.S_base ho0) hb);have n1_:=qal.mk (Kd.S_elder' (za10 HO_167003) (Kd.S_base ho0) hb);have n2_:=qal.mk (Kd.S_lower (Kd.S_new' (Kd.S_new' ho0 (Kd.S_lt (za10 HO_158003))) (Kd.S_lt (za10 HO_167003))) (qad (za3 HB GE157 GE166)));have n3_:=qal.mk (qac (g:=gb157) (o:=.cells #[.int .i64 t149,.bool t150,.int .i64 t151,.slice Ao9 t152.length co9,.int .i64 t155] 26 (0,0)) (za0 BK157) hb);have n4_:=qal.mk (qac (g:=gb166) (o:=.cells #[.int .i64 t158,.bool t159,.int .i64 t160,.slice Ao14 t161.length co14,.int .i64 t164] 26 (0,0)) (za0 BK166) hb);have n5_:=qal.mk (qae (za3 HB GE157 GE166) hb);clear HO_158003;clear HO_167003;clear BK157;clear BK166;clear HB;have HO_158003:=n0_;have HO_167003:=n1_;have HO175:=n2_;have BK157:=n3_;have BK166:=n4_;have HB:=n5_;clear n0_ n1_ n2_ n3_ n4_ n5_;(try clear hb);(try clear hb2);(try clear hk);(try clear hi);(try clear ho0))|((with_reducible refine qak (N:=11) rfl ?_);refine qaj ?hg (N:=11) ?hd (cs:=#[.int .i64 0,.bool false,.int .i64 0,.slice none 0 0,.int .i64 0]) (t:=26) ?hr ?_;(case hd=>rfl);(case hg=>rfl);(case hr=>first|(go_simp;done)|(go_simp;rfl));intro gb178 hg w43 hbox hb;have n0_:=qal.mk (Kd.S_below (za10 HO_158003) hb);have n1_:=qal.mk (Kd.S_below (za10 HO_167003) hb);have n2_:=qal.mk (Kd.S_below (za10 HO175) hb);have n3_:=qal.mk (qac (g:=gb157) (o:=.cells #[.int .i64 t149,.bool t150,.int .i64 t151,.slice Ao9 t152.length co9,.int .i64 t155] 26 (0,0)) (za0 BK157) hb);have n4_:=qal.mk (qac (g:=gb166) (o:=.cells #[.int .i64 t158,.bool t159,.int .i64 t160,.slice Ao14 t161.length co14,.int .i64 t164] 26 (0,0)) (za0 BK166) hb);have n5_:=qal.mk (qae (za3 HB GE157 GE166) hb);have n6_:=qal.mk (hbox);have n7_:=qal.mk ((by rw[hg];exact(qad (za3 HB GE157 GE166)):w.heap.size≤gb178));have n8_:=qal.mk ((by rw[hg];exact(qad (za3 HB GE157 GE166)):w.heap.size≤gb178));have n9_:=qal.mk ((by rw[hg];exact Nat.ne_of_lt (qao (g:=gb157) (o:=.cells #[.int .i64 t149,.bool t150,.int .i64 t151,.slice Ao9 t152.length co9,.int .i64 t155] 26 (0,0)) (za0 BK157)):gb157≠gb178));have n10_:=qal.mk ((by rw[hg];exact Nat.ne_of_gt (qao (g:=gb157) (o:=.cells #[.int .i64 t149,.bool t150,.int .i64 t151,.slice Ao9 t152.length co9,.int .i64 t155] 26 (0,0)) (za0 BK157)):gb178≠gb157));have n11_:=qal.mk ((by rw[hg];exact Nat.ne_of_lt (qao (g:=gb166) (o:=.cells #[.int .i64 t158,.bool t159,.int .i64 t160,.slice Ao14 t161.length co14,.int .i64 t164] 26 (0,0)) (za0 BK166)):gb166≠gb178));have n12_:=qal.mk ((by rw[hg];exact Nat.ne_of_gt (qao (g:=gb166) (o:=.cells #[.int .i64 t158,.bool t159,.int .i64 t160,.slice Ao14 t161.length co14,.int .i64 t164] 26 (0,0)) (za0 BK166)):gb178≠gb166));clear HO_158003;clear HO_167003;clear HO175;clear BK157;clear BK166;clear HB;have HO_158003:=n0_;have HO_167003:=n1_;have HO175:=n2_;have BK157:=n3_;have BK166:=n4_;have HB:=n5_;have BK178:=n6_;have GW178:=n7_;have GE178:=n8_;have NB157_178:=n9_;have NB178_157:=n10_;have NB166_178:=n11_;have NB178_166:=n12_;clear n0_ n1_ n2_ n3_ n4_ n5_ n6_ n7_ n8_ n9_ n10_ n11_ n12_;clear hb hbox hg;have hnb44:=NB178_157.out;have hnc44:=NB157_178.out;have hnb45:=NB178_166.out;have hnc45:=NB166_178.out;have hcz46_0:w43.cell? ⟨gb178,0,none⟩=some (.int .i64 0):=(qab BK178.out 0).trans rfl;have hcz46_1:w43.cell? ⟨gb178,1,none⟩=some (.bool false):=(qab BK178.out 1).trans rfl;have hcz46_2:w43.cell? ⟨gb178,2,none⟩=some (.int .i64 0):=(qab BK178.out 2).trans rfl;have hcz46_3:w43.cell? ⟨gb178,3,none⟩=some (.slice none 0 0):=(qab BK178.out 3).trans rfl;have hcz46_4:w43.cell? ⟨gb178,4,none⟩=some (.int .i64 0):=(qab BK178.out 4).trans rfl;have hfz46_0:=qaa BK178.out 0;have hfz46_1:=qaa BK178.out 1;have hfz46_2:=qaa BK178.out 2;have hfz46_3:=qaa BK178.out 3;have hfz46_4:=qaa BK178.out 4;obtain⟨Ao47,co47,eo47⟩:=Kd.S_slice HO175.out;subst eo47))
      (try simp only[Act.put,List.setIfInBounds_toArray,List.set_cons_zero,List.set_cons_succ])
      go_cut [59] (fun v59 wc=>∃(kq:Nat) (x59_35:Bool),v59=.bool x59_35∧qal (laws_FnExactHouseNew.j1 kq t168 x59_35 t158 t159 t160 t161 t164=some r)∧qal (kq≤kj4)∧qal (Kd.S k62 62 wc w.heap.size (fun k_=>some k_≠((.slice Ao14 t161.length co14):Value).ownBlock∧some k_≠((.slice Ao47 t173.length co47):Value).ownBlock) (.slice Ao9 t152.length co9) t152)∧qal (Kd.S k62 62 wc w.heap.size (fun k_=>some k_≠((.slice Ao9 t152.length co9):Value).ownBlock∧some k_≠((.slice Ao47 t173.length co47):Value).ownBlock) (.slice Ao14 t161.length co14) t161)∧qal (Kd.S k62 62 wc w.heap.size (fun k_=>some k_≠((.slice Ao9 t152.length co9):Value).ownBlock∧some k_≠((.slice Ao14 t161.length co14):Value).ownBlock) (.slice Ao47 t173.length co47) t173)∧qal (wc.heap[gb157]?=some (.cells #[.int .i64 t149,.bool t150,.int .i64 t151,(.slice Ao9 t152.length co9),.int .i64 t155] 26 (0,0)))∧qal (wc.heap[gb166]?=some (.cells #[.int .i64 t158,.bool t159,.int .i64 t160,(.slice Ao14 t161.length co14),.int .i64 t164] 26 (0,0)))∧qal (wc.heap[gb178]?=some (.cells #[.int .i64 t170,.bool t171,.int .i64 t172,(.slice Ao47 t173.length co47),.int .i64 t176] 26 (0,0)))∧qal (Below w.heap.size w wc))
      case first=>
       have H:=HC36.out
       clear HC36
       replace H:=Option.bind_eq_some_iff.mp H
       obtain⟨t179,A480,H⟩:=H
       replace H:(if t179=true then(laws_FnExactHouseNew.j1 kj4 t168 (t177 != t156) t158 t159 t160 t161 t164) else(laws_FnExactHouseNew.j1 kj4 t168 true t158 t159 t160 t161 t164))=some r:=H
       have A48:=qal.mk A480
       clear A480
       by_cases c49:t179=true
       ·subst c49
        have H1:(laws_FnExactHouseNew.j1 kj4 t168 (t177 != t156) t158 t159 t160 t161 t164)=some r:=by rw[if_pos rfl] at H;exact H
        clear H
        have H:=H1
        clear H1
        have H':=qal.mk H
        clear H
        have hnb50:=NB178_157.out
        have hnc50:=NB157_178.out
        have hnb51:=NB178_166.out
        have hnc51:=NB166_178.out
        have hcz52_0:w43.cell? ⟨gb178,0,none⟩=some (.int .i64 0):=(qab BK178.out 0).trans rfl
        have hcz52_1:w43.cell? ⟨gb178,1,none⟩=some (.bool false):=(qab BK178.out 1).trans rfl
        have hcz52_2:w43.cell? ⟨gb178,2,none⟩=some (.int .i64 0):=(qab BK178.out 2).trans rfl
        have hcz52_3:w43.cell? ⟨gb178,3,none⟩=some (.slice none 0 0):=(qab BK178.out 3).trans rfl
        have hcz52_4:w43.cell? ⟨gb178,4,none⟩=some (.int .i64 0):=(qab BK178.out 4).trans rfl
        have hfz52_0:=qaa BK178.out 0
        have hfz52_1:=qaa BK178.out 1
        have hfz52_2:=qaa BK178.out 2
        have hfz52_3:=qaa BK178.out 3
        have hfz52_4:=qaa BK178.out 4
        have hnb53:=NB157_166.out
        have hnc53:=NB166_157.out
        have hcz54_0:w43.cell? ⟨gb157,0,none⟩=some (.int .i64 t149):=(qab BK157.out 0).trans rfl
        have hcz54_1:w43.cell? ⟨gb157,1,none⟩=some (.bool t150):=(qab BK157.out 1).trans rfl
        have hcz54_2:w43.cell? ⟨gb157,2,none⟩=some (.int .i64 t151):=(qab BK157.out 2).trans rfl
        have hcz54_3:w43.cell? ⟨gb157,3,none⟩=some (.slice Ao9 t152.length co9):=(qab BK157.out 3).trans rfl
        have hcz54_4:w43.cell? ⟨gb157,4,none⟩=some (.int .i64 t155):=(qab BK157.out 4).trans rfl
        have hfz54_0:=qaa BK157.out 0
        have hfz54_1:=qaa BK157.out 1
        have hfz54_2:=qaa BK157.out 2
        have hfz54_3:=qaa BK157.out 3
        have hfz54_4:=qaa BK157.out 4
        go_wp2_with(first|((with_reducible refine qai (f:=17) rfl ?_);refine qau (some 53) rfl rfl Try.func17 (by kernel_rfl) rfl #[.agg #[.int .i64 t170,.bool t171,.int .i64 t172,.slice Ao47 t173.length co47,.int .i64 t176],.agg #[.int .i64 t149,.bool t150,.int .i64 t151,.slice Ao9 t152.length co9,.int .i64 t155]] rfl (by(try simp only[List.map_toArray,List.map_cons,List.map_nil]);first|done|rfl|(simp only[List.length_drop,List.length_take];rfl)) ?_;(with_reducible refine(laws_eqHouse.calls kj4 t170 t171 t172 _ _ t173 t176 t149 t150 t151 _ _ t152 t155 true _ ?side1 ?side2 ?side3 ?side4 A48.out).mono ?_);(case side1=>refine(Kd.S_reads' (e:=62) (base:=w.heap.size) (ok:=fun k_=>((True∧some k_≠(.slice Ao9 t152.length co9:Value).ownBlock)∧some k_≠(.slice Ao14 t161.length co14:Value).ownBlock)) (n:=t173.length) (c:=co47) ?_).2.2;exact(by(with_reducible repeat(first|apply Kd.S_alloc|apply Kd.S_drewN|apply Kd.S_drew));exact(Kd.S_mono (Kd.S_far (p:=⟨gb178,4,none⟩) (Kd.S_far (p:=⟨gb178,3,none⟩) (Kd.S_far (p:=⟨gb178,2,none⟩) (Kd.S_far (p:=⟨gb178,1,none⟩) (Kd.S_far (p:=⟨gb178,0,none⟩) (Kd.S_types HO175.out BK178.out (by decide)) (fun _ hk=>hk.2) (.int .i64 t170)) (fun _ hk=>hk.2) (.bool t171)) (fun _ hk=>hk.2) (.int .i64 t172)) (fun _ hk=>hk.2) (.slice Ao47 t173.length co47)) (fun _ hk=>hk.2) (.int .i64 t176)) (fun _ h_=>h_.1))));(case side2=>exact(Kd.S_reads' HO175.out).2.1);(case side3=>refine(Kd.S_reads' (e:=62) (base:=w.heap.size) (ok:=fun k_=>(some k_≠(.slice Ao14 t161.length co14:Value).ownBlock∧some k_≠(.slice Ao47 t173.length co47:Value).ownBlock)) (n:=t152.length) (c:=co9) ?_).2.2;exact(by(with_reducible repeat(first|apply Kd.S_alloc|apply Kd.S_drewN|apply Kd.S_drew));exact(Kd.S_mono (Kd.S_far (p:=⟨gb178,4,none⟩) (Kd.S_far (p:=⟨gb178,3,none⟩) (Kd.S_far (p:=⟨gb178,2,none⟩) (Kd.S_far (p:=⟨gb178,1,none⟩) (Kd.S_far (p:=⟨gb178,0,none⟩) (Kd.S_types HO_158003.out BK178.out (by decide)) (fun _ hk=>hk.2) (.int .i64 t170)) (fun _ hk=>hk.2) (.bool t171)) (fun _ hk=>hk.2) (.int .i64 t172)) (fun _ hk=>hk.2) (.slice Ao47 t173.length co47)) (fun _ hk=>hk.2) (.int .i64 t176)) (fun _ h_=>h_.1))));(case side4=>exact(Kd.S_reads' HO_158003.out).2.1);rintro e w55 ⟨rfl,hb⟩;refine⟨_,rfl,?_⟩;have n0_:=qal.mk (Kd.S_below (by(with_reducible repeat(first|apply Kd.S_alloc|apply Kd.S_drewN|apply Kd.S_drew));exact(Kd.S_mono (Kd.S_far (p:=⟨gb178,4,none⟩) (Kd.S_far (p:=⟨gb178,3,none⟩) (Kd.S_far (p:=⟨gb178,2,none⟩) (Kd.S_far (p:=⟨gb178,1,none⟩) (Kd.S_far (p:=⟨gb178,0,none⟩) (Kd.S_types HO_158003.out BK178.out (by decide)) (fun _ hk=>hk.2) (.int .i64 t170)) (fun _ hk=>hk.2) (.bool t171)) (fun _ hk=>hk.2) (.int .i64 t172)) (fun _ hk=>hk.2) (.slice Ao47 t173.length co47)) (fun _ hk=>hk.2) (.int .i64 t176)) (fun _ h_=>h_.1))) hb);have n1_:=qal.mk (Kd.S_below (by(with_reducible repeat(first|apply Kd.S_alloc|apply Kd.S_drewN|apply Kd.S_drew));exact(Kd.S_mono (Kd.S_far (p:=⟨gb178,4,none⟩) (Kd.S_far (p:=⟨gb178,3,none⟩) (Kd.S_far (p:=⟨gb178,2,none⟩) (Kd.S_far (p:=⟨gb178,1,none⟩) (Kd.S_far (p:=⟨gb178,0,none⟩) (Kd.S_types HO_167003.out BK178.out (by decide)) (fun _ hk=>hk.2) (.int .i64 t170)) (fun _ hk=>hk.2) (.bool t171)) (fun _ hk=>hk.2) (.int .i64 t172)) (fun _ hk=>hk.2) (.slice Ao47 t173.length co47)) (fun _ hk=>hk.2) (.int .i64 t176)) (fun _ h_=>h_.1))) hb);have n2_:=qal.mk (Kd.S_below (by(with_reducible repeat(first|apply Kd.S_alloc|apply Kd.S_drewN|apply Kd.S_drew));exact(Kd.S_mono (Kd.S_far (p:=⟨gb178,4,none⟩) (Kd.S_far (p:=⟨gb178,3,none⟩) (Kd.S_far (p:=⟨gb178,2,none⟩) (Kd.S_far (p:=⟨gb178,1,none⟩) (Kd.S_far (p:=⟨gb178,0,none⟩) (Kd.S_types HO175.out BK178.out (by decide)) (fun _ hk=>hk.2) (.int .i64 t170)) (fun _ hk=>hk.2) (.bool t171)) (fun _ hk=>hk.2) (.int .i64 t172)) (fun _ hk=>hk.2) (.slice Ao47 t173.length co47)) (fun _ hk=>hk.2) (.int .i64 t176)) (fun _ h_=>h_.1))) hb);have n3_:=qal.mk (qac (g:=gb157) (o:=.cells #[.int .i64 t149,.bool t150,.int .i64 t151,.slice Ao9 t152.length co9,.int .i64 t155] 26 (0,0)) (za17 NB157_178 BK157) hb);have n4_:=qal.mk (qac (g:=gb166) (o:=.cells #[.int .i64 t158,.bool t159,.int .i64 t160,.slice Ao14 t161.length co14,.int .i64 t164] 26 (0,0)) (za17 NB166_178 BK166) hb);have n5_:=qal.mk (qac (g:=gb178) (o:=.cells #[.int .i64 t170,.bool t171,.int .i64 t172,.slice Ao47 t173.length co47,.int .i64 t176] 26 (0,0)) (by(with_reducible repeat(first|refine qag ?_ _|refine qah ?_|refine qaf ?_ _));refine qan (cs:=#[.int .i64 t170,.bool t171,.int .i64 t172,.slice Ao47 t173.length co47,.int .i64 0]) ?_ 4 _ rfl;(with_reducible repeat(first|refine qag ?_ _|refine qah ?_|refine qaf ?_ _));refine qan (cs:=#[.int .i64 t170,.bool t171,.int .i64 t172,.slice none 0 0,.int .i64 0]) ?_ 3 _ rfl;(with_reducible repeat(first|refine qag ?_ _|refine qah ?_|refine qaf ?_ _));refine qan (cs:=#[.int .i64 t170,.bool t171,.int .i64 0,.slice none 0 0,.int .i64 0]) ?_ 2 _ rfl;(with_reducible repeat(first|refine qag ?_ _|refine qah ?_|refine qaf ?_ _));refine qan (cs:=#[.int .i64 t170,.bool false,.int .i64 0,.slice none 0 0,.int .i64 0]) ?_ 1 _ rfl;(with_reducible repeat(first|refine qag ?_ _|refine qah ?_|refine qaf ?_ _));refine qan (cs:=#[.int .i64 0,.bool false,.int .i64 0,.slice none 0 0,.int .i64 0]) ?_ 0 _ rfl;(with_reducible repeat(first|refine qag ?_ _|refine qah ?_|refine qaf ?_ _));exact BK178.out) hb);have n6_:=qal.mk (qae (za6 HB GE157 GE166 GE178) hb);clear HO_158003;clear HO_167003;clear HO175;clear BK157;clear BK166;clear BK178;clear HB;have HO_158003:=n0_;have HO_167003:=n1_;have HO175:=n2_;have BK157:=n3_;have BK166:=n4_;have BK178:=n5_;have HB:=n6_;clear n0_ n1_ n2_ n3_ n4_ n5_ n6_;(try clear hb);(try clear hb2);(try clear hk);(try clear hi)))
        go_meet
        case rel=>exact⟨_,((t177 != t156)),(za22),H',⟨by have:=HJ4.out;first|omega|exact Nat.le_refl _⟩,⟨za10 HO_158003⟩,⟨za10 HO_167003⟩,⟨by(with_reducible repeat(first|apply Kd.S_alloc|apply Kd.S_drewN|apply Kd.S_drew));exact Kd.S_mono HO175.out (fun _ hk=>⟨hk.1.2,hk.2⟩)⟩,⟨za0 BK157⟩,⟨za0 BK166⟩,⟨za0 BK178⟩,⟨za6 HB GE157 GE166 GE178⟩⟩
       ·replace c49:=Bool.eq_false_iff.mpr c49
        subst c49
        have H1:(laws_FnExactHouseNew.j1 kj4 t168 true t158 t159 t160 t161 t164)=some r:=by rw[if_neg (show ¬(false=true) by decide)] at H;exact H
        clear H
        have H:=H1
        clear H1
        have H':=qal.mk H
        clear H
        have hnb56:=NB178_157.out
        have hnc56:=NB157_178.out
        have hnb57:=NB178_166.out
        have hnc57:=NB166_178.out
        have hcz58_0:w43.cell? ⟨gb178,0,none⟩=some (.int .i64 0):=(qab BK178.out 0).trans rfl
        have hcz58_1:w43.cell? ⟨gb178,1,none⟩=some (.bool false):=(qab BK178.out 1).trans rfl
        have hcz58_2:w43.cell? ⟨gb178,2,none⟩=some (.int .i64 0):=(qab BK178.out 2).trans rfl
        have hcz58_3:w43.cell? ⟨gb178,3,none⟩=some (.slice none 0 0):=(qab BK178.out 3).trans rfl
        have hcz58_4:w43.cell? ⟨gb178,4,none⟩=some (.int .i64 0):=(qab BK178.out 4).trans rfl
        have hfz58_0:=qaa BK178.out 0
        have hfz58_1:=qaa BK178.out 1
        have hfz58_2:=qaa BK178.out 2
        have hfz58_3:=qaa BK178.out 3
        have hfz58_4:=qaa BK178.out 4
        have hnb59:=NB157_166.out
        have hnc59:=NB166_157.out
        have hcz60_0:w43.cell? ⟨gb157,0,none⟩=some (.int .i64 t149):=(qab BK157.out 0).trans rfl
        have hcz60_1:w43.cell? ⟨gb157,1,none⟩=some (.bool t150):=(qab BK157.out 1).trans rfl
        have hcz60_2:w43.cell? ⟨gb157,2,none⟩=some (.int .i64 t151):=(qab BK157.out 2).trans rfl
        have hcz60_3:w43.cell? ⟨gb157,3,none⟩=some (.slice Ao9 t152.length co9):=(qab BK157.out 3).trans rfl
        have hcz60_4:w43.cell? ⟨gb157,4,none⟩=some (.int .i64 t155):=(qab BK157.out 4).trans rfl
        have hfz60_0:=qaa BK157.out 0
        have hfz60_1:=qaa BK157.out 1
        have hfz60_2:=qaa BK157.out 2
        have hfz60_3:=qaa BK157.out 3
        have hfz60_4:=qaa BK157.out 4
        go_wp2_with(first|((with_reducible refine qai (f:=17) rfl ?_);refine qau (some 53) rfl rfl Try.func17 (by kernel_rfl) rfl #[.agg #[.int .i64 t170,.bool t171,.int .i64 t172,.slice Ao47 t173.length co47,.int .i64 t176],.agg #[.int .i64 t149,.bool t150,.int .i64 t151,.slice Ao9 t152.length co9,.int .i64 t155]] rfl (by(try simp only[List.map_toArray,List.map_cons,List.map_nil]);first|done|rfl|(simp only[List.length_drop,List.length_take];rfl)) ?_;(with_reducible refine(laws_eqHouse.calls kj4 t170 t171 t172 _ _ t173 t176 t149 t150 t151 _ _ t152 t155 false _ ?side1 ?side2 ?side3 ?side4 A48.out).mono ?_);(case side1=>refine(Kd.S_reads' (e:=62) (base:=w.heap.size) (ok:=fun k_=>((True∧some k_≠(.slice Ao9 t152.length co9:Value).ownBlock)∧some k_≠(.slice Ao14 t161.length co14:Value).ownBlock)) (n:=t173.length) (c:=co47) ?_).2.2;exact(by(with_reducible repeat(first|apply Kd.S_alloc|apply Kd.S_drewN|apply Kd.S_drew));exact(Kd.S_mono (Kd.S_far (p:=⟨gb178,4,none⟩) (Kd.S_far (p:=⟨gb178,3,none⟩) (Kd.S_far (p:=⟨gb178,2,none⟩) (Kd.S_far (p:=⟨gb178,1,none⟩) (Kd.S_far (p:=⟨gb178,0,none⟩) (Kd.S_types HO175.out BK178.out (by decide)) (fun _ hk=>hk.2) (.int .i64 t170)) (fun _ hk=>hk.2) (.bool t171)) (fun _ hk=>hk.2) (.int .i64 t172)) (fun _ hk=>hk.2) (.slice Ao47 t173.length co47)) (fun _ hk=>hk.2) (.int .i64 t176)) (fun _ h_=>h_.1))));(case side2=>exact(Kd.S_reads' HO175.out).2.1);(case side3=>refine(Kd.S_reads' (e:=62) (base:=w.heap.size) (ok:=fun k_=>(some k_≠(.slice Ao14 t161.length co14:Value).ownBlock∧some k_≠(.slice Ao47 t173.length co47:Value).ownBlock)) (n:=t152.length) (c:=co9) ?_).2.2;exact(by(with_reducible repeat(first|apply Kd.S_alloc|apply Kd.S_drewN|apply Kd.S_drew));exact(Kd.S_mono (Kd.S_far (p:=⟨gb178,4,none⟩) (Kd.S_far (p:=⟨gb178,3,none⟩) (Kd.S_far (p:=⟨gb178,2,none⟩) (Kd.S_far (p:=⟨gb178,1,none⟩) (Kd.S_far (p:=⟨gb178,0,none⟩) (Kd.S_types HO_158003.out BK178.out (by decide)) (fun _ hk=>hk.2) (.int .i64 t170)) (fun _ hk=>hk.2) (.bool t171)) (fun _ hk=>hk.2) (.int .i64 t172)) (fun _ hk=>hk.2) (.slice Ao47 t173.length co47)) (fun _ hk=>hk.2) (.int .i64 t176)) (fun _ h_=>h_.1))));(case side4=>exact(Kd.S_reads' HO_158003.out).2.1);rintro e w61 ⟨rfl,hb⟩;refine⟨_,rfl,?_⟩;have n0_:=qal.mk (Kd.S_below (by(with_reducible repeat(first|apply Kd.S_alloc|apply Kd.S_drewN|apply Kd.S_drew));exact(Kd.S_mono (Kd.S_far (p:=⟨gb178,4,none⟩) (Kd.S_far (p:=⟨gb178,3,none⟩) (Kd.S_far (p:=⟨gb178,2,none⟩) (Kd.S_far (p:=⟨gb178,1,none⟩) (Kd.S_far (p:=⟨gb178,0,none⟩) (Kd.S_types HO_158003.out BK178.out (by decide)) (fun _ hk=>hk.2) (.int .i64 t170)) (fun _ hk=>hk.2) (.bool t171)) (fun _ hk=>hk.2) (.int .i64 t172)) (fun _ hk=>hk.2) (.slice Ao47 t173.length co47)) (fun _ hk=>hk.2) (.int .i64 t176)) (fun _ h_=>h_.1))) hb);have n1_:=qal.mk (Kd.S_below (by(with_reducible repeat(first|apply Kd.S_alloc|apply Kd.S_drewN|apply Kd.S_drew));exact(Kd.S_mono (Kd.S_far (p:=⟨gb178,4,none⟩) (Kd.S_far (p:=⟨gb178,3,none⟩) (Kd.S_far (p:=⟨gb178,2,none⟩) (Kd.S_far (p:=⟨gb178,1,none⟩) (Kd.S_far (p:=⟨gb178,0,none⟩) (Kd.S_types HO_167003.out BK178.out (by decide)) (fun _ hk=>hk.2) (.int .i64 t170)) (fun _ hk=>hk.2) (.bool t171)) (fun _ hk=>hk.2) (.int .i64 t172)) (fun _ hk=>hk.2) (.slice Ao47 t173.length co47)) (fun _ hk=>hk.2) (.int .i64 t176)) (fun _ h_=>h_.1))) hb);have n2_:=qal.mk (Kd.S_below (by(with_reducible repeat(first|apply Kd.S_alloc|apply Kd.S_drewN|apply Kd.S_drew));exact(Kd.S_mono (Kd.S_far (p:=⟨gb178,4,none⟩) (Kd.S_far (p:=⟨gb178,3,none⟩) (Kd.S_far (p:=⟨gb178,2,none⟩) (Kd.S_far (p:=⟨gb178,1,none⟩) (Kd.S_far (p:=⟨gb178,0,none⟩) (Kd.S_types HO175.out BK178.out (by decide)) (fun _ hk=>hk.2) (.int .i64 t170)) (fun _ hk=>hk.2) (.bool t171)) (fun _ hk=>hk.2) (.int .i64 t172)) (fun _ hk=>hk.2) (.slice Ao47 t173.length co47)) (fun _ hk=>hk.2) (.int .i64 t176)) (fun _ h_=>h_.1))) hb);have n3_:=qal.mk (qac (g:=gb157) (o:=.cells #[.int .i64 t149,.bool t150,.int .i64 t151,.slice Ao9 t152.length co9,.int .i64 t155] 26 (0,0)) (za17 NB157_178 BK157) hb);have n4_:=qal.mk (qac (g:=gb166) (o:=.cells #[.int .i64 t158,.bool t159,.int .i64 t160,.slice Ao14 t161.length co14,.int .i64 t164] 26 (0,0)) (za17 NB166_178 BK166) hb);have n5_:=qal.mk (qac (g:=gb178) (o:=.cells #[.int .i64 t170,.bool t171,.int .i64 t172,.slice Ao47 t173.length co47,.int .i64 t176] 26 (0,0)) (by(with_reducible repeat(first|refine qag ?_ _|refine qah ?_|refine qaf ?_ _));refine qan (cs:=#[.int .i64 t170,.bool t171,.int .i64 t172,.slice Ao47 t173.length co47,.int .i64 0]) ?_ 4 _ rfl;(with_reducible repeat(first|refine qag ?_ _|refine qah ?_|refine qaf ?_ _));refine qan (cs:=#[.int .i64 t170,.bool t171,.int .i64 t172,.slice none 0 0,.int .i64 0]) ?_ 3 _ rfl;(with_reducible repeat(first|refine qag ?_ _|refine qah ?_|refine qaf ?_ _));refine qan (cs:=#[.int .i64 t170,.bool t171,.int .i64 0,.slice none 0 0,.int .i64 0]) ?_ 2 _ rfl;(with_reducible repeat(first|refine qag ?_ _|refine qah ?_|refine qaf ?_ _));refine qan (cs:=#[.int .i64 t170,.bool false,.int .i64 0,.slice none 0 0,.int .i64 0]) ?_ 1 _ rfl;(with_reducible repeat(first|refine qag ?_ _|refine qah ?_|refine qaf ?_ _));refine qan (cs:=#[.int .i64 0,.bool false,.int .i64 0,.slice none 0 0,.int .i64 0]) ?_ 0 _ rfl;(with_reducible repeat(first|refine qag ?_ _|refine qah ?_|refine qaf ?_ _));exact BK178.out) hb);have n6_:=qal.mk (qae (za6 HB GE157 GE166 GE178) hb);clear HO_158003;clear HO_167003;clear HO175;clear BK157;clear BK166;clear BK178;clear HB;have HO_158003:=n0_;have HO_167003:=n1_;have HO175:=n2_;have BK157:=n3_;have BK166:=n4_;have BK178:=n5_;have HB:=n6_;clear n0_ n1_ n2_ n3_ n4_ n5_ n6_;(try clear hb);(try clear hb2);(try clear hk);(try clear hi)))
        go_meet
        case rel=>exact⟨_,(true),(za22),H',⟨by have:=HJ4.out;first|omega|exact Nat.le_refl _⟩,⟨za10 HO_158003⟩,⟨za10 HO_167003⟩,⟨by(with_reducible repeat(first|apply Kd.S_alloc|apply Kd.S_drewN|apply Kd.S_drew));exact Kd.S_mono HO175.out (fun _ hk=>⟨hk.1.2,hk.2⟩)⟩,⟨za0 BK157⟩,⟨za0 BK166⟩,⟨za0 BK178⟩,⟨za6 HB GE157 GE166 GE178⟩⟩
      case rest=>
       clear HC36
       try clear c1
       try clear c2
       try clear p2
       try clear c3
       try clear c4
       try clear c5
       try clear c12
       try clear c15
       try clear c16
       try clear c17
       try clear c18
       try clear c19
       try clear c21
       try clear c25
       try clear c28
       try clear c28b0
       try clear c29
       try clear c34
       try clear c34b0
       try clear c34b1
       try clear c37
       try clear c44
       try clear c45
       try clear c49
       try clear c50
       try clear c51
       try clear c53
       try clear c56
       try clear c57
       try clear c59
       try clear hcz13_0
       try clear hcz13_1
       try clear hcz13_2
       try clear hcz13_3
       try clear hcz13_4
       try clear hcz18_0
       try clear hcz18_1
       try clear hcz18_2
       try clear hcz18_3
       try clear hcz18_4
       try clear hcz19_0
       try clear hcz19_1
       try clear hcz19_2
       try clear hcz19_3
       try clear hcz19_4
       try clear hcz22_0
       try clear hcz22_1
       try clear hcz22_2
       try clear hcz22_3
       try clear hcz22_4
       try clear hcz23_0
       try clear hcz23_1
       try clear hcz23_2
       try clear hcz23_3
       try clear hcz23_4
       try clear hcz30_0
       try clear hcz30_1
       try clear hcz30_2
       try clear hcz30_3
       try clear hcz30_4
       try clear hcz32_0
       try clear hcz32_1
       try clear hcz32_2
       try clear hcz32_3
       try clear hcz32_4
       try clear hcz38_0
       try clear hcz38_1
       try clear hcz38_2
       try clear hcz38_3
       try clear hcz38_4
       try clear hcz40_0
       try clear hcz40_1
       try clear hcz40_2
       try clear hcz40_3
       try clear hcz40_4
       try clear hcz46_0
       try clear hcz46_1
       try clear hcz46_2
       try clear hcz46_3
       try clear hcz46_4
       try clear hcz52_0
       try clear hcz52_1
       try clear hcz52_2
       try clear hcz52_3
       try clear hcz52_4
       try clear hcz54_0
       try clear hcz54_1
       try clear hcz54_2
       try clear hcz54_3
       try clear hcz54_4
       try clear hcz58_0
       try clear hcz58_1
       try clear hcz58_2
       try clear hcz58_3
       try clear hcz58_4
       try clear hcz60_0
       try clear hcz60_1
       try clear hcz60_2
       try clear hcz60_3
       try clear hcz60_4
       try clear hcz8_0
       try clear hcz8_1
       try clear hcz8_2
       try clear hcz8_3
       try clear hcz8_4
       try clear hfz13_0
       try clear hfz13_1
       try clear hfz13_2
       try clear hfz13_3
       try clear hfz13_4
       try clear hfz18_0
       try clear hfz18_1
       try clear hfz18_2
       try clear hfz18_3
       try clear hfz18_4
       try clear hfz19_0
       try clear hfz19_1
       try clear hfz19_2
       try clear hfz19_3
       try clear hfz19_4
       try clear hfz22_0
       try clear hfz22_1
       try clear hfz22_2
       try clear hfz22_3
       try clear hfz22_4
       try clear hfz23_0
       try clear hfz23_1
       try clear hfz23_2
       try clear hfz23_3
       try clear hfz23_4
       try clear hfz30_0
       try clear hfz30_1
       try clear hfz30_2
       try clear hfz30_3
       try clear hfz30_4
       try clear hfz32_0
       try clear hfz32_1
       try clear hfz32_2
       try clear hfz32_3
       try clear hfz32_4
       try clear hfz38_0
       try clear hfz38_1
       try clear hfz38_2
       try clear hfz38_3
       try clear hfz38_4
       try clear hfz40_0
       try clear hfz40_1
       try clear hfz40_2
       try clear hfz40_3
       try clear hfz40_4
       try clear hfz46_0
       try clear hfz46_1
       try clear hfz46_2
       try clear hfz46_3
       try clear hfz46_4
       try clear hfz52_0
       try clear hfz52_1
       try clear hfz52_2
       try clear hfz52_3
       try clear hfz52_4
       try clear hfz54_0
       try clear hfz54_1
       try clear hfz54_2
       try clear hfz54_3
       try clear hfz54_4
       try clear hfz58_0
       try clear hfz58_1
       try clear hfz58_2
       try clear hfz58_3
       try clear hfz58_4
       try clear hfz60_0
       try clear hfz60_1
       try clear hfz60_2
       try clear hfz60_3
       try clear hfz60_4
       try clear hfz8_0
       try clear hfz8_1
       try clear hfz8_2
       try clear hfz8_3
       try clear hfz8_4
       try clear p2
       obtain⟨kq,x59_35,rfl,HA,HJ35,HO_158003,HO_167003,HO_179003,BK157,BK166,BK178,HB⟩:=hcut
       cases kq with
       |zero=>exact absurd HA.out (by simp[laws_FnExactHouseNew.j1])
       |succ kj35=>
        have H:=HA.out
        clear HA
        simp only[laws_FnExactHouseNew.j1] at H
        by_cases c62:x59_35=true
        ·subst c62
         have H1:(some false)=some r:=by rw[if_pos rfl] at H;exact H
         clear H
         have H:=H1
         clear H1
         obtain rfl:=Option.some.inj H
         go_wp2
         go_ret
         exact⟨za9,za6 HB GE157 GE166 GE178⟩
        ·replace c62:=Bool.eq_false_iff.mpr c62
         subst c62
         have H1:((laws_heldHouse.f kj35 t158 t159 t160 t161 t164 1).bind fun t180=>(if t180<0 then(some false) else(if t180=t168 then(some true) else(some false))))=some r:=by rw[if_neg (show ¬(false=true) by decide)] at H;exact H
         clear H
         have H:=H1
         clear H1
         replace H:=Option.bind_eq_some_iff.mp H
         obtain⟨t180,A630,H⟩:=H
         replace H:(if t180<0 then(some false) else(if t180=t168 then(some true) else(some false)))=some r:=H
         have A63:=qal.mk A630
         clear A630
         by_cases c64:t180<0
         ·rw[if_pos c64] at H
          have c64b0:decide (t180<0)=true:=decide_eq_true c64
          clear c64
          obtain rfl:=Option.some.inj H
          have hnb65:=NB166_157.out
          have hnc65:=NB157_166.out
          have hnb66:=NB166_178.out
          have hnc66:=NB178_166.out
          have hcz67_0:wc.cell? ⟨gb166,0,none⟩=some (.int .i64 t158):=(qab BK166.out 0).trans rfl
          have hcz67_1:wc.cell? ⟨gb166,1,none⟩=some (.bool t159):=(qab BK166.out 1).trans rfl
          have hcz67_2:wc.cell? ⟨gb166,2,none⟩=some (.int .i64 t160):=(qab BK166.out 2).trans rfl
          have hcz67_3:wc.cell? ⟨gb166,3,none⟩=some (.slice Ao14 t161.length co14):=(qab BK166.out 3).trans rfl
          have hcz67_4:wc.cell? ⟨gb166,4,none⟩=some (.int .i64 t164):=(qab BK166.out 4).trans rfl
          have hfz67_0:=qaa BK166.out 0
          have hfz67_1:=qaa BK166.out 1
          have hfz67_2:=qaa BK166.out 2
          have hfz67_3:=qaa BK166.out 3
          have hfz67_4:=qaa BK166.out 4
          go_wp2_with(first|((with_reducible refine qai (f:=19) rfl ?_);refine qau (some 62) rfl rfl Try.func19 (by kernel_rfl) rfl #[.agg #[.int .i64 t158,.bool t159,.int .i64 t160,.slice Ao14 t161.length co14,.int .i64 t164],.int .i64 1] rfl (by(try simp only[List.map_toArray,List.map_cons,List.map_nil]);first|done|rfl|(simp only[List.length_drop,List.length_take];rfl)) ?_;(with_reducible refine(laws_heldHouse.calls kj35 t158 t159 t160 _ _ t161 t164 1 t180 _ ?side1 ?side2 A63.out).mono ?_);(case side1=>repeat(first|exact(Kd.S_reads' HO_167003.out).2.2|(with_reducible refine Kd.C_alloc ?_ _)|(with_reducible refine Kd.C_drewN ?_ _)|(with_reducible refine Kd.C_drew ?_)));(case side2=>exact(Kd.S_reads' HO_167003.out).2.1);rintro e w68 ⟨rfl,hb⟩;refine⟨_,rfl,?_⟩;have n0_:=qal.mk (Kd.S_below (za10 HO_158003) hb);have n1_:=qal.mk (Kd.S_below (za10 HO_167003) hb);have n2_:=qal.mk (Kd.S_below (za10 HO_179003) hb);have n3_:=qal.mk (qac (g:=gb157) (o:=.cells #[.int .i64 t149,.bool t150,.int .i64 t151,.slice Ao9 t152.length co9,.int .i64 t155] 26 (0,0)) (za0 BK157) hb);have n4_:=qal.mk (qac (g:=gb166) (o:=.cells #[.int .i64 t158,.bool t159,.int .i64 t160,.slice Ao14 t161.length co14,.int .i64 t164] 26 (0,0)) (za0 BK166) hb);have n5_:=qal.mk (qac (g:=gb178) (o:=.cells #[.int .i64 t170,.bool t171,.int .i64 t172,.slice Ao47 t173.length co47,.int .i64 t176] 26 (0,0)) (za0 BK178) hb);have n6_:=qal.mk (qae (za6 HB GE157 GE166 GE178) hb);clear HO_158003;clear HO_167003;clear HO_179003;clear BK157;clear BK166;clear BK178;clear HB;have HO_158003:=n0_;have HO_167003:=n1_;have HO_179003:=n2_;have BK157:=n3_;have BK166:=n4_;have BK178:=n5_;have HB:=n6_;clear n0_ n1_ n2_ n3_ n4_ n5_ n6_;(try clear hb);(try clear hb2);(try clear hk);(try clear hi)))
          go_ret
          exact⟨za9,za6 HB GE157 GE166 GE178⟩
         ·rw[if_neg c64] at H
          have c64b0:decide (t180<0)=false:=decide_eq_false c64
          clear c64
          by_cases c69:t180=t168
          ·rw[if_pos c69] at H
           have c69b0:(t180 == t168)=true:=beq_iff_eq.mpr c69
           have c69b1:(t180 != t168)=false:=bne_eq_false_iff_eq.mpr c69
           clear c69
           obtain rfl:=Option.some.inj H
           have hnb70:=NB166_157.out
           have hnc70:=NB157_166.out
           have hnb71:=NB166_178.out
           have hnc71:=NB178_166.out
           have hcz72_0:wc.cell? ⟨gb166,0,none⟩=some (.int .i64 t158):=(qab BK166.out 0).trans rfl
           have hcz72_1:wc.cell? ⟨gb166,1,none⟩=some (.bool t159):=(qab BK166.out 1).trans rfl
           have hcz72_2:wc.cell? ⟨gb166,2,none⟩=some (.int .i64 t160):=(qab BK166.out 2).trans rfl
           have hcz72_3:wc.cell? ⟨gb166,3,none⟩=some (.slice Ao14 t161.length co14):=(qab BK166.out 3).trans rfl
           have hcz72_4:wc.cell? ⟨gb166,4,none⟩=some (.int .i64 t164):=(qab BK166.out 4).trans rfl
           have hfz72_0:=qaa BK166.out 0
           have hfz72_1:=qaa BK166.out 1
           have hfz72_2:=qaa BK166.out 2
           have hfz72_3:=qaa BK166.out 3
           have hfz72_4:=qaa BK166.out 4
           go_wp2_with(first|((with_reducible refine qai (f:=19) rfl ?_);refine qau (some 62) rfl rfl Try.func19 (by kernel_rfl) rfl #[.agg #[.int .i64 t158,.bool t159,.int .i64 t160,.slice Ao14 t161.length co14,.int .i64 t164],.int .i64 1] rfl (by(try simp only[List.map_toArray,List.map_cons,List.map_nil]);first|done|rfl|(simp only[List.length_drop,List.length_take];rfl)) ?_;(with_reducible refine(laws_heldHouse.calls kj35 t158 t159 t160 _ _ t161 t164 1 t180 _ ?side1 ?side2 A63.out).mono ?_);(case side1=>repeat(first|exact(Kd.S_reads' HO_167003.out).2.2|(with_reducible refine Kd.C_alloc ?_ _)|(with_reducible refine Kd.C_drewN ?_ _)|(with_reducible refine Kd.C_drew ?_)));(case side2=>exact(Kd.S_reads' HO_167003.out).2.1);rintro e w73 ⟨rfl,hb⟩;refine⟨_,rfl,?_⟩;have n0_:=qal.mk (Kd.S_below (za10 HO_158003) hb);have n1_:=qal.mk (Kd.S_below (za10 HO_167003) hb);have n2_:=qal.mk (Kd.S_below (za10 HO_179003) hb);have n3_:=qal.mk (qac (g:=gb157) (o:=.cells #[.int .i64 t149,.bool t150,.int .i64 t151,.slice Ao9 t152.length co9,.int .i64 t155] 26 (0,0)) (za0 BK157) hb);have n4_:=qal.mk (qac (g:=gb166) (o:=.cells #[.int .i64 t158,.bool t159,.int .i64 t160,.slice Ao14 t161.length co14,.int .i64 t164] 26 (0,0)) (za0 BK166) hb);have n5_:=qal.mk (qac (g:=gb178) (o:=.cells #[.int .i64 t170,.bool t171,.int .i64 t172,.slice Ao47 t173.length co47,.int .i64 t176] 26 (0,0)) (za0 BK178) hb);have n6_:=qal.mk (qae (za6 HB GE157 GE166 GE178) hb);clear HO_158003;clear HO_167003;clear HO_179003;clear BK157;clear BK166;clear BK178;clear HB;have HO_158003:=n0_;have HO_167003:=n1_;have HO_179003:=n2_;have BK157:=n3_;have BK166:=n4_;have BK178:=n5_;have HB:=n6_;clear n0_ n1_ n2_ n3_ n4_ n5_ n6_;(try clear hb);(try clear hb2);(try clear hk);(try clear hi)))
           go_ret
           exact⟨za9,za6 HB GE157 GE166 GE178⟩
          ·rw[if_neg c69] at H
           have c69b0:(t180 == t168)=false:=beq_eq_false_iff_ne.mpr c69
           have c69b1:(t180 != t168)=true:=bne_iff_ne.mpr c69
           obtain rfl:=Option.some.inj H
           have hnb74:=NB166_157.out
           have hnc74:=NB157_166.out
           have hnb75:=NB166_178.out
           have hnc75:=NB178_166.out
           have hcz76_0:wc.cell? ⟨gb166,0,none⟩=some (.int .i64 t158):=(qab BK166.out 0).trans rfl
           have hcz76_1:wc.cell? ⟨gb166,1,none⟩=some (.bool t159):=(qab BK166.out 1).trans rfl
           have hcz76_2:wc.cell? ⟨gb166,2,none⟩=some (.int .i64 t160):=(qab BK166.out 2).trans rfl
           have hcz76_3:wc.cell? ⟨gb166,3,none⟩=some (.slice Ao14 t161.length co14):=(qab BK166.out 3).trans rfl
           have hcz76_4:wc.cell? ⟨gb166,4,none⟩=some (.int .i64 t164):=(qab BK166.out 4).trans rfl
           have hfz76_0:=qaa BK166.out 0
           have hfz76_1:=qaa BK166.out 1
           have hfz76_2:=qaa BK166.out 2
           have hfz76_3:=qaa BK166.out 3
           have hfz76_4:=qaa BK166.out 4
           go_wp2_with(first|((with_reducible refine qai (f:=19) rfl ?_);refine qau (some 62) rfl rfl Try.func19 (by kernel_rfl) rfl #[.agg #[.int .i64 t158,.bool t159,.int .i64 t160,.slice Ao14 t161.length co14,.int .i64 t164],.int .i64 1] rfl (by(try simp only[List.map_toArray,List.map_cons,List.map_nil]);first|done|rfl|(simp only[List.length_drop,List.length_take];rfl)) ?_;(with_reducible refine(laws_heldHouse.calls kj35 t158 t159 t160 _ _ t161 t164 1 t180 _ ?side1 ?side2 A63.out).mono ?_);(case side1=>repeat(first|exact(Kd.S_reads' HO_167003.out).2.2|(with_reducible refine Kd.C_alloc ?_ _)|(with_reducible refine Kd.C_drewN ?_ _)|(with_reducible refine Kd.C_drew ?_)));(case side2=>exact(Kd.S_reads' HO_167003.out).2.1);rintro e w77 ⟨rfl,hb⟩;refine⟨_,rfl,?_⟩;have n0_:=qal.mk (Kd.S_below (za10 HO_158003) hb);have n1_:=qal.mk (Kd.S_below (za10 HO_167003) hb);have n2_:=qal.mk (Kd.S_below (za10 HO_179003) hb);have n3_:=qal.mk (qac (g:=gb157) (o:=.cells #[.int .i64 t149,.bool t150,.int .i64 t151,.slice Ao9 t152.length co9,.int .i64 t155] 26 (0,0)) (za0 BK157) hb);have n4_:=qal.mk (qac (g:=gb166) (o:=.cells #[.int .i64 t158,.bool t159,.int .i64 t160,.slice Ao14 t161.length co14,.int .i64 t164] 26 (0,0)) (za0 BK166) hb);have n5_:=qal.mk (qac (g:=gb178) (o:=.cells #[.int .i64 t170,.bool t171,.int .i64 t172,.slice Ao47 t173.length co47,.int .i64 t176] 26 (0,0)) (za0 BK178) hb);have n6_:=qal.mk (qae (za6 HB GE157 GE166 GE178) hb);clear HO_158003;clear HO_167003;clear HO_179003;clear BK157;clear BK166;clear BK178;clear HB;have HO_158003:=n0_;have HO_167003:=n1_;have HO_179003:=n2_;have BK157:=n3_;have BK166:=n4_;have BK178:=n5_;have HB:=n6_;clear n0_ n1_ n2_ n3_ n4_ n5_ n6_;(try clear hb);(try clear hb2);(try clear hk);(try clear hi)))
           go_ret
           exact⟨za9,za6 HB GE157 GE166 GE178⟩
     ·rw[if_neg c34] at H
      have c34b0:(t169 == t168)=false:=beq_eq_false_iff_ne.mpr c34
      have c34b1:(t169 != t168)=true:=bne_iff_ne.mpr c34
      obtain rfl:=Option.some.inj H
      have hnb78:=NB166_157.out
      have hnc78:=NB157_166.out
      have hcz79_0:wc.cell? ⟨gb166,0,none⟩=some (.int .i64 t158):=(qab BK166.out 0).trans rfl
      have hcz79_1:wc.cell? ⟨gb166,1,none⟩=some (.bool t159):=(qab BK166.out 1).trans rfl
      have hcz79_2:wc.cell? ⟨gb166,2,none⟩=some (.int .i64 t160):=(qab BK166.out 2).trans rfl
      have hcz79_3:wc.cell? ⟨gb166,3,none⟩=some (.slice Ao14 t161.length co14):=(qab BK166.out 3).trans rfl
      have hcz79_4:wc.cell? ⟨gb166,4,none⟩=some (.int .i64 t164):=(qab BK166.out 4).trans rfl
      have hfz79_0:=qaa BK166.out 0
      have hfz79_1:=qaa BK166.out 1
      have hfz79_2:=qaa BK166.out 2
      have hfz79_3:=qaa BK166.out 3
      have hfz79_4:=qaa BK166.out 4
      go_wp2_with(first|((with_reducible refine qai (f:=18) rfl ?_);refine qau (some 36) rfl rfl Try.func18 (by kernel_rfl) rfl #[.agg #[.int .i64 t158,.bool t159,.int .i64 t160,.slice Ao14 t161.length co14,.int .i64 t164],.int .i64 1] rfl (by(try simp only[List.map_toArray,List.map_cons,List.map_nil]);first|done|rfl|(simp only[List.length_drop,List.length_take];rfl)) ?_;(with_reducible refine(laws_markHouse.calls t158 t159 t160 _ _ t161 t164 1 t168 _ ?side1 ?side2 A26.out).mono ?_);(case side1=>repeat(first|exact(Kd.S_reads' HO_167003.out).2.2|(with_reducible refine Kd.C_alloc ?_ _)|(with_reducible refine Kd.C_drewN ?_ _)|(with_reducible refine Kd.C_drew ?_)));(case side2=>exact(Kd.S_reads' HO_167003.out).2.1);rintro e w80 ⟨rfl,hb⟩;refine⟨_,rfl,?_⟩;have n0_:=qal.mk (Kd.S_below (za10 HO_158003) hb);have n1_:=qal.mk (Kd.S_below (za10 HO_167003) hb);have n2_:=qal.mk (qac (g:=gb157) (o:=.cells #[.int .i64 t149,.bool t150,.int .i64 t151,.slice Ao9 t152.length co9,.int .i64 t155] 26 (0,0)) (za0 BK157) hb);have n3_:=qal.mk (qac (g:=gb166) (o:=.cells #[.int .i64 t158,.bool t159,.int .i64 t160,.slice Ao14 t161.length co14,.int .i64 t164] 26 (0,0)) (za0 BK166) hb);have n4_:=qal.mk (qae (za3 HB GE157 GE166) hb);clear HO_158003;clear HO_167003;clear BK157;clear BK166;clear HB;have HO_158003:=n0_;have HO_167003:=n1_;have BK157:=n2_;have BK166:=n3_;have HB:=n4_;clear n0_ n1_ n2_ n3_ n4_;(try clear hb);(try clear hb2);(try clear hk);(try clear hi);have hcz81_0:w80.cell? ⟨gb166,0,none⟩=some (.int .i64 t158):=(qab BK166.out 0).trans rfl;have hcz81_1:w80.cell? ⟨gb166,1,none⟩=some (.bool t159):=(qab BK166.out 1).trans rfl;have hcz81_2:w80.cell? ⟨gb166,2,none⟩=some (.int .i64 t160):=(qab BK166.out 2).trans rfl;have hcz81_3:w80.cell? ⟨gb166,3,none⟩=some (.slice Ao14 t161.length co14):=(qab BK166.out 3).trans rfl;have hcz81_4:w80.cell? ⟨gb166,4,none⟩=some (.int .i64 t164):=(qab BK166.out 4).trans rfl;have hfz81_0:=qaa BK166.out 0;have hfz81_1:=qaa BK166.out 1;have hfz81_2:=qaa BK166.out 2;have hfz81_3:=qaa BK166.out 3;have hfz81_4:=qaa BK166.out 4)|((with_reducible refine qai (f:=19) rfl ?_);refine qau (some 39) rfl rfl Try.func19 (by kernel_rfl) rfl #[.agg #[.int .i64 t158,.bool t159,.int .i64 t160,.slice Ao14 t161.length co14,.int .i64 t164],.int .i64 1] rfl (by(try simp only[List.map_toArray,List.map_cons,List.map_nil]);first|done|rfl|(simp only[List.length_drop,List.length_take];rfl)) ?_;(with_reducible refine(laws_heldHouse.calls kj4 t158 t159 t160 _ _ t161 t164 1 t169 _ ?side1 ?side2 A27.out).mono ?_);(case side1=>repeat(first|exact(Kd.S_reads' HO_167003.out).2.2|(with_reducible refine Kd.C_alloc ?_ _)|(with_reducible refine Kd.C_drewN ?_ _)|(with_reducible refine Kd.C_drew ?_)));(case side2=>exact(Kd.S_reads' HO_167003.out).2.1);rintro e w82 ⟨rfl,hb⟩;refine⟨_,rfl,?_⟩;have n0_:=qal.mk (Kd.S_below (za10 HO_158003) hb);have n1_:=qal.mk (Kd.S_below (za10 HO_167003) hb);have n2_:=qal.mk (qac (g:=gb157) (o:=.cells #[.int .i64 t149,.bool t150,.int .i64 t151,.slice Ao9 t152.length co9,.int .i64 t155] 26 (0,0)) (za0 BK157) hb);have n3_:=qal.mk (qac (g:=gb166) (o:=.cells #[.int .i64 t158,.bool t159,.int .i64 t160,.slice Ao14 t161.length co14,.int .i64 t164] 26 (0,0)) (za0 BK166) hb);have n4_:=qal.mk (qae (za3 HB GE157 GE166) hb);clear HO_158003;clear HO_167003;clear BK157;clear BK166;clear HB;have HO_158003:=n0_;have HO_167003:=n1_;have BK157:=n2_;have BK166:=n3_;have HB:=n4_;clear n0_ n1_ n2_ n3_ n4_;(try clear hb);(try clear hb2);(try clear hk);(try clear hi)))
      go_ret
      exact⟨za9,za3 HB GE157 GE166⟩
def laws_FnExactHouseNew.Pure:Prop:=∀(a0:Int) (a1:Int),(Lit.int .i64 a0).wf=true→(Lit.int .i64 a1).wf=true→∃k,laws_FnExactHouseNew.f k a0 a1=some true
theorem laws_FnExactHouseNew.walk (P:laws_FnExactHouseNew.Pure) (a0:Int) (a1:Int) (w:World) (w0:(Lit.int .i64 a0).wf=true) (w1:(Lit.int .i64 a1).wf=true) :
  Calls Try.prog 3 #[.int .i64 a0,.int .i64 a1] w fun e w'=>e=.returned (.bool true)∧Below w.heap.size w w':=by
 obtain⟨k,h⟩:=P a0 a1 w0 w1
 refine(laws_FnExactHouseNew.calls k a0 a1 true w h).mono ?_
 rintro e w' ⟨rfl,hd⟩
 exact⟨rfl,hd⟩
end Go.Proofs.Ytjccnaklodbbfaa.Print
