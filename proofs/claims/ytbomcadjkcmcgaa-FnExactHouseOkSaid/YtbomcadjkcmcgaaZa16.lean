-- Written by squeeze.py, a program of this session, out of what print.sh and myprint.py had printed: cut to what is used, narrowed. Not trusted, Lean checks it.
import Derived.Test.YtbomcadjkcmcgaaZK
import Derived.Test.YtbomcadjkcmcgaaZa0
import Derived.Test.YtbomcadjkcmcgaaZa12
import Derived.Test.YtbomcadjkcmcgaaZa15
import Derived.Test.YtbomcadjkcmcgaaZa5
import Derived.Test.YtbomcadjkcmcgaaZa7
namespace Go.Proofs.Ytbomcadjkcmcgaa.Print
open Go.RowKit Go.Proofs.YtbomcadjkcmcgaaW.PrintWords Go.Proofs.YtbomcadjkcmcgaaW.PrintLast Go.Proofs.YtbomcadjkcmcgaaW.PrintMore
attribute [local go_sem] max2_int min2_int max_two min_two max_three min_three max_four min_four
set_option linter.unusedVariables false
set_option linter.unusedSimpArgs false
def laws_FnExactHouseOk.f (k:Nat) (a0_0:Int) (a0_1:Bool) (a0_2:Int) (l0_3:List (S75)) (a0_4:Int):Option (Bool):=(laws_szHouse.f k a0_0 a0_1 a0_2 l0_3 a0_4 1048576).bind fun t292=>(if t292<0 then(some true) else((laws_toHouse.f k a0_0 a0_1 a0_2 l0_3 a0_4).bind fun bt293=>((spec_HouseOk.f k bt293.1 bt293.2.1 bt293.2.2.1 bt293.2.2.2.1 bt293.2.2.2.2).bind fun t300=>((laws_toHouse.f k a0_0 a0_1 a0_2 l0_3 a0_4).bind fun bt301=>((impl_HouseOk.f k bt301.1 bt301.2.1 bt301.2.2.1 bt301.2.2.2.1 bt301.2.2.2.2).bind fun t309=>(if(t309 != t300)=true then(some false) else((laws_toHouse.f k a0_0 a0_1 a0_2 l0_3 a0_4).bind fun bt310=>((laws_eqHouse.f k bt301.1 bt301.2.1 bt301.2.2.1 bt301.2.2.2.1 bt301.2.2.2.2 bt310.1 bt310.2.1 bt310.2.2.1 bt310.2.2.2.1 bt310.2.2.2.2).bind fun t317=>(if t317=true then(some true) else(some false))))))))))
theorem laws_FnExactHouseOk.mono:∀a0 a1 a2 a3 a4 k,LeO (laws_FnExactHouseOk.f k a0 a1 a2 a3 a4) (laws_FnExactHouseOk.f (k+1) a0 a1 a2 a3 a4):=by
 intro a0 a1 a2 a3 a4 k
 unfold laws_FnExactHouseOk.f
 repeat' first
   |(with_reducible exact impl_HouseOk.mono _ _ _ _ _ _)
   |(with_reducible exact laws_eqHouse.mono _ _ _ _ _ _ _ _ _ _ _)
   |(with_reducible exact laws_szHouse.mono _ _ _ _ _ _ _)
   |(with_reducible exact laws_toHouse.mono _ _ _ _ _ _)
   |(with_reducible exact spec_HouseOk.mono _ _ _ _ _ _)
   |(with_reducible exact LeO.refl _)
   |(with_reducible exact LeO.none _)
   |(with_reducible refine LeO.ite ?_ ?_)
   |(with_reducible refine LeO.bind ?_ (fun _=>?_))
   |exact impl_HouseOk.mono _ _ _ _ _ _
   |exact laws_eqHouse.mono _ _ _ _ _ _ _ _ _ _ _
   |exact laws_szHouse.mono _ _ _ _ _ _ _
   |exact laws_toHouse.mono _ _ _ _ _ _
   |exact spec_HouseOk.mono _ _ _ _ _ _
   |exact LeO.none _
   |refine LeO.ite ?_ ?_
   |refine LeO.bind ?_ (fun _=>?_)
set_option maxHeartbeats 8000000 in
set_option maxRecDepth 100000 in
theorem laws_FnExactHouseOk.calls (k:Nat) (a0_0:Int) (a0_1:Bool) (a0_2:Int) (A0_3:Option Addr) (c0_3:Nat) (l0_3:List (S75)) (a0_4:Int) (r:Bool) (w:World) (hr0_3:Kd.C k75 w A0_3 l0_3.length l0_3) (hc0_3:l0_3.length≤c0_3) (h:laws_FnExactHouseOk.f k a0_0 a0_1 a0_2 l0_3 a0_4=some r) :
  Calls Try.prog 3 #[.agg #[.int .i64 a0_0,.bool a0_1,.int .i64 a0_2,.slice A0_3 l0_3.length c0_3,.int .i64 a0_4]] w fun e w'=>e=.returned (.bool r)∧Below w.heap.size w w':=by
 have hu26:=Try.underlying26
 have hu33:=Try.underlying33
 have HR0_3:=qam.mk hr0_3
 have HC0_3:=qam.mk hc0_3
 clear hr0_3 hc0_3
 have HB:=qam.mk (Below.refl w.heap.size w)
 have H:((laws_szHouse.f k a0_0 a0_1 a0_2 l0_3 a0_4 1048576).bind fun t292=>(if t292<0 then(some true) else((laws_toHouse.f k a0_0 a0_1 a0_2 l0_3 a0_4).bind fun bt293=>((spec_HouseOk.f k bt293.1 bt293.2.1 bt293.2.2.1 bt293.2.2.2.1 bt293.2.2.2.2).bind fun t300=>((laws_toHouse.f k a0_0 a0_1 a0_2 l0_3 a0_4).bind fun bt301=>((impl_HouseOk.f k bt301.1 bt301.2.1 bt301.2.2.1 bt301.2.2.2.1 bt301.2.2.2.2).bind fun t309=>(if(t309 != t300)=true then(some false) else((laws_toHouse.f k a0_0 a0_1 a0_2 l0_3 a0_4).bind fun bt310=>((laws_eqHouse.f k bt301.1 bt301.2.1 bt301.2.2.1 bt301.2.2.2.1 bt301.2.2.2.2 bt310.1 bt310.2.1 bt310.2.2.1 bt310.2.2.2.1 bt310.2.2.2.2).bind fun t317=>(if t317=true then(some true) else(some false)))))))))))=some r:=h
 clear h
 replace H:=Option.bind_eq_some_iff.mp H
 obtain⟨t292,A20,H⟩:=H
 replace H:(if t292<0 then(some true) else((laws_toHouse.f k a0_0 a0_1 a0_2 l0_3 a0_4).bind fun bt293=>((spec_HouseOk.f k bt293.1 bt293.2.1 bt293.2.2.1 bt293.2.2.2.1 bt293.2.2.2.2).bind fun t300=>((laws_toHouse.f k a0_0 a0_1 a0_2 l0_3 a0_4).bind fun bt301=>((impl_HouseOk.f k bt301.1 bt301.2.1 bt301.2.2.1 bt301.2.2.2.1 bt301.2.2.2.2).bind fun t309=>(if(t309 != t300)=true then(some false) else((laws_toHouse.f k a0_0 a0_1 a0_2 l0_3 a0_4).bind fun bt310=>((laws_eqHouse.f k bt301.1 bt301.2.1 bt301.2.2.1 bt301.2.2.2.1 bt301.2.2.2.2 bt310.1 bt310.2.1 bt310.2.2.1 bt310.2.2.2.1 bt310.2.2.2.2).bind fun t317=>(if t317=true then(some true) else(some false))))))))))=some r:=H
 have A2:=qam.mk A20
 clear A20
 by_cases c3:t292<0
 ·rw[if_pos c3] at H
  have c3b0:decide (t292<0)=true:=decide_eq_true c3
  clear c3
  obtain rfl:=Option.some.inj H
  go_enter Try.func3,Try.ntmps3
  go_wp2_with(first|((with_reducible refine qak (N:=1) rfl ?_);refine qai ?hg (N:=1) ?hd (cs:=#[.int .i64 a0_0,.bool a0_1,.int .i64 a0_2,.slice A0_3 l0_3.length c0_3,.int .i64 a0_4]) (t:=26) ?hr ?_;(case hd=>rfl);(case hg=>rfl);(case hr=>first|(go_simp;done)|(go_simp;rfl));intro gb291 hg w4 hbox hb;have n0_:=qam.mk (qad (za2 HB) hb);have n1_:=qam.mk (hbox);have n2_:=qam.mk ((by rw[hg];exact(qac (za2 HB)):w.heap.size≤gb291));have n3_:=qam.mk ((by rw[hg];exact(qac (za2 HB)):w.heap.size≤gb291));clear HB;have HB:=n0_;have BK291:=n1_;have GW291:=n2_;have GE291:=n3_;clear n0_ n1_ n2_ n3_;clear hb hbox hg;have hcz5_0:w4.cell? ⟨gb291,0,none⟩=some (.int .i64 a0_0):=(qab BK291.out 0).trans rfl;have hcz5_1:w4.cell? ⟨gb291,1,none⟩=some (.bool a0_1):=(qab BK291.out 1).trans rfl;have hcz5_2:w4.cell? ⟨gb291,2,none⟩=some (.int .i64 a0_2):=(qab BK291.out 2).trans rfl;have hcz5_3:w4.cell? ⟨gb291,3,none⟩=some (.slice A0_3 l0_3.length c0_3):=(qab BK291.out 3).trans rfl;have hcz5_4:w4.cell? ⟨gb291,4,none⟩=some (.int .i64 a0_4):=(qab BK291.out 4).trans rfl;have hfz5_0:=qaa BK291.out 0;have hfz5_1:=qaa BK291.out 1;have hfz5_2:=qaa BK291.out 2;have hfz5_3:=qaa BK291.out 3;have hfz5_4:=qaa BK291.out 4)|((with_reducible refine qaj (f:=5) rfl ?_);refine goesL_ (some 9) rfl rfl Try.func5 (by kernel_rfl) rfl #[.agg #[.int .i64 a0_0,.bool a0_1,.int .i64 a0_2,.slice A0_3 l0_3.length c0_3,.int .i64 a0_4],.int .i64 1048576] rfl (by(try simp only[List.map_toArray,List.map_cons,List.map_nil]);first|done|rfl|(simp only[List.length_drop,List.length_take];rfl)) ?_;(with_reducible refine(laws_szHouse.calls k a0_0 a0_1 a0_2 _ _ l0_3 a0_4 1048576 t292 _ ?side1 ?side2 A2.out).mono ?_);(case side1=>repeat(first|exact(Kd.C_below HR0_3.out HB.out)|(with_reducible refine Kd.C_alloc ?_ _)|(with_reducible refine Kd.C_drewN ?_ _)|(with_reducible refine Kd.C_drew ?_)));(case side2=>exact HC0_3.out);rintro e w6 ⟨rfl,hb⟩;refine⟨_,rfl,?_⟩;have n0_:=qam.mk (qae (g:=gb291) (o:=.cells #[.int .i64 a0_0,.bool a0_1,.int .i64 a0_2,.slice A0_3 l0_3.length c0_3,.int .i64 a0_4] 26 (0,0)) (za0 BK291) hb);have n1_:=qam.mk (qad (za1 HB GE291) hb);clear BK291;clear HB;have BK291:=n0_;have HB:=n1_;clear n0_ n1_;(try clear hb);(try clear hb2);(try clear hk);(try clear hi)))
  go_ret
  exact⟨za8,za1 HB GE291⟩
 ·rw[if_neg c3] at H
  have c3b0:decide (t292<0)=false:=decide_eq_false c3
  clear c3
  replace H:=Option.bind_eq_some_iff.mp H
  obtain⟨⟨t293,t294,t295,t296,t299⟩,A70,H⟩:=H
  replace H:((spec_HouseOk.f k t293 t294 t295 t296 t299).bind fun t300=>((laws_toHouse.f k a0_0 a0_1 a0_2 l0_3 a0_4).bind fun bt301=>((impl_HouseOk.f k bt301.1 bt301.2.1 bt301.2.2.1 bt301.2.2.2.1 bt301.2.2.2.2).bind fun t309=>(if(t309 != t300)=true then(some false) else((laws_toHouse.f k a0_0 a0_1 a0_2 l0_3 a0_4).bind fun bt310=>((laws_eqHouse.f k bt301.1 bt301.2.1 bt301.2.2.1 bt301.2.2.2.1 bt301.2.2.2.2 bt310.1 bt310.2.1 bt310.2.2.1 bt310.2.2.2.1 bt310.2.2.2.2).bind fun t317=>(if t317=true then(some true) else(some false))))))))=some r:=H
  have A7:=qam.mk A70
  clear A70
  replace H:=Option.bind_eq_some_iff.mp H
  obtain⟨t300,A80,H⟩:=H
  replace H:((laws_toHouse.f k a0_0 a0_1 a0_2 l0_3 a0_4).bind fun bt301=>((impl_HouseOk.f k bt301.1 bt301.2.1 bt301.2.2.1 bt301.2.2.2.1 bt301.2.2.2.2).bind fun t309=>(if(t309 != t300)=true then(some false) else((laws_toHouse.f k a0_0 a0_1 a0_2 l0_3 a0_4).bind fun bt310=>((laws_eqHouse.f k bt301.1 bt301.2.1 bt301.2.2.1 bt301.2.2.2.1 bt301.2.2.2.2 bt310.1 bt310.2.1 bt310.2.2.1 bt310.2.2.2.1 bt310.2.2.2.2).bind fun t317=>(if t317=true then(some true) else(some false)))))))=some r:=H
  have A8:=qam.mk A80
  clear A80
  replace H:=Option.bind_eq_some_iff.mp H
  obtain⟨⟨t301,t302,t303,t304,t307⟩,A90,H⟩:=H
  replace H:((impl_HouseOk.f k t301 t302 t303 t304 t307).bind fun t309=>(if(t309 != t300)=true then(some false) else((laws_toHouse.f k a0_0 a0_1 a0_2 l0_3 a0_4).bind fun bt310=>((laws_eqHouse.f k t301 t302 t303 t304 t307 bt310.1 bt310.2.1 bt310.2.2.1 bt310.2.2.2.1 bt310.2.2.2.2).bind fun t317=>(if t317=true then(some true) else(some false))))))=some r:=H
  have A9:=qam.mk A90
  clear A90
  replace H:=Option.bind_eq_some_iff.mp H
  obtain⟨t309,A100,H⟩:=H
  replace H:(if(t309 != t300)=true then(some false) else((laws_toHouse.f k a0_0 a0_1 a0_2 l0_3 a0_4).bind fun bt310=>((laws_eqHouse.f k t301 t302 t303 t304 t307 bt310.1 bt310.2.1 bt310.2.2.1 bt310.2.2.2.1 bt310.2.2.2.2).bind fun t317=>(if t317=true then(some true) else(some false)))))=some r:=H
  have A10:=qam.mk A100
  clear A100
  by_cases c11:(t309 != t300)=true
  ·rw[if_pos c11] at H
   have c11b0:(t309 != t300)=true:=c11
   (try(have c11b1:decide (t309=t300)=false:=by simpa using c11))
   (try(have c11b2:(t309 == t300)=false:=by simpa using c11))
   (try(have c11b3:¬(t309=t300):=by simpa using c11))
   clear c11
   obtain rfl:=Option.some.inj H
   go_enter Try.func3,Try.ntmps3
   go_wp2_with(first|((with_reducible refine qak (N:=1) rfl ?_);refine qai ?hg (N:=1) ?hd (cs:=#[.int .i64 a0_0,.bool a0_1,.int .i64 a0_2,.slice A0_3 l0_3.length c0_3,.int .i64 a0_4]) (t:=26) ?hr ?_;(case hd=>rfl);(case hg=>rfl);(case hr=>first|(go_simp;done)|(go_simp;rfl));intro gb291 hg w12 hbox hb;have n0_:=qam.mk (qad (za2 HB) hb);have n1_:=qam.mk (hbox);have n2_:=qam.mk ((by rw[hg];exact(qac (za2 HB)):w.heap.size≤gb291));have n3_:=qam.mk ((by rw[hg];exact(qac (za2 HB)):w.heap.size≤gb291));clear HB;have HB:=n0_;have BK291:=n1_;have GW291:=n2_;have GE291:=n3_;clear n0_ n1_ n2_ n3_;clear hb hbox hg;have hcz13_0:w12.cell? ⟨gb291,0,none⟩=some (.int .i64 a0_0):=(qab BK291.out 0).trans rfl;have hcz13_1:w12.cell? ⟨gb291,1,none⟩=some (.bool a0_1):=(qab BK291.out 1).trans rfl;have hcz13_2:w12.cell? ⟨gb291,2,none⟩=some (.int .i64 a0_2):=(qab BK291.out 2).trans rfl;have hcz13_3:w12.cell? ⟨gb291,3,none⟩=some (.slice A0_3 l0_3.length c0_3):=(qab BK291.out 3).trans rfl;have hcz13_4:w12.cell? ⟨gb291,4,none⟩=some (.int .i64 a0_4):=(qab BK291.out 4).trans rfl;have hfz13_0:=qaa BK291.out 0;have hfz13_1:=qaa BK291.out 1;have hfz13_2:=qaa BK291.out 2;have hfz13_3:=qaa BK291.out 3;have hfz13_4:=qaa BK291.out 4)|((with_reducible refine qaj (f:=5) rfl ?_);refine goesL_ (some 9) rfl rfl Try.func5 (by kernel_rfl) rfl #[.agg #[.int .i64 a0_0,.bool a0_1,.int .i64 a0_2,.slice A0_3 l0_3.length c0_3,.int .i64 a0_4],.int .i64 1048576] rfl (by(try simp only[List.map_toArray,List.map_cons,List.map_nil]);first|done|rfl|(simp only[List.length_drop,List.length_take];rfl)) ?_;(with_reducible refine(laws_szHouse.calls k a0_0 a0_1 a0_2 _ _ l0_3 a0_4 1048576 t292 _ ?side1 ?side2 A2.out).mono ?_);(case side1=>repeat(first|exact(Kd.C_below HR0_3.out HB.out)|(with_reducible refine Kd.C_alloc ?_ _)|(with_reducible refine Kd.C_drewN ?_ _)|(with_reducible refine Kd.C_drew ?_)));(case side2=>exact HC0_3.out);rintro e w14 ⟨rfl,hb⟩;refine⟨_,rfl,?_⟩;have n0_:=qam.mk (qae (g:=gb291) (o:=.cells #[.int .i64 a0_0,.bool a0_1,.int .i64 a0_2,.slice A0_3 l0_3.length c0_3,.int .i64 a0_4] 26 (0,0)) (za0 BK291) hb);have n1_:=qam.mk (qad (za1 HB GE291) hb);clear BK291;clear HB;have BK291:=n0_;have HB:=n1_;clear n0_ n1_;(try clear hb);(try clear hb2);(try clear hk);(try clear hi);have hcz15_0:w14.cell? ⟨gb291,0,none⟩=some (.int .i64 a0_0):=(qab BK291.out 0).trans rfl;have hcz15_1:w14.cell? ⟨gb291,1,none⟩=some (.bool a0_1):=(qab BK291.out 1).trans rfl;have hcz15_2:w14.cell? ⟨gb291,2,none⟩=some (.int .i64 a0_2):=(qab BK291.out 2).trans rfl;have hcz15_3:w14.cell? ⟨gb291,3,none⟩=some (.slice A0_3 l0_3.length c0_3):=(qab BK291.out 3).trans rfl;have hcz15_4:w14.cell? ⟨gb291,4,none⟩=some (.int .i64 a0_4):=(qab BK291.out 4).trans rfl;have hfz15_0:=qaa BK291.out 0;have hfz15_1:=qaa BK291.out 1;have hfz15_2:=qaa BK291.out 2;have hfz15_3:=qaa BK291.out 3;have hfz15_4:=qaa BK291.out 4)|((with_reducible refine qaj (f:=7) rfl ?_);refine goesL_ (some 13) rfl rfl Try.func7 (by kernel_rfl) rfl #[.agg #[.int .i64 a0_0,.bool a0_1,.int .i64 a0_2,.slice A0_3 l0_3.length c0_3,.int .i64 a0_4]] rfl (by(try simp only[List.map_toArray,List.map_cons,List.map_nil]);first|done|rfl|(simp only[List.length_drop,List.length_take];rfl)) ?_;(with_reducible refine(laws_toHouse.calls k a0_0 a0_1 a0_2 _ _ l0_3 a0_4 t293 t294 t295 t296 t299 _ ?side1 ?side2 A7.out).mono ?_);(case side1=>repeat(first|exact(Kd.C_below HR0_3.out HB.out)|(with_reducible refine Kd.C_alloc ?_ _)|(with_reducible refine Kd.C_drewN ?_ _)|(with_reducible refine Kd.C_drew ?_)));(case side2=>exact HC0_3.out);rintro e w16 ⟨v297,rfl,ho0,hb⟩;refine⟨_,rfl,?_⟩;have n0_:=qam.mk (Kd.S_lower ho0 (qac (za1 HB GE291)));have n1_:=qam.mk (qae (g:=gb291) (o:=.cells #[.int .i64 a0_0,.bool a0_1,.int .i64 a0_2,.slice A0_3 l0_3.length c0_3,.int .i64 a0_4] 26 (0,0)) (za0 BK291) hb);have n2_:=qam.mk (qad (za1 HB GE291) hb);clear BK291;clear HB;have HO298:=n0_;have BK291:=n1_;have HB:=n2_;clear n0_ n1_ n2_;(try clear hb);(try clear hb2);(try clear hk);(try clear hi);(try clear ho0);obtain⟨Ao17,co17,eo17⟩:=Kd.S_slice HO298.out;subst eo17)|((with_reducible refine qaj (f:=6) rfl ?_);refine goesL_ (some 14) rfl rfl Try.func6 (by kernel_rfl) rfl #[.agg #[.int .i64 t293,.bool t294,.int .i64 t295,.slice Ao17 t296.length co17,.int .i64 t299]] rfl (by(try simp only[List.map_toArray,List.map_cons,List.map_nil]);first|done|rfl|(simp only[List.length_drop,List.length_take];rfl)) ?_;(with_reducible refine(spec_HouseOk.calls k t293 t294 t295 _ _ t296 t299 t300 _ ?side1 ?side2 A8.out).mono ?_);(case side1=>repeat(first|exact(Kd.S_reads' HO298.out).2.2|(with_reducible refine Kd.C_alloc ?_ _)|(with_reducible refine Kd.C_drewN ?_ _)|(with_reducible refine Kd.C_drew ?_)));(case side2=>exact(Kd.S_reads' HO298.out).2.1);rintro e w18 ⟨rfl,hb⟩;refine⟨_,rfl,?_⟩;have n0_:=qam.mk (Kd.S_below (za10 HO298) hb);have n1_:=qam.mk (qae (g:=gb291) (o:=.cells #[.int .i64 a0_0,.bool a0_1,.int .i64 a0_2,.slice A0_3 l0_3.length c0_3,.int .i64 a0_4] 26 (0,0)) (za0 BK291) hb);have n2_:=qam.mk (qad (za1 HB GE291) hb);clear HO298;clear BK291;clear HB;have HO298:=n0_;have BK291:=n1_;have HB:=n2_;clear n0_ n1_ n2_;(try clear hb);(try clear hb2);(try clear hk);(try clear hi);have hcz19_0:w18.cell? ⟨gb291,0,none⟩=some (.int .i64 a0_0):=(qab BK291.out 0).trans rfl;have hcz19_1:w18.cell? ⟨gb291,1,none⟩=some (.bool a0_1):=(qab BK291.out 1).trans rfl;have hcz19_2:w18.cell? ⟨gb291,2,none⟩=some (.int .i64 a0_2):=(qab BK291.out 2).trans rfl;have hcz19_3:w18.cell? ⟨gb291,3,none⟩=some (.slice A0_3 l0_3.length c0_3):=(qab BK291.out 3).trans rfl;have hcz19_4:w18.cell? ⟨gb291,4,none⟩=some (.int .i64 a0_4):=(qab BK291.out 4).trans rfl;have hfz19_0:=qaa BK291.out 0;have hfz19_1:=qaa BK291.out 1;have hfz19_2:=qaa BK291.out 2;have hfz19_3:=qaa BK291.out 3;have hfz19_4:=qaa BK291.out 4)|((with_reducible refine qaj (f:=7) rfl ?_);refine goesL_ (some 16) rfl rfl Try.func7 (by kernel_rfl) rfl #[.agg #[.int .i64 a0_0,.bool a0_1,.int .i64 a0_2,.slice A0_3 l0_3.length c0_3,.int .i64 a0_4]] rfl (by(try simp only[List.map_toArray,List.map_cons,List.map_nil]);first|done|rfl|(simp only[List.length_drop,List.length_take];rfl)) ?_;(with_reducible refine(laws_toHouse.calls k a0_0 a0_1 a0_2 _ _ l0_3 a0_4 t301 t302 t303 t304 t307 _ ?side1 ?side2 A9.out).mono ?_);(case side1=>repeat(first|exact(Kd.C_below HR0_3.out HB.out)|(with_reducible refine Kd.C_alloc ?_ _)|(with_reducible refine Kd.C_drewN ?_ _)|(with_reducible refine Kd.C_drew ?_)));(case side2=>exact HC0_3.out);rintro e w20 ⟨v305,rfl,ho0,hb⟩;refine⟨_,rfl,?_⟩;have n0_:=qam.mk (Kd.S_elder' (za10 HO298) (Kd.S_base ho0) hb);have n1_:=qam.mk (Kd.S_lower (Kd.S_new' ho0 (Kd.S_lt (za10 HO298))) (qac (za1 HB GE291)));have n2_:=qam.mk (qae (g:=gb291) (o:=.cells #[.int .i64 a0_0,.bool a0_1,.int .i64 a0_2,.slice A0_3 l0_3.length c0_3,.int .i64 a0_4] 26 (0,0)) (za0 BK291) hb);have n3_:=qam.mk (qad (za1 HB GE291) hb);clear HO298;clear BK291;clear HB;have HO298:=n0_;have HO306:=n1_;have BK291:=n2_;have HB:=n3_;clear n0_ n1_ n2_ n3_;(try clear hb);(try clear hb2);(try clear hk);(try clear hi);(try clear ho0))|((with_reducible refine qak (N:=5) rfl ?_);refine qai ?hg (N:=5) ?hd (cs:=#[.int .i64 0,.bool false,.int .i64 0,.slice none 0 0,.int .i64 0]) (t:=33) ?hr ?_;(case hd=>rfl);(case hg=>rfl);(case hr=>first|(go_simp;done)|(go_simp;rfl));intro gb308 hg w21 hbox hb;have n0_:=qam.mk (Kd.S_below (za10 HO298) hb);have n1_:=qam.mk (Kd.S_below (za10 HO306) hb);have n2_:=qam.mk (qae (g:=gb291) (o:=.cells #[.int .i64 a0_0,.bool a0_1,.int .i64 a0_2,.slice A0_3 l0_3.length c0_3,.int .i64 a0_4] 26 (0,0)) (za0 BK291) hb);have n3_:=qam.mk (qad (za1 HB GE291) hb);have n4_:=qam.mk (hbox);have n5_:=qam.mk ((by rw[hg];exact(qac (za1 HB GE291)):w.heap.size≤gb308));have n6_:=qam.mk ((by rw[hg];exact(qac (za1 HB GE291)):w.heap.size≤gb308));have n7_:=qam.mk ((by rw[hg];exact Nat.ne_of_lt (qal (g:=gb291) (o:=.cells #[.int .i64 a0_0,.bool a0_1,.int .i64 a0_2,.slice A0_3 l0_3.length c0_3,.int .i64 a0_4] 26 (0,0)) (za0 BK291)):gb291≠gb308));have n8_:=qam.mk ((by rw[hg];exact Nat.ne_of_gt (qal (g:=gb291) (o:=.cells #[.int .i64 a0_0,.bool a0_1,.int .i64 a0_2,.slice A0_3 l0_3.length c0_3,.int .i64 a0_4] 26 (0,0)) (za0 BK291)):gb308≠gb291));clear HO298;clear HO306;clear BK291;clear HB;have HO298:=n0_;have HO306:=n1_;have BK291:=n2_;have HB:=n3_;have BK308:=n4_;have GW308:=n5_;have GE308:=n6_;have NB291_308:=n7_;have NB308_291:=n8_;clear n0_ n1_ n2_ n3_ n4_ n5_ n6_ n7_ n8_;clear hb hbox hg;have hnb22:=NB308_291.out;have hnc22:=NB291_308.out;have hcz23_0:w21.cell? ⟨gb308,0,none⟩=some (.int .i64 0):=(qab BK308.out 0).trans rfl;have hcz23_1:w21.cell? ⟨gb308,1,none⟩=some (.bool false):=(qab BK308.out 1).trans rfl;have hcz23_2:w21.cell? ⟨gb308,2,none⟩=some (.int .i64 0):=(qab BK308.out 2).trans rfl;have hcz23_3:w21.cell? ⟨gb308,3,none⟩=some (.slice none 0 0):=(qab BK308.out 3).trans rfl;have hcz23_4:w21.cell? ⟨gb308,4,none⟩=some (.int .i64 0):=(qab BK308.out 4).trans rfl;have hfz23_0:=qaa BK308.out 0;have hfz23_1:=qaa BK308.out 1;have hfz23_2:=qaa BK308.out 2;have hfz23_3:=qaa BK308.out 3;have hfz23_4:=qaa BK308.out 4;obtain⟨Ao24,co24,eo24⟩:=Kd.S_slice HO306.out;subst eo24)|((with_reducible refine qaj (f:=8) rfl ?_);refine goesL_ (some 18) rfl rfl Try.func8 (by kernel_rfl) rfl #[.agg #[.int .i64 t301,.bool t302,.int .i64 t303,.slice Ao24 t304.length co24,.int .i64 t307]] rfl (by(try simp only[List.map_toArray,List.map_cons,List.map_nil]);first|done|rfl|(simp only[List.length_drop,List.length_take];rfl)) ?_;(with_reducible refine(impl_HouseOk.calls k t301 t302 t303 _ _ t304 t307 t309 _ ?side1 ?side2 A10.out).mono ?_);(case side1=>refine(Kd.S_reads' (e:=62) (base:=w.heap.size) (ok:=fun k_=>(True∧some k_≠(.slice Ao17 t296.length co17:Value).ownBlock)) (n:=t304.length) (c:=co24) ?_).2.2;exact(by(with_reducible repeat(first|apply Kd.S_alloc|apply Kd.S_drewN|apply Kd.S_drew));exact(Kd.S_mono (Kd.S_far (p:=⟨gb308,4,none⟩) (Kd.S_far (p:=⟨gb308,3,none⟩) (Kd.S_far (p:=⟨gb308,2,none⟩) (Kd.S_far (p:=⟨gb308,1,none⟩) (Kd.S_far (p:=⟨gb308,0,none⟩) (Kd.S_types HO306.out BK308.out (by decide)) (fun _ hk=>hk.2) (.int .i64 t301)) (fun _ hk=>hk.2) (.bool t302)) (fun _ hk=>hk.2) (.int .i64 t303)) (fun _ hk=>hk.2) (.slice Ao24 t304.length co24)) (fun _ hk=>hk.2) (.int .i64 t307)) (fun _ h_=>h_.1))));(case side2=>exact(Kd.S_reads' HO306.out).2.1);rintro e w25 ⟨rfl,hb⟩;refine⟨_,rfl,?_⟩;have n0_:=qam.mk (Kd.S_below (by(with_reducible repeat(first|apply Kd.S_alloc|apply Kd.S_drewN|apply Kd.S_drew));exact(Kd.S_mono (Kd.S_far (p:=⟨gb308,4,none⟩) (Kd.S_far (p:=⟨gb308,3,none⟩) (Kd.S_far (p:=⟨gb308,2,none⟩) (Kd.S_far (p:=⟨gb308,1,none⟩) (Kd.S_far (p:=⟨gb308,0,none⟩) (Kd.S_types HO298.out BK308.out (by decide)) (fun _ hk=>hk.2) (.int .i64 t301)) (fun _ hk=>hk.2) (.bool t302)) (fun _ hk=>hk.2) (.int .i64 t303)) (fun _ hk=>hk.2) (.slice Ao24 t304.length co24)) (fun _ hk=>hk.2) (.int .i64 t307)) (fun _ h_=>h_.1))) hb);have n1_:=qam.mk (Kd.S_below (by(with_reducible repeat(first|apply Kd.S_alloc|apply Kd.S_drewN|apply Kd.S_drew));exact(Kd.S_mono (Kd.S_far (p:=⟨gb308,4,none⟩) (Kd.S_far (p:=⟨gb308,3,none⟩) (Kd.S_far (p:=⟨gb308,2,none⟩) (Kd.S_far (p:=⟨gb308,1,none⟩) (Kd.S_far (p:=⟨gb308,0,none⟩) (Kd.S_types HO306.out BK308.out (by decide)) (fun _ hk=>hk.2) (.int .i64 t301)) (fun _ hk=>hk.2) (.bool t302)) (fun _ hk=>hk.2) (.int .i64 t303)) (fun _ hk=>hk.2) (.slice Ao24 t304.length co24)) (fun _ hk=>hk.2) (.int .i64 t307)) (fun _ h_=>h_.1))) hb);have n2_:=qam.mk (qae (g:=gb291) (o:=.cells #[.int .i64 a0_0,.bool a0_1,.int .i64 a0_2,.slice A0_3 l0_3.length c0_3,.int .i64 a0_4] 26 (0,0)) (za12 NB291_308 BK291) hb);have n3_:=qam.mk (qae (g:=gb308) (o:=.cells #[.int .i64 t301,.bool t302,.int .i64 t303,.slice Ao24 t304.length co24,.int .i64 t307] 33 (0,0)) (by(with_reducible repeat(first|refine qah ?_ _|refine qaf ?_|refine qag ?_ _));refine qan (cs:=#[.int .i64 t301,.bool t302,.int .i64 t303,.slice Ao24 t304.length co24,.int .i64 0]) ?_ 4 _ rfl;(with_reducible repeat(first|refine qah ?_ _|refine qaf ?_|refine qag ?_ _));refine qan (cs:=#[.int .i64 t301,.bool t302,.int .i64 t303,.slice none 0 0,.int .i64 0]) ?_ 3 _ rfl;(with_reducible repeat(first|refine qah ?_ _|refine qaf ?_|refine qag ?_ _));refine qan (cs:=#[.int .i64 t301,.bool t302,.int .i64 0,.slice none 0 0,.int .i64 0]) ?_ 2 _ rfl;(with_reducible repeat(first|refine qah ?_ _|refine qaf ?_|refine qag ?_ _));refine qan (cs:=#[.int .i64 t301,.bool false,.int .i64 0,.slice none 0 0,.int .i64 0]) ?_ 1 _ rfl;(with_reducible repeat(first|refine qah ?_ _|refine qaf ?_|refine qag ?_ _));refine qan (cs:=#[.int .i64 0,.bool false,.int .i64 0,.slice none 0 0,.int .i64 0]) ?_ 0 _ rfl;(with_reducible repeat(first|refine qah ?_ _|refine qaf ?_|refine qag ?_ _));exact BK308.out) hb);have n4_:=qam.mk (qad (za3 HB GE291 GE308) hb);clear HO298;clear HO306;clear BK291;clear BK308;clear HB;have HO298:=n0_;have HO306:=n1_;have BK291:=n2_;have BK308:=n3_;have HB:=n4_;clear n0_ n1_ n2_ n3_ n4_;(try clear hb);(try clear hb2);(try clear hk);(try clear hi)))
   go_ret
   exact⟨za8,za3 HB GE291 GE308⟩
  ·rw[if_neg c11] at H
   have c11b0:(t309 != t300)=false:=by simpa using c11
   (try(have c11b1:decide (t309=t300)=true:=by simpa using c11))
   (try(have c11b2:(t309 == t300)=true:=by simpa using c11))
   clear c11
   replace H:=Option.bind_eq_some_iff.mp H
   obtain⟨⟨t310,t311,t312,t313,t316⟩,A260,H⟩:=H
   replace H:((laws_eqHouse.f k t301 t302 t303 t304 t307 t310 t311 t312 t313 t316).bind fun t317=>(if t317=true then(some true) else(some false)))=some r:=H
   have A26:=qam.mk A260
   clear A260
   replace H:=Option.bind_eq_some_iff.mp H
   obtain⟨t317,A270,H⟩:=H
   replace H:(if t317=true then(some true) else(some false))=some r:=H
   have A27:=qam.mk A270
   clear A270
   by_cases c28:t317=true
   ·subst c28
    have H1:(some true)=some r:=by rw[if_pos rfl] at H;exact H
    clear H
    have H:=H1
    clear H1
    obtain rfl:=Option.some.inj H
    go_enter Try.func3,Try.ntmps3
    try go_wp2_with(first|((with_reducible refine qak (N:=1) rfl ?_);refine qai ?hg (N:=1) ?hd (cs:=#[.int .i64 a0_0,.bool a0_1,.int .i64 a0_2,.slice A0_3 l0_3.length c0_3,.int .i64 a0_4]) (t:=26) ?hr ?_;(case hd=>rfl);(case hg=>rfl);(case hr=>first|(go_simp;done)|(go_simp;rfl));intro gb291 hg w29 hbox hb;have n0_:=qam.mk (qad (za2 HB) hb);have n1_:=qam.mk (hbox);have n2_:=qam.mk ((by rw[hg];exact(qac (za2 HB)):w.heap.size≤gb291));have n3_:=qam.mk ((by rw[hg];exact(qac (za2 HB)):w.heap.size≤gb291));clear HB;have HB:=n0_;have BK291:=n1_;have GW291:=n2_;have GE291:=n3_;clear n0_ n1_ n2_ n3_;clear hb hbox hg;have hcz30_0:w29.cell? ⟨gb291,0,none⟩=some (.int .i64 a0_0):=(qab BK291.out 0).trans rfl;have hcz30_1:w29.cell? ⟨gb291,1,none⟩=some (.bool a0_1):=(qab BK291.out 1).trans rfl;have hcz30_2:w29.cell? ⟨gb291,2,none⟩=some (.int .i64 a0_2):=(qab BK291.out 2).trans rfl;have hcz30_3:w29.cell? ⟨gb291,3,none⟩=some (.slice A0_3 l0_3.length c0_3):=(qab BK291.out 3).trans rfl;have hcz30_4:w29.cell? ⟨gb291,4,none⟩=some (.int .i64 a0_4):=(qab BK291.out 4).trans rfl;have hfz30_0:=qaa BK291.out 0;have hfz30_1:=qaa BK291.out 1;have hfz30_2:=qaa BK291.out 2;have hfz30_3:=qaa BK291.out 3;have hfz30_4:=qaa BK291.out 4)|((with_reducible refine qaj (f:=5) rfl ?_);refine goesL_ (some 9) rfl rfl Try.func5 (by kernel_rfl) rfl #[.agg #[.int .i64 a0_0,.bool a0_1,.int .i64 a0_2,.slice A0_3 l0_3.length c0_3,.int .i64 a0_4],.int .i64 1048576] rfl (by(try simp only[List.map_toArray,List.map_cons,List.map_nil]);first|done|rfl|(simp only[List.length_drop,List.length_take];rfl)) ?_;(with_reducible refine(laws_szHouse.calls k a0_0 a0_1 a0_2 _ _ l0_3 a0_4 1048576 t292 _ ?side1 ?side2 A2.out).mono ?_);(case side1=>repeat(first|exact(Kd.C_below HR0_3.out HB.out)|(with_reducible refine Kd.C_alloc ?_ _)|(with_reducible refine Kd.C_drewN ?_ _)|(with_reducible refine Kd.C_drew ?_)));(case side2=>exact HC0_3.out);rintro e w31 ⟨rfl,hb⟩;refine⟨_,rfl,?_⟩;have n0_:=qam.mk (qae (g:=gb291) (o:=.cells #[.int .i64 a0_0,.bool a0_1,.int .i64 a0_2,.slice A0_3 l0_3.length c0_3,.int .i64 a0_4] 26 (0,0)) (za0 BK291) hb);have n1_:=qam.mk (qad (za1 HB GE291) hb);clear BK291;clear HB;have BK291:=n0_;have HB:=n1_;clear n0_ n1_;(try clear hb);(try clear hb2);(try clear hk);(try clear hi);have hcz32_0:w31.cell? ⟨gb291,0,none⟩=some (.int .i64 a0_0):=(qab BK291.out 0).trans rfl;have hcz32_1:w31.cell? ⟨gb291,1,none⟩=some (.bool a0_1):=(qab BK291.out 1).trans rfl;have hcz32_2:w31.cell? ⟨gb291,2,none⟩=some (.int .i64 a0_2):=(qab BK291.out 2).trans rfl;have hcz32_3:w31.cell? ⟨gb291,3,none⟩=some (.slice A0_3 l0_3.length c0_3):=(qab BK291.out 3).trans rfl;have hcz32_4:w31.cell? ⟨gb291,4,none⟩=some (.int .i64 a0_4):=(qab BK291.out 4).trans rfl;have hfz32_0:=qaa BK291.out 0;have hfz32_1:=qaa BK291.out 1;have hfz32_2:=qaa BK291.out 2;have hfz32_3:=qaa BK291.out 3;have hfz32_4:=qaa BK291.out 4)|((with_reducible refine qaj (f:=7) rfl ?_);refine goesL_ (some 13) rfl rfl Try.func7 (by kernel_rfl) rfl #[.agg #[.int .i64 a0_0,.bool a0_1,.int .i64 a0_2,.slice A0_3 l0_3.length c0_3,.int .i64 a0_4]] rfl (by(try simp only[List.map_toArray,List.map_cons,List.map_nil]);first|done|rfl|(simp only[List.length_drop,List.length_take];rfl)) ?_;(with_reducible refine(laws_toHouse.calls k a0_0 a0_1 a0_2 _ _ l0_3 a0_4 t293 t294 t295 t296 t299 _ ?side1 ?side2 A7.out).mono ?_);(case side1=>repeat(first|exact(Kd.C_below HR0_3.out HB.out)|(with_reducible refine Kd.C_alloc ?_ _)|(with_reducible refine Kd.C_drewN ?_ _)|(with_reducible refine Kd.C_drew ?_)));(case side2=>exact HC0_3.out);rintro e w33 ⟨v297,rfl,ho0,hb⟩;refine⟨_,rfl,?_⟩;have n0_:=qam.mk (Kd.S_lower ho0 (qac (za1 HB GE291)));have n1_:=qam.mk (qae (g:=gb291) (o:=.cells #[.int .i64 a0_0,.bool a0_1,.int .i64 a0_2,.slice A0_3 l0_3.length c0_3,.int .i64 a0_4] 26 (0,0)) (za0 BK291) hb);have n2_:=qam.mk (qad (za1 HB GE291) hb);clear BK291;clear HB;have HO298:=n0_;have BK291:=n1_;have HB:=n2_;clear n0_ n1_ n2_;(try clear hb);(try clear hb2);(try clear hk);(try clear hi);(try clear ho0);obtain⟨Ao34,co34,eo34⟩:=Kd.S_slice HO298.out;subst eo34)|((with_reducible refine qaj (f:=6) rfl ?_);refine goesL_ (some 14) rfl rfl Try.func6 (by kernel_rfl) rfl #[.agg #[.int .i64 t293,.bool t294,.int .i64 t295,.slice Ao34 t296.length co34,.int .i64 t299]] rfl (by(try simp only[List.map_toArray,List.map_cons,List.map_nil]);first|done|rfl|(simp only[List.length_drop,List.length_take];rfl)) ?_;(with_reducible refine(spec_HouseOk.calls k t293 t294 t295 _ _ t296 t299 t300 _ ?side1 ?side2 A8.out).mono ?_);(case side1=>repeat(first|exact(Kd.S_reads' HO298.out).2.2|(with_reducible refine Kd.C_alloc ?_ _)|(with_reducible refine Kd.C_drewN ?_ _)|(with_reducible refine Kd.C_drew ?_)));(case side2=>exact(Kd.S_reads' HO298.out).2.1);rintro e w35 ⟨rfl,hb⟩;refine⟨_,rfl,?_⟩;have n0_:=qam.mk (Kd.S_below (za10 HO298) hb);have n1_:=qam.mk (qae (g:=gb291) (o:=.cells #[.int .i64 a0_0,.bool a0_1,.int .i64 a0_2,.slice A0_3 l0_3.length c0_3,.int .i64 a0_4] 26 (0,0)) (za0 BK291) hb);have n2_:=qam.mk (qad (za1 HB GE291) hb);clear HO298;clear BK291;clear HB;have HO298:=n0_;have BK291:=n1_;have HB:=n2_;clear n0_ n1_ n2_;(try clear hb);(try clear hb2);(try clear hk);(try clear hi);have hcz36_0:w35.cell? ⟨gb291,0,none⟩=some (.int .i64 a0_0):=(qab BK291.out 0).trans rfl;have hcz36_1:w35.cell? ⟨gb291,1,none⟩=some (.bool a0_1):=(qab BK291.out 1).trans rfl;have hcz36_2:w35.cell? ⟨gb291,2,none⟩=some (.int .i64 a0_2):=(qab BK291.out 2).trans rfl;have hcz36_3:w35.cell? ⟨gb291,3,none⟩=some (.slice A0_3 l0_3.length c0_3):=(qab BK291.out 3).trans rfl;have hcz36_4:w35.cell? ⟨gb291,4,none⟩=some (.int .i64 a0_4):=(qab BK291.out 4).trans rfl;have hfz36_0:=qaa BK291.out 0;have hfz36_1:=qaa BK291.out 1;have hfz36_2:=qaa BK291.out 2;have hfz36_3:=qaa BK291.out 3;have hfz36_4:=qaa BK291.out 4)|((with_reducible refine qaj (f:=7) rfl ?_);refine goesL_ (some 16) rfl rfl Try.func7 (by kernel_rfl) rfl #[.agg #[.int .i64 a0_0,.bool a0_1,.int .i64 a0_2,.slice A0_3 l0_3.length c0_3,.int .i64 a0_4]] rfl (by(try simp only[List.map_toArray,List.map_cons,List.map_nil]);first|done|rfl|(simp only[List.length_drop,List.length_take];rfl)) ?_;(with_reducible refine(laws_toHouse.calls k a0_0 a0_1 a0_2 _ _ l0_3 a0_4 t301 t302 t303 t304 t307 _ ?side1 ?side2 A9.out).mono ?_);(case side1=>repeat(first|exact(Kd.C_below HR0_3.out HB.out)|(with_reducible refine Kd.C_alloc ?_ _)|(with_reducible refine Kd.C_drewN ?_ _)|(with_reducible refine Kd.C_drew ?_)));(case side2=>exact HC0_3.out);rintro e w37 ⟨v305,rfl,ho0,hb⟩;refine⟨_,rfl,?_⟩;have n0_:=qam.mk (Kd.S_elder' (za10 HO298) (Kd.S_base ho0) hb);have n1_:=qam.mk (Kd.S_lower (Kd.S_new' ho0 (Kd.S_lt (za10 HO298))) (qac (za1 HB GE291)));have n2_:=qam.mk (qae (g:=gb291) (o:=.cells #[.int .i64 a0_0,.bool a0_1,.int .i64 a0_2,.slice A0_3 l0_3.length c0_3,.int .i64 a0_4] 26 (0,0)) (za0 BK291) hb);have n3_:=qam.mk (qad (za1 HB GE291) hb);clear HO298;clear BK291;clear HB;have HO298:=n0_;have HO306:=n1_;have BK291:=n2_;have HB:=n3_;clear n0_ n1_ n2_ n3_;(try clear hb);(try clear hb2);(try clear hk);(try clear hi);(try clear ho0))|((with_reducible refine qak (N:=5) rfl ?_);refine qai ?hg (N:=5) ?hd (cs:=#[.int .i64 0,.bool false,.int .i64 0,.slice none 0 0,.int .i64 0]) (t:=33) ?hr ?_;(case hd=>rfl);(case hg=>rfl);(case hr=>first|(go_simp;done)|(go_simp;rfl));intro gb308 hg w38 hbox hb;have n0_:=qam.mk (Kd.S_below (za10 HO298) hb);have n1_:=qam.mk (Kd.S_below (za10 HO306) hb);have n2_:=qam.mk (qae (g:=gb291) (o:=.cells #[.int .i64 a0_0,.bool a0_1,.int .i64 a0_2,.slice A0_3 l0_3.length c0_3,.int .i64 a0_4] 26 (0,0)) (za0 BK291) hb);have n3_:=qam.mk (qad (za1 HB GE291) hb);have n4_:=qam.mk (hbox);have n5_:=qam.mk ((by rw[hg];exact(qac (za1 HB GE291)):w.heap.size≤gb308));have n6_:=qam.mk ((by rw[hg];exact(qac (za1 HB GE291)):w.heap.size≤gb308));have n7_:=qam.mk ((by rw[hg];exact Nat.ne_of_lt (qal (g:=gb291) (o:=.cells #[.int .i64 a0_0,.bool a0_1,.int .i64 a0_2,.slice A0_3 l0_3.length c0_3,.int .i64 a0_4] 26 (0,0)) (za0 BK291)):gb291≠gb308));have n8_:=qam.mk ((by rw[hg];exact Nat.ne_of_gt (qal (g:=gb291) (o:=.cells #[.int .i64 a0_0,.bool a0_1,.int .i64 a0_2,.slice A0_3 l0_3.length c0_3,.int .i64 a0_4] 26 (0,0)) (za0 BK291)):gb308≠gb291));clear HO298;clear HO306;clear BK291;clear HB;have HO298:=n0_;have HO306:=n1_;have BK291:=n2_;have HB:=n3_;have BK308:=n4_;have GW308:=n5_;have GE308:=n6_;have NB291_308:=n7_;have NB308_291:=n8_;clear n0_ n1_ n2_ n3_ n4_ n5_ n6_ n7_ n8_;clear hb hbox hg;have hnb39:=NB308_291.out;have hnc39:=NB291_308.out;have hcz40_0:w38.cell? ⟨gb308,0,none⟩=some (.int .i64 0):=(qab BK308.out 0).trans rfl;have hcz40_1:w38.cell? ⟨gb308,1,none⟩=some (.bool false):=(qab BK308.out 1).trans rfl;have hcz40_2:w38.cell? ⟨gb308,2,none⟩=some (.int .i64 0):=(qab BK308.out 2).trans rfl;have hcz40_3:w38.cell? ⟨gb308,3,none⟩=some (.slice none 0 0):=(qab BK308.out 3).trans rfl;have hcz40_4:w38.cell? ⟨gb308,4,none⟩=some (.int .i64 0):=(qab BK308.out 4).trans rfl;have hfz40_0:=qaa BK308.out 0;have hfz40_1:=qaa BK308.out 1;have hfz40_2:=qaa BK308.out 2;have hfz40_3:=qaa BK308.out 3;have hfz40_4:=qaa BK308.out 4;obtain⟨Ao41,co41,eo41⟩:=Kd.S_slice HO306.out;subst eo41)|((with_reducible refine qaj (f:=8) rfl ?_);refine goesL_ (some 18) rfl rfl Try.func8 (by kernel_rfl) rfl #[.agg #[.int .i64 t301,.bool t302,.int .i64 t303,.slice Ao41 t304.length co41,.int .i64 t307]] rfl (by(try simp only[List.map_toArray,List.map_cons,List.map_nil]);first|done|rfl|(simp only[List.length_drop,List.length_take];rfl)) ?_;(with_reducible refine(impl_HouseOk.calls k t301 t302 t303 _ _ t304 t307 t309 _ ?side1 ?side2 A10.out).mono ?_);(case side1=>refine(Kd.S_reads' (e:=62) (base:=w.heap.size) (ok:=fun k_=>(True∧some k_≠(.slice Ao34 t296.length co34:Value).ownBlock)) (n:=t304.length) (c:=co41) ?_).2.2;exact(by(with_reducible repeat(first|apply Kd.S_alloc|apply Kd.S_drewN|apply Kd.S_drew));exact(Kd.S_mono (Kd.S_far (p:=⟨gb308,4,none⟩) (Kd.S_far (p:=⟨gb308,3,none⟩) (Kd.S_far (p:=⟨gb308,2,none⟩) (Kd.S_far (p:=⟨gb308,1,none⟩) (Kd.S_far (p:=⟨gb308,0,none⟩) (Kd.S_types HO306.out BK308.out (by decide)) (fun _ hk=>hk.2) (.int .i64 t301)) (fun _ hk=>hk.2) (.bool t302)) (fun _ hk=>hk.2) (.int .i64 t303)) (fun _ hk=>hk.2) (.slice Ao41 t304.length co41)) (fun _ hk=>hk.2) (.int .i64 t307)) (fun _ h_=>h_.1))));(case side2=>exact(Kd.S_reads' HO306.out).2.1);rintro e w42 ⟨rfl,hb⟩;refine⟨_,rfl,?_⟩;have n0_:=qam.mk (Kd.S_below (by(with_reducible repeat(first|apply Kd.S_alloc|apply Kd.S_drewN|apply Kd.S_drew));exact(Kd.S_mono (Kd.S_far (p:=⟨gb308,4,none⟩) (Kd.S_far (p:=⟨gb308,3,none⟩) (Kd.S_far (p:=⟨gb308,2,none⟩) (Kd.S_far (p:=⟨gb308,1,none⟩) (Kd.S_far (p:=⟨gb308,0,none⟩) (Kd.S_types HO298.out BK308.out (by decide)) (fun _ hk=>hk.2) (.int .i64 t301)) (fun _ hk=>hk.2) (.bool t302)) (fun _ hk=>hk.2) (.int .i64 t303)) (fun _ hk=>hk.2) (.slice Ao41 t304.length co41)) (fun _ hk=>hk.2) (.int .i64 t307)) (fun _ h_=>h_.1))) hb);have n1_:=qam.mk (Kd.S_below (by(with_reducible repeat(first|apply Kd.S_alloc|apply Kd.S_drewN|apply Kd.S_drew));exact(Kd.S_mono (Kd.S_far (p:=⟨gb308,4,none⟩) (Kd.S_far (p:=⟨gb308,3,none⟩) (Kd.S_far (p:=⟨gb308,2,none⟩) (Kd.S_far (p:=⟨gb308,1,none⟩) (Kd.S_far (p:=⟨gb308,0,none⟩) (Kd.S_types HO306.out BK308.out (by decide)) (fun _ hk=>hk.2) (.int .i64 t301)) (fun _ hk=>hk.2) (.bool t302)) (fun _ hk=>hk.2) (.int .i64 t303)) (fun _ hk=>hk.2) (.slice Ao41 t304.length co41)) (fun _ hk=>hk.2) (.int .i64 t307)) (fun _ h_=>h_.1))) hb);have n2_:=qam.mk (qae (g:=gb291) (o:=.cells #[.int .i64 a0_0,.bool a0_1,.int .i64 a0_2,.slice A0_3 l0_3.length c0_3,.int .i64 a0_4] 26 (0,0)) (za12 NB291_308 BK291) hb);have n3_:=qam.mk (qae (g:=gb308) (o:=.cells #[.int .i64 t301,.bool t302,.int .i64 t303,.slice Ao41 t304.length co41,.int .i64 t307] 33 (0,0)) (by(with_reducible repeat(first|refine qah ?_ _|refine qaf ?_|refine qag ?_ _));refine qan (cs:=#[.int .i64 t301,.bool t302,.int .i64 t303,.slice Ao41 t304.length co41,.int .i64 0]) ?_ 4 _ rfl;(with_reducible repeat(first|refine qah ?_ _|refine qaf ?_|refine qag ?_ _));refine qan (cs:=#[.int .i64 t301,.bool t302,.int .i64 t303,.slice none 0 0,.int .i64 0]) ?_ 3 _ rfl;(with_reducible repeat(first|refine qah ?_ _|refine qaf ?_|refine qag ?_ _));refine qan (cs:=#[.int .i64 t301,.bool t302,.int .i64 0,.slice none 0 0,.int .i64 0]) ?_ 2 _ rfl;(with_reducible repeat(first|refine qah ?_ _|refine qaf ?_|refine qag ?_ _));refine qan (cs:=#[.int .i64 t301,.bool false,.int .i64 0,.slice none 0 0,.int .i64 0]) ?_ 1 _ rfl;(with_reducible repeat(first|refine qah ?_ _|refine qaf ?_|refine qag ?_ _));refine qan (cs:=#[.int .i64 0,.bool false,.int .i64 0,.slice none 0 0,.int .i64 0]) ?_ 0 _ rfl;(with_reducible repeat(first|refine qah ?_ _|refine qaf ?_|refine qag ?_ _));exact BK308.out) hb);have n4_:=qam.mk (qad (za3 HB GE291 GE308) hb);clear HO298;clear HO306;clear BK291;clear BK308;clear HB;have HO298:=n0_;have HO306:=n1_;have BK291:=n2_;have BK308:=n3_;have HB:=n4_;clear n0_ n1_ n2_ n3_ n4_;(try clear hb);(try clear hb2);(try clear hk);(try clear hi)))
    have n0_:=qam.mk (Kd.S_drew HO298.out)
    have n1_:=qam.mk (Kd.S_drew HO306.out)
    have n2_:=qam.mk (qaf BK291.out)
    have n3_:=qam.mk (qaf BK308.out)
    have n4_:=qam.mk (below_drew1 HB.out)
    clear HO298
    clear HO306
    clear BK291
    clear BK308
    clear HB
    have HO298:=n0_
    have HO306:=n1_
    have BK291:=n2_
    have BK308:=n3_
    have HB:=n4_
    clear n0_ n1_ n2_ n3_ n4_
    refine start_ (n:=5) (S:=fun w'=>w'.cell? ⟨gb308,0,none⟩=some (.int .i64 t301)∧w'.cell? ⟨gb308,1,none⟩=some (.bool t302)∧w'.cell? ⟨gb308,2,none⟩=some (.int .i64 t303)∧w'.cell? ⟨gb308,3,none⟩=some (.slice Ao41 t304.length co41)∧w'.cell? ⟨gb308,4,none⟩=some (.int .i64 t307)∧w'.cell? ⟨gb291,0,none⟩=some (.int .i64 a0_0)∧w'.cell? ⟨gb291,1,none⟩=some (.bool a0_1)∧w'.cell? ⟨gb291,2,none⟩=some (.int .i64 a0_2)∧w'.cell? ⟨gb291,3,none⟩=some (.slice A0_3 l0_3.length c0_3)∧w'.cell? ⟨gb291,4,none⟩=some (.int .i64 a0_4)) (ds:=[]) #[false,false,false,false,false] (by kernel_rfl) rfl rfl ⟨(qab BK308.out 0).trans rfl,(qab BK308.out 1).trans rfl,(qab BK308.out 2).trans rfl,(qab BK308.out 3).trans rfl,(qab BK308.out 4).trans rfl,(qab BK291.out 0).trans rfl,(qab BK291.out 1).trans rfl,(qab BK291.out 2).trans rfl,(qab BK291.out 3).trans rfl,(qab BK291.out 4).trans rfl⟩ (fun hHeld=>?_)
    generalize w42.drew=w43 at HO298 HO306 BK291 BK308 HB hHeld ⊢
    refine take_ (i:=0) (N:=some 22) (v:=?_) (a':=?_) #[true,false,false,false,false] rfl rfl (by kernel_rfl) (fun _ _ _ h=>h) (Or.inl ⟨by rfl,?_⟩) hHeld ?_ ?_
    rotate_left
    ·rintro w' ⟨s0,s1,s2,s3,s4,s5,s6,s7,s8,s9⟩
     go_simp
     with_reducible rfl
    rotate_left
    ·simp only[Act.put,List.setIfInBounds_toArray,List.set_cons_zero,List.set_cons_succ,qao,qap]
     rfl
    refine take_ (i:=1) (N:=some 23) (v:=?_) (a':=?_) #[true,true,false,false,false] rfl rfl (by kernel_rfl) (fun _ _ _ h=>h) (Or.inl ⟨by rfl,?_⟩) hHeld ?_ ?_
    rotate_left
    ·rintro w' ⟨s0,s1,s2,s3,s4,s5,s6,s7,s8,s9⟩
     go_simp
     with_reducible rfl
    rotate_left
    ·simp only[Act.put,List.setIfInBounds_toArray,List.set_cons_zero,List.set_cons_succ,qao,qap]
     rfl
    refine one_ (i:=2) (N:=some 24) #[true,true,true,false,false] rfl rfl (by kernel_rfl) (by decide) (fun K hK=>?_)
    refine goes_ Try.func7 (by kernel_rfl) rfl #[.agg #[.int .i64 a0_0,.bool a0_1,.int .i64 a0_2,.slice A0_3 l0_3.length c0_3,.int .i64 a0_4]] (by rfl) rfl rfl (by(try simp only[List.map_toArray,List.map_cons,List.map_nil]);first|done|rfl|(simp only[List.length_drop,List.length_take];rfl)) ?_
    with_reducible refine(laws_toHouse.calls k a0_0 a0_1 a0_2 _ _ l0_3 a0_4 t310 t311 t312 t313 t316 _ ?side1 ?side2 A26.out).mono ?_
    (case side1=>repeat(first|exact(Kd.C_below HR0_3.out HB.out)|(with_reducible refine Kd.C_alloc ?_ _)|(with_reducible refine Kd.C_drewN ?_ _)|(with_reducible refine Kd.C_drew ?_)))
    (case side2=>exact HC0_3.out)
    rintro e w44 ⟨v314,rfl,ho0,hb⟩
    refine⟨_,rfl,?_⟩
    have n0_:=qam.mk (Kd.S_elder' (za10 HO298) (Kd.S_base ho0) hb)
    have n1_:=qam.mk (Kd.S_elder' (za10 HO306) (Kd.S_base ho0) hb)
    have n2_:=qam.mk (Kd.S_lower (Kd.S_new' (Kd.S_new' ho0 (Kd.S_lt (za10 HO298))) (Kd.S_lt (za10 HO306))) (qac (za3 HB GE291 GE308)))
    have n3_:=qam.mk (qae (g:=gb291) (o:=.cells #[.int .i64 a0_0,.bool a0_1,.int .i64 a0_2,.slice A0_3 l0_3.length c0_3,.int .i64 a0_4] 26 (0,0)) (za0 BK291) hb)
    have n4_:=qam.mk (qae (g:=gb308) (o:=.cells #[.int .i64 t301,.bool t302,.int .i64 t303,.slice Ao41 t304.length co41,.int .i64 t307] 33 (0,0)) (za0 BK308) hb)
    have n5_:=qam.mk (qad (za3 HB GE291 GE308) hb)
    clear HO298
    clear HO306
    clear BK291
    clear BK308
    clear HB
    have HO298:=n0_
    have HO306:=n1_
    have HO315:=n2_
    have BK291:=n3_
    have BK308:=n4_
    have HB:=n5_
    clear n0_ n1_ n2_ n3_ n4_ n5_
    (try clear hb)
    (try clear hb2)
    (try clear hk)
    (try clear hi)
    (try clear ho0)
    obtain⟨Ao45,co45,eo45⟩:=Kd.S_slice HO315.out
    (first|subst eo45|(injection eo45 with f1_ f2_ f3_;have f4_:=f1_.symm;have f5_:=f3_.symm;clear f1_ f2_ f3_;subst f4_;subst f5_))
    refine hK.out _ _ ⟨(qab BK308.out 0).trans rfl,(qab BK308.out 1).trans rfl,(qab BK308.out 2).trans rfl,(qab BK308.out 3).trans rfl,(qab BK308.out 4).trans rfl,(qab BK291.out 0).trans rfl,(qab BK291.out 1).trans rfl,(qab BK291.out 2).trans rfl,(qab BK291.out 3).trans rfl,(qab BK291.out 4).trans rfl⟩ (fun hHeld=>?_)
    clear hK K
    refine norm_ (a':=?_) ?_ ?_
    rotate_left
    ·show Act.put _ (some 24) _=_
     simp only[Act.put,List.setIfInBounds_toArray,List.set_cons_zero,List.set_cons_succ,qao,qap]
     rfl
    refine one_ (i:=3) (N:=some 25) #[true,true,true,true,false] rfl rfl (by kernel_rfl) (by decide) (fun K hK=>?_)
    refine goes_ Try.func9 (by kernel_rfl) rfl #[.agg #[.int .i64 t301,.bool t302,.int .i64 t303,.slice Ao41 t304.length co41,.int .i64 t307],.agg #[.int .i64 t310,.bool t311,.int .i64 t312,.slice Ao45 t313.length co45,.int .i64 t316]] (by rfl) rfl rfl (by(try simp only[List.map_toArray,List.map_cons,List.map_nil]);first|done|rfl|(simp only[List.length_drop,List.length_take];rfl)) ?_
    with_reducible refine(laws_eqHouse.calls k t301 t302 t303 _ _ t304 t307 t310 t311 t312 _ _ t313 t316 true _ ?side1 ?side2 ?side3 ?side4 A27.out).mono ?_
    (case side1=>repeat(first|exact(Kd.S_reads' HO306.out).2.2|(with_reducible refine Kd.C_alloc ?_ _)|(with_reducible refine Kd.C_drewN ?_ _)|(with_reducible refine Kd.C_drew ?_)))
    (case side2=>exact(Kd.S_reads' HO306.out).2.1)
    (case side3=>repeat(first|exact(Kd.S_reads' HO315.out).2.2|(with_reducible refine Kd.C_alloc ?_ _)|(with_reducible refine Kd.C_drewN ?_ _)|(with_reducible refine Kd.C_drew ?_)))
    (case side4=>exact(Kd.S_reads' HO315.out).2.1)
    rintro e w46 ⟨rfl,hb⟩
    refine⟨_,rfl,?_⟩
    have n0_:=qam.mk (Kd.S_below (za10 HO298) hb)
    have n1_:=qam.mk (Kd.S_below (za10 HO306) hb)
    have n2_:=qam.mk (Kd.S_below (za10 HO315) hb)
    have n3_:=qam.mk (qae (g:=gb291) (o:=.cells #[.int .i64 a0_0,.bool a0_1,.int .i64 a0_2,.slice A0_3 l0_3.length c0_3,.int .i64 a0_4] 26 (0,0)) (za0 BK291) hb)
    have n4_:=qam.mk (qae (g:=gb308) (o:=.cells #[.int .i64 t301,.bool t302,.int .i64 t303,.slice Ao41 t304.length co41,.int .i64 t307] 33 (0,0)) (za0 BK308) hb)
    have n5_:=qam.mk (qad (za3 HB GE291 GE308) hb)
    clear HO298
    clear HO306
    clear HO315
    clear BK291
    clear BK308
    clear HB
    have HO298:=n0_
    have HO306:=n1_
    have HO315:=n2_
    have BK291:=n3_
    have BK308:=n4_
    have HB:=n5_
    clear n0_ n1_ n2_ n3_ n4_ n5_
    (try clear hb)
    (try clear hb2)
    (try clear hk)
    (try clear hi)
    refine hK.out _ _ ⟨(qab BK308.out 0).trans rfl,(qab BK308.out 1).trans rfl,(qab BK308.out 2).trans rfl,(qab BK308.out 3).trans rfl,(qab BK308.out 4).trans rfl,(qab BK291.out 0).trans rfl,(qab BK291.out 1).trans rfl,(qab BK291.out 2).trans rfl,(qab BK291.out 3).trans rfl,(qab BK291.out 4).trans rfl⟩ (fun hHeld=>?_)
    clear hK K
    refine norm_ (a':=?_) ?_ ?_
    rotate_left
    ·show Act.put _ (some 25) _=_
     simp only[Act.put,List.setIfInBounds_toArray,List.set_cons_zero,List.set_cons_succ,qao,qap]
     rfl
    refine pure_ (i:=4) (N:=some 26) (v:=?_) (a':=?_) #[true,true,true,true,true] rfl rfl (by kernel_rfl) (fun _ _ _ h=>h) (Or.inl ⟨by rfl,?_⟩) ?_ ?_
    rotate_left
    ·intro w'
     go_simp
     with_reducible rfl
    rotate_left
    ·simp only[Act.put,List.setIfInBounds_toArray,List.set_cons_zero,List.set_cons_succ,qao,qap]
     rfl
    refine done_ (by kernel_rfl) ?_
    try go_wp2
    go_ret
    exact⟨za8,za3 HB GE291 GE308⟩
   ·replace c28:=Bool.eq_false_iff.mpr c28
    subst c28
    have H1:(some false)=some r:=by rw[if_neg (show ¬(false=true) by decide)] at H;exact H
    clear H
    have H:=H1
    clear H1
    obtain rfl:=Option.some.inj H
    go_enter Try.func3,Try.ntmps3
    try go_wp2_with(first|((with_reducible refine qak (N:=1) rfl ?_);refine qai ?hg (N:=1) ?hd (cs:=#[.int .i64 a0_0,.bool a0_1,.int .i64 a0_2,.slice A0_3 l0_3.length c0_3,.int .i64 a0_4]) (t:=26) ?hr ?_;(case hd=>rfl);(case hg=>rfl);(case hr=>first|(go_simp;done)|(go_simp;rfl));intro gb291 hg w47 hbox hb;have n0_:=qam.mk (qad (za2 HB) hb);have n1_:=qam.mk (hbox);have n2_:=qam.mk ((by rw[hg];exact(qac (za2 HB)):w.heap.size≤gb291));have n3_:=qam.mk ((by rw[hg];exact(qac (za2 HB)):w.heap.size≤gb291));clear HB;have HB:=n0_;have BK291:=n1_;have GW291:=n2_;have GE291:=n3_;clear n0_ n1_ n2_ n3_;clear hb hbox hg;have hcz48_0:w47.cell? ⟨gb291,0,none⟩=some (.int .i64 a0_0):=(qab BK291.out 0).trans rfl;have hcz48_1:w47.cell? ⟨gb291,1,none⟩=some (.bool a0_1):=(qab BK291.out 1).trans rfl;have hcz48_2:w47.cell? ⟨gb291,2,none⟩=some (.int .i64 a0_2):=(qab BK291.out 2).trans rfl;have hcz48_3:w47.cell? ⟨gb291,3,none⟩=some (.slice A0_3 l0_3.length c0_3):=(qab BK291.out 3).trans rfl;have hcz48_4:w47.cell? ⟨gb291,4,none⟩=some (.int .i64 a0_4):=(qab BK291.out 4).trans rfl;have hfz48_0:=qaa BK291.out 0;have hfz48_1:=qaa BK291.out 1;have hfz48_2:=qaa BK291.out 2;have hfz48_3:=qaa BK291.out 3;have hfz48_4:=qaa BK291.out 4)|((with_reducible refine qaj (f:=5) rfl ?_);refine goesL_ (some 9) rfl rfl Try.func5 (by kernel_rfl) rfl #[.agg #[.int .i64 a0_0,.bool a0_1,.int .i64 a0_2,.slice A0_3 l0_3.length c0_3,.int .i64 a0_4],.int .i64 1048576] rfl (by(try simp only[List.map_toArray,List.map_cons,List.map_nil]);first|done|rfl|(simp only[List.length_drop,List.length_take];rfl)) ?_;(with_reducible refine(laws_szHouse.calls k a0_0 a0_1 a0_2 _ _ l0_3 a0_4 1048576 t292 _ ?side1 ?side2 A2.out).mono ?_);(case side1=>repeat(first|exact(Kd.C_below HR0_3.out HB.out)|(with_reducible refine Kd.C_alloc ?_ _)|(with_reducible refine Kd.C_drewN ?_ _)|(with_reducible refine Kd.C_drew ?_)));(case side2=>exact HC0_3.out);rintro e w49 ⟨rfl,hb⟩;refine⟨_,rfl,?_⟩;have n0_:=qam.mk (qae (g:=gb291) (o:=.cells #[.int .i64 a0_0,.bool a0_1,.int .i64 a0_2,.slice A0_3 l0_3.length c0_3,.int .i64 a0_4] 26 (0,0)) (za0 BK291) hb);have n1_:=qam.mk (qad (za1 HB GE291) hb);clear BK291;clear HB;have BK291:=n0_;have HB:=n1_;clear n0_ n1_;(try clear hb);(try clear hb2);(try clear hk);(try clear hi);have hcz50_0:w49.cell? ⟨gb291,0,none⟩=some (.int .i64 a0_0):=(qab BK291.out 0).trans rfl;have hcz50_1:w49.cell? ⟨gb291,1,none⟩=some (.bool a0_1):=(qab BK291.out 1).trans rfl;have hcz50_2:w49.cell? ⟨gb291,2,none⟩=some (.int .i64 a0_2):=(qab BK291.out 2).trans rfl;have hcz50_3:w49.cell? ⟨gb291,3,none⟩=some (.slice A0_3 l0_3.length c0_3):=(qab BK291.out 3).trans rfl;have hcz50_4:w49.cell? ⟨gb291,4,none⟩=some (.int .i64 a0_4):=(qab BK291.out 4).trans rfl;have hfz50_0:=qaa BK291.out 0;have hfz50_1:=qaa BK291.out 1;have hfz50_2:=qaa BK291.out 2;have hfz50_3:=qaa BK291.out 3;have hfz50_4:=qaa BK291.out 4)|((with_reducible refine qaj (f:=7) rfl ?_);refine goesL_ (some 13) rfl rfl Try.func7 (by kernel_rfl) rfl #[.agg #[.int .i64 a0_0,.bool a0_1,.int .i64 a0_2,.slice A0_3 l0_3.length c0_3,.int .i64 a0_4]] rfl (by(try simp only[List.map_toArray,List.map_cons,List.map_nil]);first|done|rfl|(simp only[List.length_drop,List.length_take];rfl)) ?_;(with_reducible refine(laws_toHouse.calls k a0_0 a0_1 a0_2 _ _ l0_3 a0_4 t293 t294 t295 t296 t299 _ ?side1 ?side2 A7.out).mono ?_);(case side1=>repeat(first|exact(Kd.C_below HR0_3.out HB.out)|(with_reducible refine Kd.C_alloc ?_ _)|(with_reducible refine Kd.C_drewN ?_ _)|(with_reducible refine Kd.C_drew ?_)));(case side2=>exact HC0_3.out);rintro e w51 ⟨v297,rfl,ho0,hb⟩;refine⟨_,rfl,?_⟩;have n0_:=qam.mk (Kd.S_lower ho0 (qac (za1 HB GE291)));have n1_:=qam.mk (qae (g:=gb291) (o:=.cells #[.int .i64 a0_0,.bool a0_1,.int .i64 a0_2,.slice A0_3 l0_3.length c0_3,.int .i64 a0_4] 26 (0,0)) (za0 BK291) hb);have n2_:=qam.mk (qad (za1 HB GE291) hb);clear BK291;clear HB;have HO298:=n0_;have BK291:=n1_;have HB:=n2_;clear n0_ n1_ n2_;(try clear hb);(try clear hb2);(try clear hk);(try clear hi);(try clear ho0);obtain⟨Ao52,co52,eo52⟩:=Kd.S_slice HO298.out;subst eo52)|((with_reducible refine qaj (f:=6) rfl ?_);refine goesL_ (some 14) rfl rfl Try.func6 (by kernel_rfl) rfl #[.agg #[.int .i64 t293,.bool t294,.int .i64 t295,.slice Ao52 t296.length co52,.int .i64 t299]] rfl (by(try simp only[List.map_toArray,List.map_cons,List.map_nil]);first|done|rfl|(simp only[List.length_drop,List.length_take];rfl)) ?_;(with_reducible refine(spec_HouseOk.calls k t293 t294 t295 _ _ t296 t299 t300 _ ?side1 ?side2 A8.out).mono ?_);(case side1=>repeat(first|exact(Kd.S_reads' HO298.out).2.2|(with_reducible refine Kd.C_alloc ?_ _)|(with_reducible refine Kd.C_drewN ?_ _)|(with_reducible refine Kd.C_drew ?_)));(case side2=>exact(Kd.S_reads' HO298.out).2.1);rintro e w53 ⟨rfl,hb⟩;refine⟨_,rfl,?_⟩;have n0_:=qam.mk (Kd.S_below (za10 HO298) hb);have n1_:=qam.mk (qae (g:=gb291) (o:=.cells #[.int .i64 a0_0,.bool a0_1,.int .i64 a0_2,.slice A0_3 l0_3.length c0_3,.int .i64 a0_4] 26 (0,0)) (za0 BK291) hb);have n2_:=qam.mk (qad (za1 HB GE291) hb);clear HO298;clear BK291;clear HB;have HO298:=n0_;have BK291:=n1_;have HB:=n2_;clear n0_ n1_ n2_;(try clear hb);(try clear hb2);(try clear hk);(try clear hi);have hcz54_0:w53.cell? ⟨gb291,0,none⟩=some (.int .i64 a0_0):=(qab BK291.out 0).trans rfl;have hcz54_1:w53.cell? ⟨gb291,1,none⟩=some (.bool a0_1):=(qab BK291.out 1).trans rfl;have hcz54_2:w53.cell? ⟨gb291,2,none⟩=some (.int .i64 a0_2):=(qab BK291.out 2).trans rfl;have hcz54_3:w53.cell? ⟨gb291,3,none⟩=some (.slice A0_3 l0_3.length c0_3):=(qab BK291.out 3).trans rfl;have hcz54_4:w53.cell? ⟨gb291,4,none⟩=some (.int .i64 a0_4):=(qab BK291.out 4).trans rfl;have hfz54_0:=qaa BK291.out 0;have hfz54_1:=qaa BK291.out 1;have hfz54_2:=qaa BK291.out 2;have hfz54_3:=qaa BK291.out 3;have hfz54_4:=qaa BK291.out 4)|((with_reducible refine qaj (f:=7) rfl ?_);refine goesL_ (some 16) rfl rfl Try.func7 (by kernel_rfl) rfl #[.agg #[.int .i64 a0_0,.bool a0_1,.int .i64 a0_2,.slice A0_3 l0_3.length c0_3,.int .i64 a0_4]] rfl (by(try simp only[List.map_toArray,List.map_cons,List.map_nil]);first|done|rfl|(simp only[List.length_drop,List.length_take];rfl)) ?_;(with_reducible refine(laws_toHouse.calls k a0_0 a0_1 a0_2 _ _ l0_3 a0_4 t301 t302 t303 t304 t307 _ ?side1 ?side2 A9.out).mono ?_);(case side1=>repeat(first|exact(Kd.C_below HR0_3.out HB.out)|(with_reducible refine Kd.C_alloc ?_ _)|(with_reducible refine Kd.C_drewN ?_ _)|(with_reducible refine Kd.C_drew ?_)));(case side2=>exact HC0_3.out);rintro e w55 ⟨v305,rfl,ho0,hb⟩;refine⟨_,rfl,?_⟩;have n0_:=qam.mk (Kd.S_elder' (za10 HO298) (Kd.S_base ho0) hb);have n1_:=qam.mk (Kd.S_lower (Kd.S_new' ho0 (Kd.S_lt (za10 HO298))) (qac (za1 HB GE291)));have n2_:=qam.mk (qae (g:=gb291) (o:=.cells #[.int .i64 a0_0,.bool a0_1,.int .i64 a0_2,.slice A0_3 l0_3.length c0_3,.int .i64 a0_4] 26 (0,0)) (za0 BK291) hb);have n3_:=qam.mk (qad (za1 HB GE291) hb);clear HO298;clear BK291;clear HB;have HO298:=n0_;have HO306:=n1_;have BK291:=n2_;have HB:=n3_;clear n0_ n1_ n2_ n3_;(try clear hb);(try clear hb2);(try clear hk);(try clear hi);(try clear ho0))|((with_reducible refine qak (N:=5) rfl ?_);refine qai ?hg (N:=5) ?hd (cs:=#[.int .i64 0,.bool false,.int .i64 0,.slice none 0 0,.int .i64 0]) (t:=33) ?hr ?_;(case hd=>rfl);(case hg=>rfl);(case hr=>first|(go_simp;done)|(go_simp;rfl));intro gb308 hg w56 hbox hb;have n0_:=qam.mk (Kd.S_below (za10 HO298) hb);have n1_:=qam.mk (Kd.S_below (za10 HO306) hb);have n2_:=qam.mk (qae (g:=gb291) (o:=.cells #[.int .i64 a0_0,.bool a0_1,.int .i64 a0_2,.slice A0_3 l0_3.length c0_3,.int .i64 a0_4] 26 (0,0)) (za0 BK291) hb);have n3_:=qam.mk (qad (za1 HB GE291) hb);have n4_:=qam.mk (hbox);have n5_:=qam.mk ((by rw[hg];exact(qac (za1 HB GE291)):w.heap.size≤gb308));have n6_:=qam.mk ((by rw[hg];exact(qac (za1 HB GE291)):w.heap.size≤gb308));have n7_:=qam.mk ((by rw[hg];exact Nat.ne_of_lt (qal (g:=gb291) (o:=.cells #[.int .i64 a0_0,.bool a0_1,.int .i64 a0_2,.slice A0_3 l0_3.length c0_3,.int .i64 a0_4] 26 (0,0)) (za0 BK291)):gb291≠gb308));have n8_:=qam.mk ((by rw[hg];exact Nat.ne_of_gt (qal (g:=gb291) (o:=.cells #[.int .i64 a0_0,.bool a0_1,.int .i64 a0_2,.slice A0_3 l0_3.length c0_3,.int .i64 a0_4] 26 (0,0)) (za0 BK291)):gb308≠gb291));clear HO298;clear HO306;clear BK291;clear HB;have HO298:=n0_;have HO306:=n1_;have BK291:=n2_;have HB:=n3_;have BK308:=n4_;have GW308:=n5_;have GE308:=n6_;have NB291_308:=n7_;have NB308_291:=n8_;clear n0_ n1_ n2_ n3_ n4_ n5_ n6_ n7_ n8_;clear hb hbox hg;have hnb57:=NB308_291.out;have hnc57:=NB291_308.out;have hcz58_0:w56.cell? ⟨gb308,0,none⟩=some (.int .i64 0):=(qab BK308.out 0).trans rfl;have hcz58_1:w56.cell? ⟨gb308,1,none⟩=some (.bool false):=(qab BK308.out 1).trans rfl;have hcz58_2:w56.cell? ⟨gb308,2,none⟩=some (.int .i64 0):=(qab BK308.out 2).trans rfl;have hcz58_3:w56.cell? ⟨gb308,3,none⟩=some (.slice none 0 0):=(qab BK308.out 3).trans rfl;have hcz58_4:w56.cell? ⟨gb308,4,none⟩=some (.int .i64 0):=(qab BK308.out 4).trans rfl;have hfz58_0:=qaa BK308.out 0;have hfz58_1:=qaa BK308.out 1;have hfz58_2:=qaa BK308.out 2;have hfz58_3:=qaa BK308.out 3;have hfz58_4:=qaa BK308.out 4;obtain⟨Ao59,co59,eo59⟩:=Kd.S_slice HO306.out;subst eo59)|((with_reducible refine qaj (f:=8) rfl ?_);refine goesL_ (some 18) rfl rfl Try.func8 (by kernel_rfl) rfl #[.agg #[.int .i64 t301,.bool t302,.int .i64 t303,.slice Ao59 t304.length co59,.int .i64 t307]] rfl (by(try simp only[List.map_toArray,List.map_cons,List.map_nil]);first|done|rfl|(simp only[List.length_drop,List.length_take];rfl)) ?_;(with_reducible refine(impl_HouseOk.calls k t301 t302 t303 _ _ t304 t307 t309 _ ?side1 ?side2 A10.out).mono ?_);(case side1=>refine(Kd.S_reads' (e:=62) (base:=w.heap.size) (ok:=fun k_=>(True∧some k_≠(.slice Ao52 t296.length co52:Value).ownBlock)) (n:=t304.length) (c:=co59) ?_).2.2;exact(by(with_reducible repeat(first|apply Kd.S_alloc|apply Kd.S_drewN|apply Kd.S_drew));exact(Kd.S_mono (Kd.S_far (p:=⟨gb308,4,none⟩) (Kd.S_far (p:=⟨gb308,3,none⟩) (Kd.S_far (p:=⟨gb308,2,none⟩) (Kd.S_far (p:=⟨gb308,1,none⟩) (Kd.S_far (p:=⟨gb308,0,none⟩) (Kd.S_types HO306.out BK308.out (by decide)) (fun _ hk=>hk.2) (.int .i64 t301)) (fun _ hk=>hk.2) (.bool t302)) (fun _ hk=>hk.2) (.int .i64 t303)) (fun _ hk=>hk.2) (.slice Ao59 t304.length co59)) (fun _ hk=>hk.2) (.int .i64 t307)) (fun _ h_=>h_.1))));(case side2=>exact(Kd.S_reads' HO306.out).2.1);rintro e w60 ⟨rfl,hb⟩;refine⟨_,rfl,?_⟩;have n0_:=qam.mk (Kd.S_below (by(with_reducible repeat(first|apply Kd.S_alloc|apply Kd.S_drewN|apply Kd.S_drew));exact(Kd.S_mono (Kd.S_far (p:=⟨gb308,4,none⟩) (Kd.S_far (p:=⟨gb308,3,none⟩) (Kd.S_far (p:=⟨gb308,2,none⟩) (Kd.S_far (p:=⟨gb308,1,none⟩) (Kd.S_far (p:=⟨gb308,0,none⟩) (Kd.S_types HO298.out BK308.out (by decide)) (fun _ hk=>hk.2) (.int .i64 t301)) (fun _ hk=>hk.2) (.bool t302)) (fun _ hk=>hk.2) (.int .i64 t303)) (fun _ hk=>hk.2) (.slice Ao59 t304.length co59)) (fun _ hk=>hk.2) (.int .i64 t307)) (fun _ h_=>h_.1))) hb);have n1_:=qam.mk (Kd.S_below (by(with_reducible repeat(first|apply Kd.S_alloc|apply Kd.S_drewN|apply Kd.S_drew));exact(Kd.S_mono (Kd.S_far (p:=⟨gb308,4,none⟩) (Kd.S_far (p:=⟨gb308,3,none⟩) (Kd.S_far (p:=⟨gb308,2,none⟩) (Kd.S_far (p:=⟨gb308,1,none⟩) (Kd.S_far (p:=⟨gb308,0,none⟩) (Kd.S_types HO306.out BK308.out (by decide)) (fun _ hk=>hk.2) (.int .i64 t301)) (fun _ hk=>hk.2) (.bool t302)) (fun _ hk=>hk.2) (.int .i64 t303)) (fun _ hk=>hk.2) (.slice Ao59 t304.length co59)) (fun _ hk=>hk.2) (.int .i64 t307)) (fun _ h_=>h_.1))) hb);have n2_:=qam.mk (qae (g:=gb291) (o:=.cells #[.int .i64 a0_0,.bool a0_1,.int .i64 a0_2,.slice A0_3 l0_3.length c0_3,.int .i64 a0_4] 26 (0,0)) (za12 NB291_308 BK291) hb);have n3_:=qam.mk (qae (g:=gb308) (o:=.cells #[.int .i64 t301,.bool t302,.int .i64 t303,.slice Ao59 t304.length co59,.int .i64 t307] 33 (0,0)) (by(with_reducible repeat(first|refine qah ?_ _|refine qaf ?_|refine qag ?_ _));refine qan (cs:=#[.int .i64 t301,.bool t302,.int .i64 t303,.slice Ao59 t304.length co59,.int .i64 0]) ?_ 4 _ rfl;(with_reducible repeat(first|refine qah ?_ _|refine qaf ?_|refine qag ?_ _));refine qan (cs:=#[.int .i64 t301,.bool t302,.int .i64 t303,.slice none 0 0,.int .i64 0]) ?_ 3 _ rfl;(with_reducible repeat(first|refine qah ?_ _|refine qaf ?_|refine qag ?_ _));refine qan (cs:=#[.int .i64 t301,.bool t302,.int .i64 0,.slice none 0 0,.int .i64 0]) ?_ 2 _ rfl;(with_reducible repeat(first|refine qah ?_ _|refine qaf ?_|refine qag ?_ _));refine qan (cs:=#[.int .i64 t301,.bool false,.int .i64 0,.slice none 0 0,.int .i64 0]) ?_ 1 _ rfl;(with_reducible repeat(first|refine qah ?_ _|refine qaf ?_|refine qag ?_ _));refine qan (cs:=#[.int .i64 0,.bool false,.int .i64 0,.slice none 0 0,.int .i64 0]) ?_ 0 _ rfl;(with_reducible repeat(first|refine qah ?_ _|refine qaf ?_|refine qag ?_ _));exact BK308.out) hb);have n4_:=qam.mk (qad (za3 HB GE291 GE308) hb);clear HO298;clear HO306;clear BK291;clear BK308;clear HB;have HO298:=n0_;have HO306:=n1_;have BK291:=n2_;have BK308:=n3_;have HB:=n4_;clear n0_ n1_ n2_ n3_ n4_;(try clear hb);(try clear hb2);(try clear hk);(try clear hi)))
    have n0_:=qam.mk (Kd.S_drew HO298.out)
    have n1_:=qam.mk (Kd.S_drew HO306.out)
    have n2_:=qam.mk (qaf BK291.out)
    have n3_:=qam.mk (qaf BK308.out)
    have n4_:=qam.mk (below_drew1 HB.out)
    clear HO298
    clear HO306
    clear BK291
    clear BK308
    clear HB
    have HO298:=n0_
    have HO306:=n1_
    have BK291:=n2_
    have BK308:=n3_
    have HB:=n4_
    clear n0_ n1_ n2_ n3_ n4_
    refine start_ (n:=5) (S:=fun w'=>w'.cell? ⟨gb308,0,none⟩=some (.int .i64 t301)∧w'.cell? ⟨gb308,1,none⟩=some (.bool t302)∧w'.cell? ⟨gb308,2,none⟩=some (.int .i64 t303)∧w'.cell? ⟨gb308,3,none⟩=some (.slice Ao59 t304.length co59)∧w'.cell? ⟨gb308,4,none⟩=some (.int .i64 t307)∧w'.cell? ⟨gb291,0,none⟩=some (.int .i64 a0_0)∧w'.cell? ⟨gb291,1,none⟩=some (.bool a0_1)∧w'.cell? ⟨gb291,2,none⟩=some (.int .i64 a0_2)∧w'.cell? ⟨gb291,3,none⟩=some (.slice A0_3 l0_3.length c0_3)∧w'.cell? ⟨gb291,4,none⟩=some (.int .i64 a0_4)) (ds:=[]) #[false,false,false,false,false] (by kernel_rfl) rfl rfl ⟨(qab BK308.out 0).trans rfl,(qab BK308.out 1).trans rfl,(qab BK308.out 2).trans rfl,(qab BK308.out 3).trans rfl,(qab BK308.out 4).trans rfl,(qab BK291.out 0).trans rfl,(qab BK291.out 1).trans rfl,(qab BK291.out 2).trans rfl,(qab BK291.out 3).trans rfl,(qab BK291.out 4).trans rfl⟩ (fun hHeld=>?_)
    generalize w60.drew=w61 at HO298 HO306 BK291 BK308 HB hHeld ⊢
    refine take_ (i:=0) (N:=some 22) (v:=?_) (a':=?_) #[true,false,false,false,false] rfl rfl (by kernel_rfl) (fun _ _ _ h=>h) (Or.inl ⟨by rfl,?_⟩) hHeld ?_ ?_
    rotate_left
    ·rintro w' ⟨s0,s1,s2,s3,s4,s5,s6,s7,s8,s9⟩
     go_simp
     with_reducible rfl
    rotate_left
    ·simp only[Act.put,List.setIfInBounds_toArray,List.set_cons_zero,List.set_cons_succ,qao,qap]
     rfl
    refine take_ (i:=1) (N:=some 23) (v:=?_) (a':=?_) #[true,true,false,false,false] rfl rfl (by kernel_rfl) (fun _ _ _ h=>h) (Or.inl ⟨by rfl,?_⟩) hHeld ?_ ?_
    rotate_left
    ·rintro w' ⟨s0,s1,s2,s3,s4,s5,s6,s7,s8,s9⟩
     go_simp
     with_reducible rfl
    rotate_left
    ·simp only[Act.put,List.setIfInBounds_toArray,List.set_cons_zero,List.set_cons_succ,qao,qap]
     rfl
    refine one_ (i:=2) (N:=some 24) #[true,true,true,false,false] rfl rfl (by kernel_rfl) (by decide) (fun K hK=>?_)
    refine goes_ Try.func7 (by kernel_rfl) rfl #[.agg #[.int .i64 a0_0,.bool a0_1,.int .i64 a0_2,.slice A0_3 l0_3.length c0_3,.int .i64 a0_4]] (by rfl) rfl rfl (by(try simp only[List.map_toArray,List.map_cons,List.map_nil]);first|done|rfl|(simp only[List.length_drop,List.length_take];rfl)) ?_
    with_reducible refine(laws_toHouse.calls k a0_0 a0_1 a0_2 _ _ l0_3 a0_4 t310 t311 t312 t313 t316 _ ?side1 ?side2 A26.out).mono ?_
    (case side1=>repeat(first|exact(Kd.C_below HR0_3.out HB.out)|(with_reducible refine Kd.C_alloc ?_ _)|(with_reducible refine Kd.C_drewN ?_ _)|(with_reducible refine Kd.C_drew ?_)))
    (case side2=>exact HC0_3.out)
    rintro e w62 ⟨v314,rfl,ho0,hb⟩
    refine⟨_,rfl,?_⟩
    have n0_:=qam.mk (Kd.S_elder' (za10 HO298) (Kd.S_base ho0) hb)
    have n1_:=qam.mk (Kd.S_elder' (za10 HO306) (Kd.S_base ho0) hb)
    have n2_:=qam.mk (Kd.S_lower (Kd.S_new' (Kd.S_new' ho0 (Kd.S_lt (za10 HO298))) (Kd.S_lt (za10 HO306))) (qac (za3 HB GE291 GE308)))
    have n3_:=qam.mk (qae (g:=gb291) (o:=.cells #[.int .i64 a0_0,.bool a0_1,.int .i64 a0_2,.slice A0_3 l0_3.length c0_3,.int .i64 a0_4] 26 (0,0)) (za0 BK291) hb)
    have n4_:=qam.mk (qae (g:=gb308) (o:=.cells #[.int .i64 t301,.bool t302,.int .i64 t303,.slice Ao59 t304.length co59,.int .i64 t307] 33 (0,0)) (za0 BK308) hb)
    have n5_:=qam.mk (qad (za3 HB GE291 GE308) hb)
    clear HO298
    clear HO306
    clear BK291
    clear BK308
    clear HB
    have HO298:=n0_
    have HO306:=n1_
    have HO315:=n2_
    have BK291:=n3_
    have BK308:=n4_
    have HB:=n5_
    clear n0_ n1_ n2_ n3_ n4_ n5_
    (try clear hb)
    (try clear hb2)
    (try clear hk)
    (try clear hi)
    (try clear ho0)
    obtain⟨Ao63,co63,eo63⟩:=Kd.S_slice HO315.out
    (first|subst eo63|(injection eo63 with f1_ f2_ f3_;have f4_:=f1_.symm;have f5_:=f3_.symm;clear f1_ f2_ f3_;subst f4_;subst f5_))
    refine hK.out _ _ ⟨(qab BK308.out 0).trans rfl,(qab BK308.out 1).trans rfl,(qab BK308.out 2).trans rfl,(qab BK308.out 3).trans rfl,(qab BK308.out 4).trans rfl,(qab BK291.out 0).trans rfl,(qab BK291.out 1).trans rfl,(qab BK291.out 2).trans rfl,(qab BK291.out 3).trans rfl,(qab BK291.out 4).trans rfl⟩ (fun hHeld=>?_)
    clear hK K
    refine norm_ (a':=?_) ?_ ?_
    rotate_left
    ·show Act.put _ (some 24) _=_
     simp only[Act.put,List.setIfInBounds_toArray,List.set_cons_zero,List.set_cons_succ,qao,qap]
     rfl
    refine one_ (i:=3) (N:=some 25) #[true,true,true,true,false] rfl rfl (by kernel_rfl) (by decide) (fun K hK=>?_)
    refine goes_ Try.func9 (by kernel_rfl) rfl #[.agg #[.int .i64 t301,.bool t302,.int .i64 t303,.slice Ao59 t304.length co59,.int .i64 t307],.agg #[.int .i64 t310,.bool t311,.int .i64 t312,.slice Ao63 t313.length co63,.int .i64 t316]] (by rfl) rfl rfl (by(try simp only[List.map_toArray,List.map_cons,List.map_nil]);first|done|rfl|(simp only[List.length_drop,List.length_take];rfl)) ?_
    with_reducible refine(laws_eqHouse.calls k t301 t302 t303 _ _ t304 t307 t310 t311 t312 _ _ t313 t316 false _ ?side1 ?side2 ?side3 ?side4 A27.out).mono ?_
    (case side1=>repeat(first|exact(Kd.S_reads' HO306.out).2.2|(with_reducible refine Kd.C_alloc ?_ _)|(with_reducible refine Kd.C_drewN ?_ _)|(with_reducible refine Kd.C_drew ?_)))
    (case side2=>exact(Kd.S_reads' HO306.out).2.1)
    (case side3=>repeat(first|exact(Kd.S_reads' HO315.out).2.2|(with_reducible refine Kd.C_alloc ?_ _)|(with_reducible refine Kd.C_drewN ?_ _)|(with_reducible refine Kd.C_drew ?_)))
    (case side4=>exact(Kd.S_reads' HO315.out).2.1)
    rintro e w64 ⟨rfl,hb⟩
    refine⟨_,rfl,?_⟩
    have n0_:=qam.mk (Kd.S_below (za10 HO298) hb)
    have n1_:=qam.mk (Kd.S_below (za10 HO306) hb)
    have n2_:=qam.mk (Kd.S_below (za10 HO315) hb)
    have n3_:=qam.mk (qae (g:=gb291) (o:=.cells #[.int .i64 a0_0,.bool a0_1,.int .i64 a0_2,.slice A0_3 l0_3.length c0_3,.int .i64 a0_4] 26 (0,0)) (za0 BK291) hb)
    have n4_:=qam.mk (qae (g:=gb308) (o:=.cells #[.int .i64 t301,.bool t302,.int .i64 t303,.slice Ao59 t304.length co59,.int .i64 t307] 33 (0,0)) (za0 BK308) hb)
    have n5_:=qam.mk (qad (za3 HB GE291 GE308) hb)
    clear HO298
    clear HO306
    clear HO315
    clear BK291
    clear BK308
    clear HB
    have HO298:=n0_
    have HO306:=n1_
    have HO315:=n2_
    have BK291:=n3_
    have BK308:=n4_
    have HB:=n5_
    clear n0_ n1_ n2_ n3_ n4_ n5_
    (try clear hb)
    (try clear hb2)
    (try clear hk)
    (try clear hi)
    refine hK.out _ _ ⟨(qab BK308.out 0).trans rfl,(qab BK308.out 1).trans rfl,(qab BK308.out 2).trans rfl,(qab BK308.out 3).trans rfl,(qab BK308.out 4).trans rfl,(qab BK291.out 0).trans rfl,(qab BK291.out 1).trans rfl,(qab BK291.out 2).trans rfl,(qab BK291.out 3).trans rfl,(qab BK291.out 4).trans rfl⟩ (fun hHeld=>?_)
    clear hK K
    refine norm_ (a':=?_) ?_ ?_
    rotate_left
    ·show Act.put _ (some 25) _=_
     simp only[Act.put,List.setIfInBounds_toArray,List.set_cons_zero,List.set_cons_succ,qao,qap]
     rfl
    refine pure_ (i:=4) (N:=some 26) (v:=?_) (a':=?_) #[true,true,true,true,true] rfl rfl (by kernel_rfl) (fun _ _ _ h=>h) (Or.inl ⟨by rfl,?_⟩) ?_ ?_
    rotate_left
    ·intro w'
     go_simp
     with_reducible rfl
    rotate_left
    ·simp only[Act.put,List.setIfInBounds_toArray,List.set_cons_zero,List.set_cons_succ,qao,qap]
     rfl
    refine done_ (by kernel_rfl) ?_
    try go_wp2
    go_ret
    exact⟨za8,za3 HB GE291 GE308⟩
end Go.Proofs.Ytbomcadjkcmcgaa.Print
