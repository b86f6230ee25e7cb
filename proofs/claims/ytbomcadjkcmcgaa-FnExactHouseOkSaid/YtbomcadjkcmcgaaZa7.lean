-- Written by squeeze.py, a program of this session, out of what print.sh and myprint.py had printed: cut to what is used, narrowed. Not trusted, Lean checks it.
import Derived.Test.YtbomcadjkcmcgaaZK
import Derived.Test.YtbomcadjkcmcgaaZa6
namespace Go.Proofs.Ytbomcadjkcmcgaa.Print
open Go.RowKit Go.Proofs.YtbomcadjkcmcgaaW.PrintWords Go.Proofs.YtbomcadjkcmcgaaW.PrintLast Go.Proofs.YtbomcadjkcmcgaaW.PrintMore
attribute [local go_sem] max2_int min2_int max_two min_two max_three min_three max_four min_four
set_option linter.unusedVariables false
set_option linter.unusedSimpArgs false
def laws_toHouse.f (k:Nat) (a0_0:Int) (a0_1:Bool) (a0_2:Int) (l0_3:List (S75)) (a0_4:Int):Option (Int × Bool × Int × (List (S62)) × Int):=(laws_toLog.f k l0_3 a0_4).bind fun bt202=>(some (a0_0,a0_1,a0_2,bt202.1,bt202.2))
theorem laws_toHouse.mono:∀a0 a1 a2 a3 a4 k,LeO (laws_toHouse.f k a0 a1 a2 a3 a4) (laws_toHouse.f (k+1) a0 a1 a2 a3 a4):=by
 intro a0 a1 a2 a3 a4 k
 unfold laws_toHouse.f
 repeat' first
   |(with_reducible exact laws_toLog.mono _ _ _)
   |(with_reducible exact LeO.refl _)
   |(with_reducible exact LeO.none _)
   |(with_reducible refine LeO.ite ?_ ?_)
   |(with_reducible refine LeO.bind ?_ (fun _=>?_))
   |exact laws_toLog.mono _ _ _
   |exact LeO.none _
   |refine LeO.ite ?_ ?_
   |refine LeO.bind ?_ (fun _=>?_)
set_option maxHeartbeats 8000000 in
set_option maxRecDepth 100000 in
theorem laws_toHouse.calls (k:Nat) (a0_0:Int) (a0_1:Bool) (a0_2:Int) (A0_3:Option Addr) (c0_3:Nat) (l0_3:List (S75)) (a0_4:Int) (r1:Int) (r2:Bool) (r3:Int) (r4:List (S62)) (r5:Int) (w:World) (hr0_3:Kd.C k75 w A0_3 l0_3.length l0_3) (hc0_3:l0_3.length≤c0_3) (h:laws_toHouse.f k a0_0 a0_1 a0_2 l0_3 a0_4=some (r1,r2,r3,r4,r5)) :
  Calls Try.prog 7 #[.agg #[.int .i64 a0_0,.bool a0_1,.int .i64 a0_2,.slice A0_3 l0_3.length c0_3,.int .i64 a0_4]] w fun e w'=>∃v3_:Value,e=.returned (.agg #[.int .i64 r1,.bool r2,.int .i64 r3,v3_,.int .i64 r5])∧Kd.S k62 62 w' w.heap.size (fun _=>True) v3_ r4∧Below w.heap.size w w':=by
 have hu26:=Try.underlying26
 have hu33:=Try.underlying33
 have hu24:=Try.underlying24
 have hu31:=Try.underlying31
 have HR0_3:=qam.mk hr0_3
 have HC0_3:=qam.mk hc0_3
 clear hr0_3 hc0_3
 have HB:=qam.mk (Below.refl w.heap.size w)
 have H:((laws_toLog.f k l0_3 a0_4).bind fun bt202=>(some (a0_0,a0_1,a0_2,bt202.1,bt202.2)))=some (r1,r2,r3,r4,r5):=h
 clear h
 replace H:=Option.bind_eq_some_iff.mp H
 obtain⟨⟨t202,t205⟩,A20,H⟩:=H
 replace H:(some (a0_0,a0_1,a0_2,t202,t205))=some (r1,r2,r3,r4,r5):=H
 have A2:=qam.mk A20
 clear A20
 simp only[Option.some.injEq,Prod.mk.injEq] at H
 obtain⟨rfl,rfl,rfl,rfl,rfl⟩:=H
 go_enter Try.func7,Try.ntmps7
 go_wp2_with(first|((with_reducible refine qak (N:=1) rfl ?_);refine qai ?hg (N:=1) ?hd (cs:=#[.int .i64 a0_0,.bool a0_1,.int .i64 a0_2,.slice A0_3 l0_3.length c0_3,.int .i64 a0_4]) (t:=26) ?hr ?_;(case hd=>rfl);(case hg=>rfl);(case hr=>first|(go_simp;done)|(go_simp;rfl));intro gb199 hg w3 hbox hb;have n0_:=qam.mk (qad (za2 HB) hb);have n1_:=qam.mk (hbox);have n2_:=qam.mk ((by rw[hg];exact(qac (za2 HB)):w.heap.size≤gb199));have n3_:=qam.mk ((by rw[hg];exact(qac (za2 HB)):w.heap.size≤gb199));clear HB;have HB:=n0_;have BK199:=n1_;have GW199:=n2_;have GE199:=n3_;clear n0_ n1_ n2_ n3_;clear hb hbox hg)|((with_reducible refine qak (N:=2) rfl ?_);refine qai ?hg (N:=2) ?hd (cs:=#[.int .i64 0,.bool false,.int .i64 0,.slice none 0 0,.int .i64 0]) (t:=33) ?hr ?_;(case hd=>rfl);(case hg=>rfl);(case hr=>first|(go_simp;done)|(go_simp;rfl));intro gb200 hg w4 hbox hb;have n0_:=qam.mk (qae (g:=gb199) (o:=.cells #[.int .i64 a0_0,.bool a0_1,.int .i64 a0_2,.slice A0_3 l0_3.length c0_3,.int .i64 a0_4] 26 (0,0)) (za0 BK199) hb);have n1_:=qam.mk (qad (za1 HB GE199) hb);have n2_:=qam.mk (hbox);have n3_:=qam.mk ((by rw[hg];exact(qac (za1 HB GE199)):w.heap.size≤gb200));have n4_:=qam.mk ((by rw[hg];exact(qac (za1 HB GE199)):w.heap.size≤gb200));have n5_:=qam.mk ((by rw[hg];exact Nat.ne_of_lt (qal (g:=gb199) (o:=.cells #[.int .i64 a0_0,.bool a0_1,.int .i64 a0_2,.slice A0_3 l0_3.length c0_3,.int .i64 a0_4] 26 (0,0)) (za0 BK199)):gb199≠gb200));have n6_:=qam.mk ((by rw[hg];exact Nat.ne_of_gt (qal (g:=gb199) (o:=.cells #[.int .i64 a0_0,.bool a0_1,.int .i64 a0_2,.slice A0_3 l0_3.length c0_3,.int .i64 a0_4] 26 (0,0)) (za0 BK199)):gb200≠gb199));clear BK199;clear HB;have BK199:=n0_;have HB:=n1_;have BK200:=n2_;have GW200:=n3_;have GE200:=n4_;have NB199_200:=n5_;have NB200_199:=n6_;clear n0_ n1_ n2_ n3_ n4_ n5_ n6_;clear hb hbox hg)|((with_reducible refine qak (N:=3) rfl ?_);refine qai ?hg (N:=3) ?hd (cs:=#[.int .i64 0,.bool false,.int .i64 0,.slice none 0 0,.int .i64 0]) (t:=33) ?hr ?_;(case hd=>rfl);(case hg=>rfl);(case hr=>first|(go_simp;done)|(go_simp;rfl));intro gb201 hg w5 hbox hb;have n0_:=qam.mk (qae (g:=gb199) (o:=.cells #[.int .i64 a0_0,.bool a0_1,.int .i64 a0_2,.slice A0_3 l0_3.length c0_3,.int .i64 a0_4] 26 (0,0)) (za0 BK199) hb);have n1_:=qam.mk (qae (g:=gb200) (o:=.cells #[.int .i64 0,.bool false,.int .i64 0,.slice none 0 0,.int .i64 0] 33 (0,0)) (za0 BK200) hb);have n2_:=qam.mk (qad (za3 HB GE199 GE200) hb);have n3_:=qam.mk (hbox);have n4_:=qam.mk ((by rw[hg];exact(qac (za3 HB GE199 GE200)):w.heap.size≤gb201));have n5_:=qam.mk ((by rw[hg];exact(qac (za3 HB GE199 GE200)):w.heap.size≤gb201));have n6_:=qam.mk ((by rw[hg];exact Nat.ne_of_lt (qal (g:=gb199) (o:=.cells #[.int .i64 a0_0,.bool a0_1,.int .i64 a0_2,.slice A0_3 l0_3.length c0_3,.int .i64 a0_4] 26 (0,0)) (za0 BK199)):gb199≠gb201));have n7_:=qam.mk ((by rw[hg];exact Nat.ne_of_gt (qal (g:=gb199) (o:=.cells #[.int .i64 a0_0,.bool a0_1,.int .i64 a0_2,.slice A0_3 l0_3.length c0_3,.int .i64 a0_4] 26 (0,0)) (za0 BK199)):gb201≠gb199));have n8_:=qam.mk ((by rw[hg];exact Nat.ne_of_lt (qal (g:=gb200) (o:=.cells #[.int .i64 0,.bool false,.int .i64 0,.slice none 0 0,.int .i64 0] 33 (0,0)) (za0 BK200)):gb200≠gb201));have n9_:=qam.mk ((by rw[hg];exact Nat.ne_of_gt (qal (g:=gb200) (o:=.cells #[.int .i64 0,.bool false,.int .i64 0,.slice none 0 0,.int .i64 0] 33 (0,0)) (za0 BK200)):gb201≠gb200));clear BK199;clear BK200;clear HB;have BK199:=n0_;have BK200:=n1_;have HB:=n2_;have BK201:=n3_;have GW201:=n4_;have GE201:=n5_;have NB199_201:=n6_;have NB201_199:=n7_;have NB200_201:=n8_;have NB201_200:=n9_;clear n0_ n1_ n2_ n3_ n4_ n5_ n6_ n7_ n8_ n9_;clear hb hbox hg;have hnb6:=NB199_200.out;have hnc6:=NB200_199.out;have hnb7:=NB199_201.out;have hnc7:=NB201_199.out;have hcz8_0:w5.cell? ⟨gb199,0,none⟩=some (.int .i64 a0_0):=(qab BK199.out 0).trans rfl;have hcz8_1:w5.cell? ⟨gb199,1,none⟩=some (.bool a0_1):=(qab BK199.out 1).trans rfl;have hcz8_2:w5.cell? ⟨gb199,2,none⟩=some (.int .i64 a0_2):=(qab BK199.out 2).trans rfl;have hcz8_3:w5.cell? ⟨gb199,3,none⟩=some (.slice A0_3 l0_3.length c0_3):=(qab BK199.out 3).trans rfl;have hcz8_4:w5.cell? ⟨gb199,4,none⟩=some (.int .i64 a0_4):=(qab BK199.out 4).trans rfl;have hfz8_0:=qaa BK199.out 0;have hfz8_1:=qaa BK199.out 1;have hfz8_2:=qaa BK199.out 2;have hfz8_3:=qaa BK199.out 3;have hfz8_4:=qaa BK199.out 4;have hnb9:=NB201_200.out;have hnc9:=NB200_201.out;have hcz10_0:w5.cell? ⟨gb201,0,none⟩=some (.int .i64 0):=(qab BK201.out 0).trans rfl;have hcz10_1:w5.cell? ⟨gb201,1,none⟩=some (.bool false):=(qab BK201.out 1).trans rfl;have hcz10_2:w5.cell? ⟨gb201,2,none⟩=some (.int .i64 0):=(qab BK201.out 2).trans rfl;have hcz10_3:w5.cell? ⟨gb201,3,none⟩=some (.slice none 0 0):=(qab BK201.out 3).trans rfl;have hcz10_4:w5.cell? ⟨gb201,4,none⟩=some (.int .i64 0):=(qab BK201.out 4).trans rfl;have hfz10_0:=qaa BK201.out 0;have hfz10_1:=qaa BK201.out 1;have hfz10_2:=qaa BK201.out 2;have hfz10_3:=qaa BK201.out 3;have hfz10_4:=qaa BK201.out 4)|((with_reducible refine qaj (f:=20) rfl ?_);refine goesL_ (some 15) rfl rfl Try.func20 (by kernel_rfl) rfl #[.agg #[.slice A0_3 l0_3.length c0_3,.int .i64 a0_4]] rfl (by(try simp only[List.map_toArray,List.map_cons,List.map_nil]);first|done|rfl|(simp only[List.length_drop,List.length_take];rfl)) ?_;(with_reducible refine(laws_toLog.calls k _ _ l0_3 a0_4 t202 t205 _ ?side1 ?side2 A2.out).mono ?_);(case side1=>exact Kd.C_below HR0_3.out (za5 HB GE199 GE200 GE201));(case side2=>exact HC0_3.out);rintro e w11 ⟨v203,rfl,ho0,hb⟩;refine⟨_,rfl,?_⟩;have n0_:=qam.mk (Kd.S_lower ho0 (qac (za5 HB GE199 GE200 GE201)));have n1_:=qam.mk (qae (g:=gb199) (o:=.cells #[.int .i64 a0_0,.bool a0_1,.int .i64 a0_2,.slice A0_3 l0_3.length c0_3,.int .i64 a0_4] 26 (0,0)) (za15 NB199_201 BK199) hb);have n2_:=qam.mk (qae (g:=gb200) (o:=.cells #[.int .i64 0,.bool false,.int .i64 0,.slice none 0 0,.int .i64 0] 33 (0,0)) (za15 NB200_201 BK200) hb);have n3_:=qam.mk (qae (g:=gb201) (o:=.cells #[.int .i64 a0_0,.bool a0_1,.int .i64 a0_2,.slice none 0 0,.int .i64 0] 33 (0,0)) (by(with_reducible repeat(first|refine qah ?_ _|refine qaf ?_|refine qag ?_ _));refine qan (cs:=#[.int .i64 a0_0,.bool a0_1,.int .i64 0,.slice none 0 0,.int .i64 0]) ?_ 2 _ rfl;(with_reducible repeat(first|refine qah ?_ _|refine qaf ?_|refine qag ?_ _));refine qan (cs:=#[.int .i64 a0_0,.bool false,.int .i64 0,.slice none 0 0,.int .i64 0]) ?_ 1 _ rfl;(with_reducible repeat(first|refine qah ?_ _|refine qaf ?_|refine qag ?_ _));refine qan (cs:=#[.int .i64 0,.bool false,.int .i64 0,.slice none 0 0,.int .i64 0]) ?_ 0 _ rfl;(with_reducible repeat(first|refine qah ?_ _|refine qaf ?_|refine qag ?_ _));exact BK201.out) hb);have n4_:=qam.mk (qad (za5 HB GE199 GE200 GE201) hb);clear BK199;clear BK200;clear BK201;clear HB;have HO204:=n0_;have BK199:=n1_;have BK200:=n2_;have BK201:=n3_;have HB:=n4_;clear n0_ n1_ n2_ n3_ n4_;(try clear hb);(try clear hb2);(try clear hk);(try clear hi);(try clear ho0);obtain⟨Ao12,co12,eo12⟩:=Kd.S_slice HO204.out;subst eo12;have hcz13_0:w11.cell? ⟨gb201,0,none⟩=some (.int .i64 a0_0):=(qab BK201.out 0).trans rfl;have hcz13_1:w11.cell? ⟨gb201,1,none⟩=some (.bool a0_1):=(qab BK201.out 1).trans rfl;have hcz13_2:w11.cell? ⟨gb201,2,none⟩=some (.int .i64 a0_2):=(qab BK201.out 2).trans rfl;have hcz13_3:w11.cell? ⟨gb201,3,none⟩=some (.slice none 0 0):=(qab BK201.out 3).trans rfl;have hcz13_4:w11.cell? ⟨gb201,4,none⟩=some (.int .i64 0):=(qab BK201.out 4).trans rfl;have hfz13_0:=qaa BK201.out 0;have hfz13_1:=qaa BK201.out 1;have hfz13_2:=qaa BK201.out 2;have hfz13_3:=qaa BK201.out 3;have hfz13_4:=qaa BK201.out 4;have hcz14_0:w11.cell? ⟨gb200,0,none⟩=some (.int .i64 0):=(qab BK200.out 0).trans rfl;have hcz14_1:w11.cell? ⟨gb200,1,none⟩=some (.bool false):=(qab BK200.out 1).trans rfl;have hcz14_2:w11.cell? ⟨gb200,2,none⟩=some (.int .i64 0):=(qab BK200.out 2).trans rfl;have hcz14_3:w11.cell? ⟨gb200,3,none⟩=some (.slice none 0 0):=(qab BK200.out 3).trans rfl;have hcz14_4:w11.cell? ⟨gb200,4,none⟩=some (.int .i64 0):=(qab BK200.out 4).trans rfl;have hfz14_0:=qaa BK200.out 0;have hfz14_1:=qaa BK200.out 1;have hfz14_2:=qaa BK200.out 2;have hfz14_3:=qaa BK200.out 3;have hfz14_4:=qaa BK200.out 4))
 refine bodyPost_ret (results_cell_row rfl _ _ gb200 33 #[.int .i64 a0_0,.bool a0_1,.int .i64 a0_2,.slice Ao12 t202.length co12,.int .i64 t205] (0,0) _ rfl (by(with_reducible repeat(first|refine qah ?_ _|refine qaf ?_|refine qag ?_ _));refine qan (cs:=#[.int .i64 a0_0,.bool a0_1,.int .i64 a0_2,.slice Ao12 t202.length co12,.int .i64 0]) ?_ 4 _ rfl;(with_reducible repeat(first|refine qah ?_ _|refine qaf ?_|refine qag ?_ _));refine qan (cs:=#[.int .i64 a0_0,.bool a0_1,.int .i64 a0_2,.slice none 0 0,.int .i64 0]) ?_ 3 _ rfl;(with_reducible repeat(first|refine qah ?_ _|refine qaf ?_|refine qag ?_ _));refine qan (cs:=#[.int .i64 a0_0,.bool a0_1,.int .i64 0,.slice none 0 0,.int .i64 0]) ?_ 2 _ rfl;(with_reducible repeat(first|refine qah ?_ _|refine qaf ?_|refine qag ?_ _));refine qan (cs:=#[.int .i64 a0_0,.bool false,.int .i64 0,.slice none 0 0,.int .i64 0]) ?_ 1 _ rfl;(with_reducible repeat(first|refine qah ?_ _|refine qaf ?_|refine qag ?_ _));refine qan (cs:=#[.int .i64 0,.bool false,.int .i64 0,.slice none 0 0,.int .i64 0]) ?_ 0 _ rfl;(with_reducible repeat(first|refine qah ?_ _|refine qaf ?_|refine qag ?_ _));refine blk_far ?_ NB200_201.out _;(with_reducible repeat(first|refine qah ?_ _|refine qaf ?_|refine qag ?_ _));refine blk_far ?_ NB200_201.out _;(with_reducible repeat(first|refine qah ?_ _|refine qaf ?_|refine qag ?_ _));exact BK200.out) Try.underlying33 rfl (by kernel_rfl)) rfl ?_
 exact⟨_,za8,by(with_reducible repeat(first|apply Kd.S_alloc|apply Kd.S_drewN|apply Kd.S_drew));exact Kd.S_mono (Kd.S_far (p:=⟨gb200,4,none⟩) (Kd.S_far (p:=⟨gb200,3,none⟩) (Kd.S_far (p:=⟨gb200,2,none⟩) (Kd.S_far (p:=⟨gb200,1,none⟩) (Kd.S_far (p:=⟨gb200,0,none⟩) (Kd.S_far (p:=⟨gb201,4,none⟩) (Kd.S_far (p:=⟨gb201,3,none⟩) (Kd.S_types (Kd.S_types HO204.out BK201.out (by decide)) BK200.out (by decide)) (fun _ hk=>hk.1.2) (.slice Ao12 t202.length co12)) (fun _ hk=>hk.1.2) (.int .i64 t205)) (fun _ hk=>hk.2) (.int .i64 a0_0)) (fun _ hk=>hk.2) (.bool a0_1)) (fun _ hk=>hk.2) (.int .i64 a0_2)) (fun _ hk=>hk.2) (.slice Ao12 t202.length co12)) (fun _ hk=>hk.2) (.int .i64 t205)) (fun _ hk=>trivial),za5 HB GE199 GE200 GE201⟩
def impl_in.f (a0:Int) (a1:Int) (a2:Int):Option (Bool):=if a0≥a1 then(some (decide (a0≤a2))) else(some false)
set_option maxHeartbeats 8000000 in
set_option maxRecDepth 100000 in
theorem impl_in.calls (a0:Int) (a1:Int) (a2:Int) (r:Bool) (w:World) (h:impl_in.f a0 a1 a2=some r) :
  Calls Try.prog 37 #[.int .i64 a0,.int .i64 a1,.int .i64 a2] w fun e w'=>e=.returned (.bool r)∧Drawn0 w w':=by
 have H:(if a0≥a1 then(some (decide (a0≤a2))) else(some false))=some r:=h
 clear h
 by_cases c4:a0≥a1
 ·rw[if_pos c4] at H
  have c4b0:decide (a1≤a0)=true:=decide_eq_true c4
  clear c4
  obtain rfl:=Option.some.inj H
  go_enter Try.func37,Try.ntmps37
  go_wp2
  go_ret
  exact⟨za11,za14⟩
 ·rw[if_neg c4] at H
  have c4b0:decide (a1≤a0)=false:=decide_eq_false c4
  clear c4
  obtain rfl:=Option.some.inj H
  go_enter Try.func37,Try.ntmps37
  go_wp2
  go_ret
  exact⟨za11,za14⟩
def impl_isHouse.f (a0:Int):Option (Bool):=(impl_in.f a0 1 3).bind fun t206=>(some t206)
set_option maxHeartbeats 8000000 in
set_option maxRecDepth 100000 in
theorem impl_isHouse.calls (a0:Int) (r:Bool) (w:World) (h:impl_isHouse.f a0=some r) :
  Calls Try.prog 21 #[.int .i64 a0] w fun e w'=>e=.returned (.bool r)∧Drawn0 w w':=by
 have H:((impl_in.f a0 1 3).bind fun t206=>(some t206))=some r:=h
 clear h
 replace H:=Option.bind_eq_some_iff.mp H
 obtain⟨t206,A20,H⟩:=H
 replace H:(some t206)=some r:=H
 have A2:=qam.mk A20
 clear A20
 obtain rfl:=Option.some.inj H
 go_enter Try.func21,Try.ntmps21
 go_wp2_with(first|((with_reducible refine qaj (f:=37) rfl ?_);refine goesL_ (some 4) rfl rfl Try.func37 (by kernel_rfl) rfl #[.int .i64 a0,.int .i64 1,.int .i64 3] rfl (by(try simp only[List.map_toArray,List.map_cons,List.map_nil]);first|done|rfl|(simp only[List.length_drop,List.length_take];rfl)) ?_;(with_reducible refine(impl_in.calls a0 1 3 t206 _ A2.out).mono ?_);rintro e w' ⟨rfl,⟨nd,rfl⟩⟩;refine⟨_,rfl,?_⟩))
 go_ret
 exact⟨za11,za14⟩
def impl_wantedOk_1.f (a0:Int):Option (Bool):=(impl_in.f a0 0 3).bind fun t207=>(some (!t207))
set_option maxHeartbeats 8000000 in
set_option maxRecDepth 100000 in
theorem impl_wantedOk_1.calls (a0:Int) (r:Bool) (w:World) (h:impl_wantedOk_1.f a0=some r) :
  Calls Try.prog 60 #[.int .i64 a0] w fun e w'=>e=.returned (.bool r)∧Drawn0 w w':=by
 have H:((impl_in.f a0 0 3).bind fun t207=>(some (!t207)))=some r:=h
 clear h
 replace H:=Option.bind_eq_some_iff.mp H
 obtain⟨t207,A20,H⟩:=H
 replace H:(some (!t207))=some r:=H
 have A2:=qam.mk A20
 clear A20
 obtain rfl:=Option.some.inj H
 go_enter Try.func60,Try.ntmps60
 go_wp2_with(first|((with_reducible refine qaj (f:=37) rfl ?_);refine goesL_ (some 4) rfl rfl Try.func37 (by kernel_rfl) rfl #[.int .i64 a0,.int .i64 0,.int .i64 3] rfl (by(try simp only[List.map_toArray,List.map_cons,List.map_nil]);first|done|rfl|(simp only[List.length_drop,List.length_take];rfl)) ?_;(with_reducible refine(impl_in.calls a0 0 3 t207 _ A2.out).mono ?_);rintro e w' ⟨rfl,⟨nd,rfl⟩⟩;refine⟨_,rfl,?_⟩))
 go_ret
 exact⟨za11,za14⟩
def impl_wantedOk_2.f (a0:Int):Option (Bool):=some (a0 != 0)
set_option maxHeartbeats 8000000 in
set_option maxRecDepth 100000 in
theorem impl_wantedOk_2.calls (a0:Int) (r:Bool) (w:World) (h:impl_wantedOk_2.f a0=some r) :
  Calls Try.prog 61 #[.int .i64 a0] w fun e w'=>e=.returned (.bool r)∧Drawn0 w w':=by
 have H:(some (a0 != 0))=some r:=h
 clear h
 obtain rfl:=Option.some.inj H
 go_enter Try.func61,Try.ntmps61
 go_wp2
 go_ret
 exact⟨za11,za14⟩
theorem drop_cons_rd {l:List Int} {k:Nat} (h:k<l.length):l.drop k=rd l (k:Int) :: l.drop (k+1):=by
 rw[List.drop_eq_getElem_cons h]
 simp[rd,List.getD_eq_getElem?_getD,List.getElem?_eq_getElem h]
set_option maxHeartbeats 4000000 in
theorem idx_int (p:Int→Option Bool) (g:Nat) (A0:Option Addr) (c0:Nat) (l0:List Int) (r:Bool) (w:World) (hr0:Kd.C (Kd.int .i64) w A0 l0.length l0) (hc0:l0.length≤c0)
  (eg:∀args w,(callFunc g args).run Try.prog w=.ok (.enter g args) w)
  (hg:∀(W:World) (x:Int) (b:Bool),p x=some b→Calls Try.prog g #[.int .i64 x] W fun e w'=>e=.returned (.bool b)∧Drawn0 W w') (h:anyO p l0=some r) :
  Calls Try.prog 66 #[.slice A0 l0.length c0,.func (.func g) #[] #[]] w (IdxQ r w):=by
 have HR:=qam.mk hr0
 have HG:=qam.mk hg
 have HH:=qam.mk h
 clear hr0 hc0 hg h
 have hbig:l0.length≤9223372036854775807:=by
  have:=HR.out
  exact this.2.1
 go_enter Try.func66,Try.ntmps66
 go_wp2
 go_loopg [5,8] l0.length (fun gg _ s8 wr=>∃kk q:Nat,kk≤l0.length∧l0.length - kk≤gg∧s8=.int .i64 kk∧wr=w.drewN q∧qam (anyO p (l0.drop kk)=some r))
 case atStart=>exact⟨0,0,Nat.zero_le _,by omega,rfl,rfl,HH⟩
 case round=>
  obtain⟨kk,q,hkk,hg',rfl,rfl,B⟩:=hrel
  clear HH
  by_cases hlt:kk<l0.length
  ·have hltz:(kk:Int)<(l0.length:Int):=by omega
   obtain⟨ad,e0,hcell⟩:=Kd.at_int HR.out (kk:Int) (by omega) hltz
   cases e0
   rw[Int.toNat_natCast] at hcell
   have B':=B.out
   rw[drop_cons_rd hlt] at B'
   obtain⟨b,hb,hb'⟩:=anyO_cons B'
   clear B B'
   have hcall:=fun W=>HG.out W _ b hb
   have HB:=qam.mk hb
   clear hb
   rcases hb' with⟨rfl,rfl⟩|⟨rfl,hb'⟩
   ·go_wp2_with(go_at_fn g;refine(hcall _).mono ?_;rintro e w' ⟨rfl,⟨q',rfl⟩⟩)
    go_ret
    exact⟨kk,rfl,by simp,⟨⟨_,rfl⟩⟩⟩
   ·have B2:=qam.mk hb'
    clear hb'
    go_wp2_with(go_at_fn g;refine(hcall _).mono ?_;rintro e w' ⟨rfl,⟨q',rfl⟩⟩)
    go_roundg (l0.length - (kk+1))
    case measure=>omega
    case rel=>exact⟨kk+1,_,by omega,by omega,by go_num,rfl,B2⟩
  ·have hltz:¬(kk:Int)<(l0.length:Int):=by omega
   have B':=B.out
   rw[List.drop_eq_nil_of_le (by omega)] at B'
   have hr:false=r:=by injection B'
   subst hr
   clear B'
   go_wp2
   go_ret
   exact⟨-1,rfl,by decide,⟨⟨q,rfl⟩⟩⟩
set_option maxHeartbeats 4000000 in
theorem contains_int (p:Int→Option Bool) (g:Nat) (A0:Option Addr) (c0:Nat) (l0:List Int) (r:Bool) (w:World) (hr0:Kd.C (Kd.int .i64) w A0 l0.length l0) (hc0:l0.length≤c0)
  (eg:∀args w,(callFunc g args).run Try.prog w=.ok (.enter g args) w)
  (hg:∀(W:World) (x:Int) (b:Bool),p x=some b→Calls Try.prog g #[.int .i64 x] W fun e w'=>e=.returned (.bool b)∧Drawn0 W w') (h:anyO p l0=some r) :
  Calls Try.prog 62 #[.slice A0 l0.length c0,.func (.func g) #[] #[]] w fun e w'=>e=.returned (.bool r)∧Drawn0 w w':=by
 have hI:=fun W=>idx_int p g A0 c0 l0 r W
 have HR:=qam.mk hr0
 have HG:=qam.mk hg
 have HH:=qam.mk h
 have HC:=qam.mk hc0
 clear hr0 hc0 hg h
 go_enter Try.func62,Try.ntmps62
 go_wp2_with(go_at_call 66;refine(hI _ HR.out HC.out eg HG.out HH.out).mono ?_;rintro e w' ⟨i,rfl,hi,⟨q,rfl⟩⟩)
 go_ret
 exact⟨by rw[←hi];rfl,⟨⟨_,rfl⟩⟩⟩
def impl_wantedOk.f (l0:List Int):Option (Bool):=if(l0.length:Int)=3 then((anyO impl_wantedOk_1.f l0).bind fun a=>if a=true then some false else anyO impl_wantedOk_2.f l0) else some false
set_option maxHeartbeats 8000000 in
set_option maxRecDepth 100000 in
theorem impl_wantedOk.calls (A0:Option Addr) (c0:Nat) (l0:List Int) (r:Bool) (w:World) (hr0:Kd.C (Kd.int .i64) w A0 l0.length l0) (hc0:l0.length≤c0) (h:impl_wantedOk.f l0=some r) :
  Calls Try.prog 51 #[.slice A0 l0.length c0] w fun e w'=>e=.returned (.bool r)∧Drawn0 w w':=by
 have HR:=qam.mk hr0
 have HC:=qam.mk hc0
 have c1:=fun(W:World) (r':Bool) (hr:Kd.C (Kd.int .i64) W A0 l0.length l0) (h:anyO impl_wantedOk_1.f l0=some r')=>contains_int impl_wantedOk_1.f 60 A0 c0 l0 r' W hr HC.out (enters_of Try.func60 (by kernel_rfl) rfl) (fun W x b hb=>impl_wantedOk_1.calls x b W hb) h
 have c2:=fun(W:World) (r':Bool) (hr:Kd.C (Kd.int .i64) W A0 l0.length l0) (h:anyO impl_wantedOk_2.f l0=some r')=>contains_int impl_wantedOk_2.f 61 A0 c0 l0 r' W hr HC.out (enters_of Try.func61 (by kernel_rfl) rfl) (fun W x b hb=>impl_wantedOk_2.calls x b W hb) h
 have C1:=qam.mk c1
 have C2:=qam.mk c2
 clear hr0 hc0 c1 c2
 unfold impl_wantedOk.f at h
 by_cases h3:(l0.length:Int)=3
 ·rw[if_pos h3] at h
  obtain⟨a,ha,h⟩:=Option.bind_eq_some_iff.mp h
  have h3b:((l0.length:Int) == 3)=true:=by simpa using h3
  clear h3
  cases a with
  |true=>
   rw[if_pos rfl] at h
   injection h with h
   subst h
   have HA:=qam.mk ha
   clear ha
   go_enter Try.func51,Try.ntmps51
   go_wp2_with(go_at_call 62;refine(C1.out _ true HR.out HA.out).mono ?_;rintro e w' ⟨rfl,⟨q,rfl⟩⟩)
   go_ret
   exact⟨rfl,⟨⟨_,rfl⟩⟩⟩
  |false=>
   rw[if_neg (by decide)] at h
   have HA:=qam.mk ha
   have HB:=qam.mk h
   clear ha h
   go_enter Try.func51,Try.ntmps51
   go_wp2_with fail
   go_at_call 62
   refine(C1.out _ false HR.out HA.out).mono ?_
   rintro e w' ⟨rfl,⟨q,rfl⟩⟩
   go_wp2_with fail
   go_at_call 62
   refine(C2.out _ r (by exact HR.out) HB.out).mono ?_
   rintro e w' ⟨rfl,⟨q2,rfl⟩⟩
   go_wp2_with fail
   go_ret
   exact⟨rfl,⟨⟨_,rfl⟩⟩⟩
 ·rw[if_neg h3] at h
  injection h with h
  subst h
  have h3b:((l0.length:Int) == 3)=false:=by simpa using h3
  clear h3
  go_enter Try.func51,Try.ntmps51
  go_wp2
  go_ret
  exact⟨rfl,⟨⟨0,rfl⟩⟩⟩
def impl_isTrip.f (a0:Int):Option (Bool):=(impl_in.f a0 1 6).bind fun t208=>(some t208)
set_option maxHeartbeats 8000000 in
set_option maxRecDepth 100000 in
theorem impl_isTrip.calls (a0:Int) (r:Bool) (w:World) (h:impl_isTrip.f a0=some r) :
  Calls Try.prog 52 #[.int .i64 a0] w fun e w'=>e=.returned (.bool r)∧Drawn0 w w':=by
 have H:((impl_in.f a0 1 6).bind fun t208=>(some t208))=some r:=h
 clear h
 replace H:=Option.bind_eq_some_iff.mp H
 obtain⟨t208,A20,H⟩:=H
 replace H:(some t208)=some r:=H
 have A2:=qam.mk A20
 clear A20
 obtain rfl:=Option.some.inj H
 go_enter Try.func52,Try.ntmps52
 go_wp2_with(first|((with_reducible refine qaj (f:=37) rfl ?_);refine goesL_ (some 4) rfl rfl Try.func37 (by kernel_rfl) rfl #[.int .i64 a0,.int .i64 1,.int .i64 6] rfl (by(try simp only[List.map_toArray,List.map_cons,List.map_nil]);first|done|rfl|(simp only[List.length_drop,List.length_take];rfl)) ?_;(with_reducible refine(impl_in.calls a0 1 6 t208 _ A2.out).mono ?_);rintro e w' ⟨rfl,⟨nd,rfl⟩⟩;refine⟨_,rfl,?_⟩))
 go_ret
 exact⟨za11,za14⟩
end Go.Proofs.Ytbomcadjkcmcgaa.Print
