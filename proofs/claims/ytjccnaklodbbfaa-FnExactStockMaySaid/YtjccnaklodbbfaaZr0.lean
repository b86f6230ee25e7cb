-- Written by squeeze.py, a program of this session, out of what print.sh and myprint.py had printed: cut to what is used, narrowed. Not trusted, Lean checks it.
import Derived.Test.YtjccnaklodbbfaaZK
namespace Go.Proofs.Ytjccnaklodbbfaa.Print
open Go.RowKit Go.Proofs.YtjccnaklodbbfaaW.PrintWords Go.Proofs.YtjccnaklodbbfaaW.PrintLast Go.Proofs.YtjccnaklodbbfaaW.PrintMore
attribute [local go_sem] max2_int min2_int max_two min_two max_three min_three max_four min_four
set_option linter.unusedVariables false
set_option linter.unusedSimpArgs false
def laws_szHoldS.f (l0:List (S131)) (a1:Int):Option (Int):=if(wrap64 (a1 - (l0.length:Int)))<0 then(some (-1)) else(some (wrap64 (a1 - (l0.length:Int))))
set_option maxHeartbeats 8000000 in
set_option maxRecDepth 100000 in
theorem laws_szHoldS.calls (A0:Option Addr) (c0:Nat) (l0:List (S131)) (a1:Int) (r:Int) (w:World) (hr0:Kd.C k131 w A0 l0.length l0) (hc0:l0.length≤c0) (h:laws_szHoldS.f l0 a1=some r) :
  Calls Try.prog 77 #[.slice A0 l0.length c0,.int .i64 a1] w fun e w'=>e=.returned (.int .i64 r)∧Drawn0 w w':=by
 have HR0:=qal.mk hr0
 have HC0:=qal.mk hc0
 clear hr0 hc0
 have H:(if(wrap64 (a1 - (l0.length:Int)))<0 then(some (-1)) else(some (wrap64 (a1 - (l0.length:Int)))))=some r:=h
 clear h
 by_cases c3:(wrap64 (a1 - (l0.length:Int)))<0
 ·rw[if_pos c3] at H
  have c3b0:decide ((wrap64 (a1 - (l0.length:Int)))<0)=true:=decide_eq_true c3
  clear c3
  obtain rfl:=Option.some.inj H
  go_enter Try.func77,Try.ntmps77
  go_wp2
  go_ret
  exact⟨za22,za44⟩
 ·rw[if_neg c3] at H
  have c3b0:decide ((wrap64 (a1 - (l0.length:Int)))<0)=false:=decide_eq_false c3
  clear c3
  obtain rfl:=Option.some.inj H
  go_enter Try.func77,Try.ntmps77
  go_wp2
  go_ret
  exact⟨za22,za44⟩
def laws_szStock.f (a0_0:Int) (l0_1:List (S131)) (a1:Int):Option (Int):=(laws_szHoldS.f l0_1 a1).bind fun t582=>(if t582<0 then(some (-1)) else(some t582))
set_option maxHeartbeats 8000000 in
set_option maxRecDepth 100000 in
theorem laws_szStock.calls (a0_0:Int) (A0_1:Option Addr) (c0_1:Nat) (l0_1:List (S131)) (a1:Int) (r:Int) (w:World) (hr0_1:Kd.C k131 w A0_1 l0_1.length l0_1) (hc0_1:l0_1.length≤c0_1) (h:laws_szStock.f a0_0 l0_1 a1=some r) :
  Calls Try.prog 35 #[.agg #[.int .i64 a0_0,.slice A0_1 l0_1.length c0_1],.int .i64 a1] w fun e w'=>e=.returned (.int .i64 r)∧Below w.heap.size w w':=by
 have hu54:=Try.underlying54
 have HR0_1:=qal.mk hr0_1
 have HC0_1:=qal.mk hc0_1
 clear hr0_1 hc0_1
 have HB:=qal.mk (Below.refl w.heap.size w)
 have H:((laws_szHoldS.f l0_1 a1).bind fun t582=>(if t582<0 then(some (-1)) else(some t582)))=some r:=h
 clear h
 replace H:=Option.bind_eq_some_iff.mp H
 obtain⟨t582,A30,H⟩:=H
 replace H:(if t582<0 then(some (-1)) else(some t582))=some r:=H
 have A3:=qal.mk A30
 clear A30
 by_cases c4:t582<0
 ·rw[if_pos c4] at H
  have c4b0:decide (t582<0)=true:=decide_eq_true c4
  clear c4
  obtain rfl:=Option.some.inj H
  go_enter Try.func35,Try.ntmps35
  go_wp2_with(first|((with_reducible refine qak (N:=2) rfl ?_);refine qaj ?hg (N:=2) ?hd (cs:=#[.int .i64 a0_0,.slice A0_1 l0_1.length c0_1]) (t:=54) ?hr ?_;(case hd=>rfl);(case hg=>rfl);(case hr=>first|(go_simp;done)|(go_simp;rfl));intro gb581 hg w5 hbox hb;have n0_:=qal.mk (qae (za2 HB) hb);have n1_:=qal.mk (hbox);have n2_:=qal.mk ((by rw[hg];exact(qad (za2 HB)):w.heap.size≤gb581));have n3_:=qal.mk ((by rw[hg];exact(qad (za2 HB)):w.heap.size≤gb581));clear HB;have HB:=n0_;have BK581:=n1_;have GW581:=n2_;have GE581:=n3_;clear n0_ n1_ n2_ n3_;clear hb hbox hg;have hcz6_0:w5.cell? ⟨gb581,0,none⟩=some (.int .i64 a0_0):=(qab BK581.out 0).trans rfl;have hcz6_1:w5.cell? ⟨gb581,1,none⟩=some (.slice A0_1 l0_1.length c0_1):=(qab BK581.out 1).trans rfl;have hfz6_0:=qaa BK581.out 0;have hfz6_1:=qaa BK581.out 1)|((with_reducible refine qai (f:=77) rfl ?_);refine qau (some 8) rfl rfl Try.func77 (by kernel_rfl) rfl #[.slice A0_1 l0_1.length c0_1,.int .i64 a1] rfl (by(try simp only[List.map_toArray,List.map_cons,List.map_nil]);first|done|rfl|(simp only[List.length_drop,List.length_take];rfl)) ?_;(with_reducible refine(laws_szHoldS.calls _ _ l0_1 a1 t582 _ ?side1 ?side2 A3.out).mono ?_);(case side1=>repeat(first|exact(Kd.C_below HR0_1.out HB.out)|(with_reducible refine Kd.C_alloc ?_ _)|(with_reducible refine Kd.C_drewN ?_ _)|(with_reducible refine Kd.C_drew ?_)));(case side2=>exact HC0_1.out);rintro e w' ⟨rfl,⟨nd,rfl⟩⟩;refine⟨_,rfl,?_⟩))
  go_ret
  exact⟨za9,za1 HB GE581⟩
 ·rw[if_neg c4] at H
  have c4b0:decide (t582<0)=false:=decide_eq_false c4
  clear c4
  obtain rfl:=Option.some.inj H
  go_enter Try.func35,Try.ntmps35
  go_wp2_with(first|((with_reducible refine qak (N:=2) rfl ?_);refine qaj ?hg (N:=2) ?hd (cs:=#[.int .i64 a0_0,.slice A0_1 l0_1.length c0_1]) (t:=54) ?hr ?_;(case hd=>rfl);(case hg=>rfl);(case hr=>first|(go_simp;done)|(go_simp;rfl));intro gb581 hg w7 hbox hb;have n0_:=qal.mk (qae (za2 HB) hb);have n1_:=qal.mk (hbox);have n2_:=qal.mk ((by rw[hg];exact(qad (za2 HB)):w.heap.size≤gb581));have n3_:=qal.mk ((by rw[hg];exact(qad (za2 HB)):w.heap.size≤gb581));clear HB;have HB:=n0_;have BK581:=n1_;have GW581:=n2_;have GE581:=n3_;clear n0_ n1_ n2_ n3_;clear hb hbox hg;have hcz8_0:w7.cell? ⟨gb581,0,none⟩=some (.int .i64 a0_0):=(qab BK581.out 0).trans rfl;have hcz8_1:w7.cell? ⟨gb581,1,none⟩=some (.slice A0_1 l0_1.length c0_1):=(qab BK581.out 1).trans rfl;have hfz8_0:=qaa BK581.out 0;have hfz8_1:=qaa BK581.out 1)|((with_reducible refine qai (f:=77) rfl ?_);refine qau (some 8) rfl rfl Try.func77 (by kernel_rfl) rfl #[.slice A0_1 l0_1.length c0_1,.int .i64 a1] rfl (by(try simp only[List.map_toArray,List.map_cons,List.map_nil]);first|done|rfl|(simp only[List.length_drop,List.length_take];rfl)) ?_;(with_reducible refine(laws_szHoldS.calls _ _ l0_1 a1 t582 _ ?side1 ?side2 A3.out).mono ?_);(case side1=>repeat(first|exact(Kd.C_below HR0_1.out HB.out)|(with_reducible refine Kd.C_alloc ?_ _)|(with_reducible refine Kd.C_drewN ?_ _)|(with_reducible refine Kd.C_drew ?_)));(case side2=>exact HC0_1.out);rintro e w' ⟨rfl,⟨nd,rfl⟩⟩;refine⟨_,rfl,?_⟩))
  go_ret
  exact⟨za9,za1 HB GE581⟩
def laws_toHold.f (a0_0:Int) (a0_1:Int):Option (Int × Int):=some (a0_0,a0_1)
set_option maxHeartbeats 8000000 in
set_option maxRecDepth 100000 in
theorem laws_toHold.calls (a0_0:Int) (a0_1:Int) (r1:Int) (r2:Int) (w:World) (h:laws_toHold.f a0_0 a0_1=some (r1,r2)) :
  Calls Try.prog 112 #[.agg #[.int .i64 a0_0,.int .i64 a0_1]] w fun e w'=>e=.returned (.agg #[.int .i64 r1,.int .i64 r2])∧Below w.heap.size w w':=by
 have hu131:=Try.underlying131
 have hu46:=Try.underlying46
 have HB:=qal.mk (Below.refl w.heap.size w)
 have H:(some (a0_0,a0_1))=some (r1,r2):=h
 clear h
 simp only[Option.some.injEq,Prod.mk.injEq] at H
 obtain⟨rfl,rfl⟩:=H
 go_enter Try.func112,Try.ntmps112
 go_wp2_with(first|((with_reducible refine qak (N:=1) rfl ?_);refine qaj ?hg (N:=1) ?hd (cs:=#[.int .i64 a0_0,.int .i64 a0_1]) (t:=131) ?hr ?_;(case hd=>rfl);(case hg=>rfl);(case hr=>first|(go_simp;done)|(go_simp;rfl));intro gb585 hg w2 hbox hb;have n0_:=qal.mk (qae (za2 HB) hb);have n1_:=qal.mk (hbox);have n2_:=qal.mk ((by rw[hg];exact(qad (za2 HB)):w.heap.size≤gb585));have n3_:=qal.mk ((by rw[hg];exact(qad (za2 HB)):w.heap.size≤gb585));clear HB;have HB:=n0_;have BK585:=n1_;have GW585:=n2_;have GE585:=n3_;clear n0_ n1_ n2_ n3_;clear hb hbox hg)|((with_reducible refine qak (N:=2) rfl ?_);refine qaj ?hg (N:=2) ?hd (cs:=#[.int .i64 0,.int .i64 0]) (t:=46) ?hr ?_;(case hd=>rfl);(case hg=>rfl);(case hr=>first|(go_simp;done)|(go_simp;rfl));intro gb586 hg w3 hbox hb;have n0_:=qal.mk (qac (g:=gb585) (o:=.cells #[.int .i64 a0_0,.int .i64 a0_1] 131 (0,0)) (za0 BK585) hb);have n1_:=qal.mk (qae (za1 HB GE585) hb);have n2_:=qal.mk (hbox);have n3_:=qal.mk ((by rw[hg];exact(qad (za1 HB GE585)):w.heap.size≤gb586));have n4_:=qal.mk ((by rw[hg];exact(qad (za1 HB GE585)):w.heap.size≤gb586));have n5_:=qal.mk ((by rw[hg];exact Nat.ne_of_lt (qao (g:=gb585) (o:=.cells #[.int .i64 a0_0,.int .i64 a0_1] 131 (0,0)) (za0 BK585)):gb585≠gb586));have n6_:=qal.mk ((by rw[hg];exact Nat.ne_of_gt (qao (g:=gb585) (o:=.cells #[.int .i64 a0_0,.int .i64 a0_1] 131 (0,0)) (za0 BK585)):gb586≠gb585));clear BK585;clear HB;have BK585:=n0_;have HB:=n1_;have BK586:=n2_;have GW586:=n3_;have GE586:=n4_;have NB585_586:=n5_;have NB586_585:=n6_;clear n0_ n1_ n2_ n3_ n4_ n5_ n6_;clear hb hbox hg)|((with_reducible refine qak (N:=3) rfl ?_);refine qaj ?hg (N:=3) ?hd (cs:=#[.int .i64 0,.int .i64 0]) (t:=46) ?hr ?_;(case hd=>rfl);(case hg=>rfl);(case hr=>first|(go_simp;done)|(go_simp;rfl));intro gb587 hg w4 hbox hb;have n0_:=qal.mk (qac (g:=gb585) (o:=.cells #[.int .i64 a0_0,.int .i64 a0_1] 131 (0,0)) (za0 BK585) hb);have n1_:=qal.mk (qac (g:=gb586) (o:=.cells #[.int .i64 0,.int .i64 0] 46 (0,0)) (za0 BK586) hb);have n2_:=qal.mk (qae (za3 HB GE585 GE586) hb);have n3_:=qal.mk (hbox);have n4_:=qal.mk ((by rw[hg];exact(qad (za3 HB GE585 GE586)):w.heap.size≤gb587));have n5_:=qal.mk ((by rw[hg];exact(qad (za3 HB GE585 GE586)):w.heap.size≤gb587));have n6_:=qal.mk ((by rw[hg];exact Nat.ne_of_lt (qao (g:=gb585) (o:=.cells #[.int .i64 a0_0,.int .i64 a0_1] 131 (0,0)) (za0 BK585)):gb585≠gb587));have n7_:=qal.mk ((by rw[hg];exact Nat.ne_of_gt (qao (g:=gb585) (o:=.cells #[.int .i64 a0_0,.int .i64 a0_1] 131 (0,0)) (za0 BK585)):gb587≠gb585));have n8_:=qal.mk ((by rw[hg];exact Nat.ne_of_lt (qao (g:=gb586) (o:=.cells #[.int .i64 0,.int .i64 0] 46 (0,0)) (za0 BK586)):gb586≠gb587));have n9_:=qal.mk ((by rw[hg];exact Nat.ne_of_gt (qao (g:=gb586) (o:=.cells #[.int .i64 0,.int .i64 0] 46 (0,0)) (za0 BK586)):gb587≠gb586));clear BK585;clear BK586;clear HB;have BK585:=n0_;have BK586:=n1_;have HB:=n2_;have BK587:=n3_;have GW587:=n4_;have GE587:=n5_;have NB585_587:=n6_;have NB587_585:=n7_;have NB586_587:=n8_;have NB587_586:=n9_;clear n0_ n1_ n2_ n3_ n4_ n5_ n6_ n7_ n8_ n9_;clear hb hbox hg;have hnb5:=NB585_586.out;have hnc5:=NB586_585.out;have hnb6:=NB585_587.out;have hnc6:=NB587_585.out;have hcz7_0:w4.cell? ⟨gb585,0,none⟩=some (.int .i64 a0_0):=(qab BK585.out 0).trans rfl;have hcz7_1:w4.cell? ⟨gb585,1,none⟩=some (.int .i64 a0_1):=(qab BK585.out 1).trans rfl;have hfz7_0:=qaa BK585.out 0;have hfz7_1:=qaa BK585.out 1;have hnb8:=NB587_586.out;have hnc8:=NB586_587.out;have hcz9_0:w4.cell? ⟨gb587,0,none⟩=some (.int .i64 0):=(qab BK587.out 0).trans rfl;have hcz9_1:w4.cell? ⟨gb587,1,none⟩=some (.int .i64 0):=(qab BK587.out 1).trans rfl;have hfz9_0:=qaa BK587.out 0;have hfz9_1:=qaa BK587.out 1;have hcz10_0:w4.cell? ⟨gb586,0,none⟩=some (.int .i64 0):=(qab BK586.out 0).trans rfl;have hcz10_1:w4.cell? ⟨gb586,1,none⟩=some (.int .i64 0):=(qab BK586.out 1).trans rfl;have hfz10_0:=qaa BK586.out 0;have hfz10_1:=qaa BK586.out 1))
 refine bodyPost_ret (results_cell_row rfl _ _ gb586 46 #[.int .i64 a0_0,.int .i64 a0_1] (0,0) _ rfl (by(with_reducible repeat(first|refine qag ?_ _|refine qah ?_|refine qaf ?_ _));refine qan (cs:=#[.int .i64 a0_0,.int .i64 0]) ?_ 1 _ rfl;(with_reducible repeat(first|refine qag ?_ _|refine qah ?_|refine qaf ?_ _));refine qan (cs:=#[.int .i64 0,.int .i64 0]) ?_ 0 _ rfl;(with_reducible repeat(first|refine qag ?_ _|refine qah ?_|refine qaf ?_ _));refine blk_far ?_ NB586_587.out _;(with_reducible repeat(first|refine qag ?_ _|refine qah ?_|refine qaf ?_ _));refine blk_far ?_ NB586_587.out _;(with_reducible repeat(first|refine qag ?_ _|refine qah ?_|refine qaf ?_ _));exact BK586.out) Try.underlying46 rfl (by kernel_rfl)) rfl ?_
 exact⟨za9,za6 HB GE585 GE586 GE587⟩
def laws_toHoldS.l0:Nat→List (S131)→List (S46)→Int→Option ((List (S46)))
 |0,_,_,_=>none
 |k+1,x0,x3,x4=>if x4<(x0.length:Int) then(if 0≤x4 then((laws_toHold.f ((rd_T131 x0 x4).f0) ((rd_T131 x0 x4).f1)).bind fun bt592=>(if x4<(x3.length:Int) then(laws_toHoldS.l0 k x0 (x3.set (x4:Int).toNat (⟨bt592.1,bt592.2⟩:S46)) (wrap64 (x4+1))) else(none))) else(none)) else(some x3)
def laws_toHoldS.f (k:Nat) (l0:List (S131)):Option ((List (S46))):=if 0≤(l0.length:Int) then(if((l0.length:Int):Int).toNat≤17592186044416 then(laws_toHoldS.l0 k l0 (List.replicate ((l0.length:Int):Int).toNat z46) 0) else(none)) else(none)
theorem laws_toHoldS.mono_l:∀k,(∀y0 y1 y2,LeO (laws_toHoldS.l0 k y0 y1 y2) (laws_toHoldS.l0 (k+1) y0 y1 y2))
 |0=>fun _ _ _ r h=>by simp[laws_toHoldS.l0] at h
 |k+1=>by
  have ih0:=laws_toHoldS.mono_l k
  ·intro y0 y1 y2
   unfold laws_toHoldS.l0
   repeat' first
   |(with_reducible exact ih0 _ _ _)
   |(with_reducible exact LeO.refl _)
   |(with_reducible exact LeO.none _)
   |(with_reducible refine LeO.ite ?_ ?_)
   |(with_reducible refine LeO.bind ?_ (fun _=>?_))
   |exact ih0 _ _ _
   |exact LeO.none _
   |refine LeO.ite ?_ ?_
   |refine LeO.bind ?_ (fun _=>?_)
theorem laws_toHoldS.mono:∀a0 k,LeO (laws_toHoldS.f k a0) (laws_toHoldS.f (k+1) a0):=by
 intro a0 k
 have ih0:=laws_toHoldS.mono_l k
 unfold laws_toHoldS.f
 repeat' first
   |(with_reducible exact ih0 _ _ _)
   |(with_reducible exact LeO.refl _)
   |(with_reducible exact LeO.none _)
   |(with_reducible refine LeO.ite ?_ ?_)
   |(with_reducible refine LeO.bind ?_ (fun _=>?_))
   |exact ih0 _ _ _
   |exact LeO.none _
   |refine LeO.ite ?_ ?_
   |refine LeO.bind ?_ (fun _=>?_)
set_option maxHeartbeats 8000000 in
set_option maxRecDepth 100000 in
theorem laws_toHoldS.calls (k:Nat) (A0:Option Addr) (c0:Nat) (l0:List (S131)) (r:List (S46)) (w:World) (hr0:Kd.C k131 w A0 l0.length l0) (hc0:l0.length≤c0) (h:laws_toHoldS.f k l0=some r) :
  Calls Try.prog 80 #[.slice A0 l0.length c0] w fun e w'=>∃v0_:Value,e=.returned (v0_)∧Kd.R k46 46 w' w.heap.size (fun _=>True) v0_ r∧Below w.heap.size w w':=by
 have hu131:=Try.underlying131
 have hu46:=Try.underlying46
 have HR0:=qal.mk hr0
 have HC0:=qal.mk hc0
 clear hr0 hc0
 have HB:=qal.mk (Below.refl w.heap.size w)
 have H:(if 0≤(l0.length:Int) then(if((l0.length:Int):Int).toNat≤17592186044416 then(laws_toHoldS.l0 k l0 (List.replicate ((l0.length:Int):Int).toNat z46) 0) else(none)) else(none))=some r:=h
 clear h
 by_cases c2:0≤(l0.length:Int)
 ·rw[if_pos c2] at H
  have c2b0:=eq_true c2
  have c2b1:decide (0≤(l0.length:Int))=true:=decide_eq_true c2
  clear c2
  by_cases c3:((l0.length:Int):Int).toNat≤17592186044416
  ·rw[if_pos c3] at H
   have c3b0:=eq_true c3
   have c3b1:decide (((l0.length:Int):Int).toNat≤17592186044416)=true:=decide_eq_true c3
   clear c3
   obtain⟨y588,hy588⟩:∃y_:List (S46),y_=(List.replicate ((l0.length:Int):Int).toNat z46):=⟨_,rfl⟩
   replace H:(laws_toHoldS.l0 k l0 y588 0)=some r:=by first|(rw[hy588];with_reducible exact H)|(have H2_:=(Option.bind_some _ _).symm.trans H;rw[hy588];with_reducible exact H2_)|(have H2_:=(Option.bind_some _ _).symm.trans H;with_reducible exact H2_)|with_reducible exact H|(rw[hy588];exact H)|exact H
   have Ny588:=qal.mk hy588
   clear hy588
   have H':=qal.mk H
   clear H
   go_enter Try.func80,Try.ntmps80
   go_wp2_with(first|((with_reducible refine qak (N:=7) rfl ?_);refine Kd.R_make k46 _ 46 rfl (N:=7) rfl 34 _ _ rfl (l0.length:Int) rfl rfl Try.underlying34 (.agg #[(.int .i64 0),(.int .i64 0)]) 16 info46 rfl (by decide) (by omega) z46 (ok:=fun _=>True) (okp:=fun _=>True) (k46_mkM _ _ _ z46 ) (fun _ hk=>hk) trivial (of_decide_eq_true (za8)) (Nat.le_trans (Nat.mul_le_mul_right _ (of_decide_eq_true (za8):(l0.length:Int).toNat≤17592186044416)) (by omega)) (Below.refl _ _) (Nat.le_refl _) ?_;intro v589 w4 ho5 hb hg_ hnew_;clear hg_ hnew_;(first|rw[←Ny588.out] at ho5|(simp only[Int.reduceToNat] at ho5;rw[←Ny588.out] at ho5));have n0_:=qal.mk (Kd.R_lower ho5 (qad (za2 HB)));have n1_:=qal.mk (qae (za2 HB) hb);clear HB;have HO590:=n0_;have HB:=n1_;clear n0_ n1_;clear hb ho5))
   go_loopg [4] k (fun kq v4 w'=>∃(x3_1:List (S46)) (x4_1:Int),v4=.int .i64 x4_1∧qal (laws_toHoldS.l0 kq l0 x3_1 x4_1=some r)∧qal (kq≤k)∧qal (Kd.R k46 46 w' w.heap.size (fun _=>True) v589 x3_1)∧qal (Below w.heap.size w w'))
   case atStart=>exact⟨(y588),(0),(za22),H',⟨Nat.le_refl _⟩,⟨za4 HO590⟩,⟨za2 HB⟩⟩
   case round=>
    clear H'
    try clear c2
    try clear c2b0
    try clear c2b1
    try clear p2
    try clear c3
    try clear c3b0
    try clear c3b1
    obtain⟨x3_1,x4_1,rfl,HA,HK1,HO_3,HB⟩:=hrel
    cases gk with
    |zero=>exact absurd HA.out (by simp[laws_toHoldS.l0])
    |succ k1=>
     have H:=HA.out
     clear HA
     simp only[laws_toHoldS.l0] at H
     by_cases c6:x4_1<(l0.length:Int)
     ·rw[if_pos c6] at H
      have c6b0:decide (x4_1<(l0.length:Int))=true:=decide_eq_true c6
      clear c6
      by_cases c7:0≤x4_1
      ·rw[if_pos c7] at H
       have c7b0:decide (0≤x4_1)=true:=decide_eq_true c7
       clear c7
       replace H:=Option.bind_eq_some_iff.mp H
       obtain⟨⟨t592,t593⟩,A80,H⟩:=H
       replace H:(if x4_1<(x3_1.length:Int) then(laws_toHoldS.l0 k1 l0 (x3_1.set (x4_1:Int).toNat (⟨t592,t593⟩:S46)) (wrap64 (x4_1+1))) else(none))=some r:=H
       have A8:=qal.mk A80
       clear A80
       by_cases c9:x4_1<(x3_1.length:Int)
       ·rw[if_pos c9] at H
        have c9b0:decide (x4_1<(x3_1.length:Int))=true:=decide_eq_true c9
        clear c9
        obtain⟨y594,hy594⟩:∃y_:List (S46),y_=(x3_1.set (x4_1:Int).toNat (⟨t592,t593⟩:S46)):=⟨_,rfl⟩
        replace H:(laws_toHoldS.l0 k1 l0 y594 (wrap64 (x4_1+1)))=some r:=by first|(rw[hy594];with_reducible exact H)|(have H2_:=(Option.bind_some _ _).symm.trans H;rw[hy594];with_reducible exact H2_)|(have H2_:=(Option.bind_some _ _).symm.trans H;with_reducible exact H2_)|with_reducible exact H|(rw[hy594];exact H)|exact H
        have Ny594:=qal.mk hy594
        clear hy594
        have H':=qal.mk H
        clear H
        have p591:0≤(x4_1:Int):=of_decide_eq_true (za8)
        have q591:x4_1<(l0.length:Int):=of_decide_eq_true (za8)
        obtain⟨ad591,e591,hx591_0,hx591_1⟩:=at_T131 HR0.out x4_1 p591 q591
        cases e591
        replace hx591_0:=(HB.out.cell (World.block_lt_of_cell? w _ hx591_0)).trans hx591_0
        replace hx591_1:=(HB.out.cell (World.block_lt_of_cell? w _ hx591_1)).trans hx591_1
        replace p591:=eq_true p591
        replace q591:=eq_true q591
        go_wp2_with(first|((with_reducible refine qai (f:=112) rfl ?_);refine qau (some 20) rfl rfl Try.func112 (by kernel_rfl) rfl #[.agg #[.int .i64 ((rd_T131 l0 x4_1).f0),.int .i64 ((rd_T131 l0 x4_1).f1)]] rfl (by(try simp only[List.map_toArray,List.map_cons,List.map_nil]);first|done|rfl|(simp only[List.length_drop,List.length_take];rfl)) ?_;(with_reducible refine(laws_toHold.calls ((rd_T131 l0 x4_1).f0) ((rd_T131 l0 x4_1).f1) t592 t593 _ A8.out).mono ?_);rintro e w11 ⟨rfl,hb⟩;refine⟨_,rfl,?_⟩;have n0_:=qal.mk (Kd.R_below (za4 HO_3) hb);have n1_:=qal.mk (qae (za2 HB) hb);clear HO_3;clear HB;have HO_3:=n0_;have HB:=n1_;clear n0_ n1_;(try clear hb);(try clear hb2);(try clear hk);(try clear hi);have p10:0≤(x4_1:Int):=of_decide_eq_true (za8);have q10:(x4_1:Int)<((x3_1.length:Int):Int):=of_decide_eq_true (za8);obtain⟨go10,co10,eo10,gb10,gl10,cl10,HG10⟩:=Kd.R_form HO_3.out (by omega);(first|cases eo10|(injection eo10 with ea_ en_ ec_;(first|subst ea_|(injection ea_ with ea_;subst ea_));subst ec_;clear en_));have GB10:=qal.mk gb10;have GG10:=qal.mk HG10;clear gb10 gl10 HG10;obtain⟨ce10,hcl10,hM10,hcc10,hfr10⟩:=Kd.R_elem HO_3.out z46 (x4_1:Int) p10 q10;obtain rfl:=k46_openM hM10;have hx10_0:w11.cell? ⟨go10,(x4_1:Int).toNat*2,none⟩=some (.int .i64 ((rd_T46 x3_1 x4_1).f0)):=hcc10 0 _ rfl;have hx10_1:w11.cell? ⟨go10,(x4_1:Int).toNat*2+1,none⟩=some (.int .i64 ((rd_T46 x3_1 x4_1).f1)):=hcc10 1 _ rfl;have hf10_0:w11.frozen? ⟨go10,(x4_1:Int).toNat*2,none⟩=false:=hfr10 0;have hf10_1:w11.frozen? ⟨go10,(x4_1:Int).toNat*2+1,none⟩=false:=hfr10 1;clear hcl10 hcc10 hfr10 hM10;replace p10:=eq_true p10;replace q10:=eq_true q10;have HX12:=qal.mk (show Kd.R k46 46 w11 w.heap.size (fun _=>True) (.slice (some ⟨go10,0,none⟩) x3_1.length co10) x3_1 from(za4 HO_3));obtain⟨ce12,hcl12,hM12,hcc12,hfr12⟩:=Kd.R_elem HX12.out z46 (x4_1:Int) (of_decide_eq_true (za8)) (by have h_:(x4_1:Int)<((x3_1.length:Int):Int):=of_decide_eq_true (za8);first|exact h_|(have e_:=(Kd.R_reads' HO_3.out).1;omega)|simpa using h_);obtain rfl:=k46_openM hM12;have HP12:=Kd.R_seg HX12.out (x4_1:Int) (of_decide_eq_true (za8)) (by have h_:(x4_1:Int)<((x3_1.length:Int):Int):=of_decide_eq_true (za8);first|exact h_|(have e_:=(Kd.R_reads' HO_3.out).1;omega)|simpa using h_) (seg:=[.int .i64 t592,.int .i64 t593]) (j:=0) hcl12 hcc12 (show 2≤2 from by decide) (x':=(⟨t592,t593⟩:S46)) (k46_mkM _ _ _ (⟨t592,t593⟩:S46) ) (fun _ hk=>hk);have hx12_0:=hcc12 0 _ rfl;(try simp only[show(k46).sz=2 from rfl,Nat.mul_one,Nat.add_zero] at hx12_0);have hf12_0:=hfr12 0;(try simp only[show(k46).sz=2 from rfl,Nat.mul_one,Nat.add_zero] at hf12_0);have hx12_1:=hcc12 1 _ rfl;(try simp only[show(k46).sz=2 from rfl,Nat.mul_one,Nat.add_zero] at hx12_1);have hf12_1:=hfr12 1;(try simp only[show(k46).sz=2 from rfl,Nat.mul_one,Nat.add_zero] at hf12_1);clear hcl12 hcc12 hfr12 hM12)|((with_reducible refine gate_store (t:=46) (p:=21) rfl ?_);refine store_event (t:=46) (p:=21) (v:=?vo_w13) (w1:=((w11.setCell ⟨go10,(x4_1:Int).toNat*2,none⟩ (.int .i64 t592)).setCell ⟨go10,(x4_1:Int).toNat*2+1,none⟩ (.int .i64 t593))) ?hg ?ho ?hn ?hr ?_;(case ho=>rfl);(case hg=>rfl);(case hn=>rfl);(case hr=>first|(go_simp;done)|(go_simp;rfl));intro w13 hw;have hg:w11.grownBy w13 (some go10):=(by rw[hw];exact HP12.2);have hp_:Kd.R k46 46 w13 w.heap.size (fun _=>True) (.slice (some ⟨go10,0,none⟩) x3_1.length co10) y594:=(by rw[hw,Ny594.out];exact HP12.1);clear HP12;have n0_:=qal.mk (hp_);have n1_:=qal.mk ((by rw[hw];exact qam (qam (HB.out) GB10.out) GB10.out:Below w.heap.size w w13));clear HO_3;clear HB;have HO_3:=n0_;have HB:=n1_;clear n0_ n1_;clear hg hw hp_))
        go_roundg k1
        case measure=>have:=HK1.out;omega
        case rel=>exact⟨(y594),(wrap64 (x4_1+1)),(za22),H',⟨by have:=HK1.out;omega⟩,⟨za4 HO_3⟩,⟨za2 HB⟩⟩
       ·rw[if_neg c9] at H
        exact absurd H (by simp)
      ·rw[if_neg c7] at H
       exact absurd H (by simp)
     ·rw[if_neg c6] at H
      have c6b0:decide (x4_1<(l0.length:Int))=false:=decide_eq_false c6
      clear c6
      obtain rfl:=Option.some.inj H
      go_wp2
      go_ret
      exact⟨_,za9,za4 HO_3,za2 HB⟩
  ·rw[if_neg c3] at H
   exact absurd H (by simp)
 ·rw[if_neg c2] at H
  exact absurd H (by simp)
def laws_toStock.f (k:Nat) (a0_0:Int) (l0_1:List (S131)):Option (Int × (List (S46))):=(laws_toHoldS.f k l0_1).bind fun t598=>(some (a0_0,t598))
theorem laws_toStock.mono:∀a0 a1 k,LeO (laws_toStock.f k a0 a1) (laws_toStock.f (k+1) a0 a1):=by
 intro a0 a1 k
 unfold laws_toStock.f
 repeat' first
   |(with_reducible exact laws_toHoldS.mono _ _)
   |(with_reducible exact LeO.refl _)
   |(with_reducible exact LeO.none _)
   |(with_reducible refine LeO.ite ?_ ?_)
   |(with_reducible refine LeO.bind ?_ (fun _=>?_))
   |exact laws_toHoldS.mono _ _
   |exact LeO.none _
   |refine LeO.ite ?_ ?_
   |refine LeO.bind ?_ (fun _=>?_)
set_option maxHeartbeats 8000000 in
set_option maxRecDepth 100000 in
theorem laws_toStock.calls (k:Nat) (a0_0:Int) (A0_1:Option Addr) (c0_1:Nat) (l0_1:List (S131)) (r1:Int) (r2:List (S46)) (w:World) (hr0_1:Kd.C k131 w A0_1 l0_1.length l0_1) (hc0_1:l0_1.length≤c0_1) (h:laws_toStock.f k a0_0 l0_1=some (r1,r2)) :
  Calls Try.prog 38 #[.agg #[.int .i64 a0_0,.slice A0_1 l0_1.length c0_1]] w fun e w'=>∃v1_:Value,e=.returned (.agg #[.int .i64 r1,v1_])∧Kd.R k46 46 w' w.heap.size (fun _=>True) v1_ r2∧Below w.heap.size w w':=by
 have hu54:=Try.underlying54
 have hu36:=Try.underlying36
 have HR0_1:=qal.mk hr0_1
 have HC0_1:=qal.mk hc0_1
 clear hr0_1 hc0_1
 have HB:=qal.mk (Below.refl w.heap.size w)
 have H:((laws_toHoldS.f k l0_1).bind fun t598=>(some (a0_0,t598)))=some (r1,r2):=h
 clear h
 replace H:=Option.bind_eq_some_iff.mp H
 obtain⟨t598,A20,H⟩:=H
 replace H:(some (a0_0,t598))=some (r1,r2):=H
 have A2:=qal.mk A20
 clear A20
 simp only[Option.some.injEq,Prod.mk.injEq] at H
 obtain⟨rfl,rfl⟩:=H
 go_enter Try.func38,Try.ntmps38
 go_wp2_with(first|((with_reducible refine qak (N:=1) rfl ?_);refine qaj ?hg (N:=1) ?hd (cs:=#[.int .i64 a0_0,.slice A0_1 l0_1.length c0_1]) (t:=54) ?hr ?_;(case hd=>rfl);(case hg=>rfl);(case hr=>first|(go_simp;done)|(go_simp;rfl));intro gb595 hg w3 hbox hb;have n0_:=qal.mk (qae (za2 HB) hb);have n1_:=qal.mk (hbox);have n2_:=qal.mk ((by rw[hg];exact(qad (za2 HB)):w.heap.size≤gb595));have n3_:=qal.mk ((by rw[hg];exact(qad (za2 HB)):w.heap.size≤gb595));clear HB;have HB:=n0_;have BK595:=n1_;have GW595:=n2_;have GE595:=n3_;clear n0_ n1_ n2_ n3_;clear hb hbox hg)|((with_reducible refine qak (N:=2) rfl ?_);refine qaj ?hg (N:=2) ?hd (cs:=#[.int .i64 0,.slice none 0 0]) (t:=36) ?hr ?_;(case hd=>rfl);(case hg=>rfl);(case hr=>first|(go_simp;done)|(go_simp;rfl));intro gb596 hg w4 hbox hb;have n0_:=qal.mk (qac (g:=gb595) (o:=.cells #[.int .i64 a0_0,.slice A0_1 l0_1.length c0_1] 54 (0,0)) (za0 BK595) hb);have n1_:=qal.mk (qae (za1 HB GE595) hb);have n2_:=qal.mk (hbox);have n3_:=qal.mk ((by rw[hg];exact(qad (za1 HB GE595)):w.heap.size≤gb596));have n4_:=qal.mk ((by rw[hg];exact(qad (za1 HB GE595)):w.heap.size≤gb596));have n5_:=qal.mk ((by rw[hg];exact Nat.ne_of_lt (qao (g:=gb595) (o:=.cells #[.int .i64 a0_0,.slice A0_1 l0_1.length c0_1] 54 (0,0)) (za0 BK595)):gb595≠gb596));have n6_:=qal.mk ((by rw[hg];exact Nat.ne_of_gt (qao (g:=gb595) (o:=.cells #[.int .i64 a0_0,.slice A0_1 l0_1.length c0_1] 54 (0,0)) (za0 BK595)):gb596≠gb595));clear BK595;clear HB;have BK595:=n0_;have HB:=n1_;have BK596:=n2_;have GW596:=n3_;have GE596:=n4_;have NB595_596:=n5_;have NB596_595:=n6_;clear n0_ n1_ n2_ n3_ n4_ n5_ n6_;clear hb hbox hg)|((with_reducible refine qak (N:=3) rfl ?_);refine qaj ?hg (N:=3) ?hd (cs:=#[.int .i64 0,.slice none 0 0]) (t:=36) ?hr ?_;(case hd=>rfl);(case hg=>rfl);(case hr=>first|(go_simp;done)|(go_simp;rfl));intro gb597 hg w5 hbox hb;have n0_:=qal.mk (qac (g:=gb595) (o:=.cells #[.int .i64 a0_0,.slice A0_1 l0_1.length c0_1] 54 (0,0)) (za0 BK595) hb);have n1_:=qal.mk (qac (g:=gb596) (o:=.cells #[.int .i64 0,.slice none 0 0] 36 (0,0)) (za0 BK596) hb);have n2_:=qal.mk (qae (za3 HB GE595 GE596) hb);have n3_:=qal.mk (hbox);have n4_:=qal.mk ((by rw[hg];exact(qad (za3 HB GE595 GE596)):w.heap.size≤gb597));have n5_:=qal.mk ((by rw[hg];exact(qad (za3 HB GE595 GE596)):w.heap.size≤gb597));have n6_:=qal.mk ((by rw[hg];exact Nat.ne_of_lt (qao (g:=gb595) (o:=.cells #[.int .i64 a0_0,.slice A0_1 l0_1.length c0_1] 54 (0,0)) (za0 BK595)):gb595≠gb597));have n7_:=qal.mk ((by rw[hg];exact Nat.ne_of_gt (qao (g:=gb595) (o:=.cells #[.int .i64 a0_0,.slice A0_1 l0_1.length c0_1] 54 (0,0)) (za0 BK595)):gb597≠gb595));have n8_:=qal.mk ((by rw[hg];exact Nat.ne_of_lt (qao (g:=gb596) (o:=.cells #[.int .i64 0,.slice none 0 0] 36 (0,0)) (za0 BK596)):gb596≠gb597));have n9_:=qal.mk ((by rw[hg];exact Nat.ne_of_gt (qao (g:=gb596) (o:=.cells #[.int .i64 0,.slice none 0 0] 36 (0,0)) (za0 BK596)):gb597≠gb596));clear BK595;clear BK596;clear HB;have BK595:=n0_;have BK596:=n1_;have HB:=n2_;have BK597:=n3_;have GW597:=n4_;have GE597:=n5_;have NB595_597:=n6_;have NB597_595:=n7_;have NB596_597:=n8_;have NB597_596:=n9_;clear n0_ n1_ n2_ n3_ n4_ n5_ n6_ n7_ n8_ n9_;clear hb hbox hg;have hnb6:=NB595_596.out;have hnc6:=NB596_595.out;have hnb7:=NB595_597.out;have hnc7:=NB597_595.out;have hcz8_0:w5.cell? ⟨gb595,0,none⟩=some (.int .i64 a0_0):=(qab BK595.out 0).trans rfl;have hcz8_1:w5.cell? ⟨gb595,1,none⟩=some (.slice A0_1 l0_1.length c0_1):=(qab BK595.out 1).trans rfl;have hfz8_0:=qaa BK595.out 0;have hfz8_1:=qaa BK595.out 1;have hnb9:=NB597_596.out;have hnc9:=NB596_597.out;have hcz10_0:w5.cell? ⟨gb597,0,none⟩=some (.int .i64 0):=(qab BK597.out 0).trans rfl;have hcz10_1:w5.cell? ⟨gb597,1,none⟩=some (.slice none 0 0):=(qab BK597.out 1).trans rfl;have hfz10_0:=qaa BK597.out 0;have hfz10_1:=qaa BK597.out 1)|((with_reducible refine qai (f:=80) rfl ?_);refine qau (some 9) rfl rfl Try.func80 (by kernel_rfl) rfl #[.slice A0_1 l0_1.length c0_1] rfl (by(try simp only[List.map_toArray,List.map_cons,List.map_nil]);first|done|rfl|(simp only[List.length_drop,List.length_take];rfl)) ?_;(with_reducible refine(laws_toHoldS.calls k _ _ l0_1 t598 _ ?side1 ?side2 A2.out).mono ?_);(case side1=>exact Kd.C_below HR0_1.out (za6 HB GE595 GE596 GE597));(case side2=>exact HC0_1.out);rintro e w11 ⟨v599,rfl,ho0,hb⟩;refine⟨_,rfl,?_⟩;have n0_:=qal.mk (Kd.R_lower ho0 (qad (za6 HB GE595 GE596 GE597)));have n1_:=qal.mk (qac (g:=gb595) (o:=.cells #[.int .i64 a0_0,.slice A0_1 l0_1.length c0_1] 54 (0,0)) (za14 NB595_597 BK595) hb);have n2_:=qal.mk (qac (g:=gb596) (o:=.cells #[.int .i64 0,.slice none 0 0] 36 (0,0)) (za14 NB596_597 BK596) hb);have n3_:=qal.mk (qac (g:=gb597) (o:=.cells #[.int .i64 a0_0,.slice none 0 0] 36 (0,0)) (by(with_reducible repeat(first|refine qag ?_ _|refine qah ?_|refine qaf ?_ _));refine qan (cs:=#[.int .i64 0,.slice none 0 0]) ?_ 0 _ rfl;(with_reducible repeat(first|refine qag ?_ _|refine qah ?_|refine qaf ?_ _));exact BK597.out) hb);have n4_:=qal.mk (qae (za6 HB GE595 GE596 GE597) hb);clear BK595;clear BK596;clear BK597;clear HB;have HO600:=n0_;have BK595:=n1_;have BK596:=n2_;have BK597:=n3_;have HB:=n4_;clear n0_ n1_ n2_ n3_ n4_;(try clear hb);(try clear hb2);(try clear hk);(try clear hi);(try clear ho0);obtain⟨Ao12,co12,eo12⟩:=Kd.R_slice HO600.out;subst eo12;have hcz13_0:w11.cell? ⟨gb597,0,none⟩=some (.int .i64 a0_0):=(qab BK597.out 0).trans rfl;have hcz13_1:w11.cell? ⟨gb597,1,none⟩=some (.slice none 0 0):=(qab BK597.out 1).trans rfl;have hfz13_0:=qaa BK597.out 0;have hfz13_1:=qaa BK597.out 1;have hcz14_0:w11.cell? ⟨gb596,0,none⟩=some (.int .i64 0):=(qab BK596.out 0).trans rfl;have hcz14_1:w11.cell? ⟨gb596,1,none⟩=some (.slice none 0 0):=(qab BK596.out 1).trans rfl;have hfz14_0:=qaa BK596.out 0;have hfz14_1:=qaa BK596.out 1))
 refine bodyPost_ret (results_cell_row rfl _ _ gb596 36 #[.int .i64 a0_0,.slice Ao12 t598.length co12] (0,0) _ rfl (by(with_reducible repeat(first|refine qag ?_ _|refine qah ?_|refine qaf ?_ _));refine qan (cs:=#[.int .i64 a0_0,.slice none 0 0]) ?_ 1 _ rfl;(with_reducible repeat(first|refine qag ?_ _|refine qah ?_|refine qaf ?_ _));refine qan (cs:=#[.int .i64 0,.slice none 0 0]) ?_ 0 _ rfl;(with_reducible repeat(first|refine qag ?_ _|refine qah ?_|refine qaf ?_ _));refine blk_far ?_ NB596_597.out _;(with_reducible repeat(first|refine qag ?_ _|refine qah ?_|refine qaf ?_ _));exact BK596.out) Try.underlying36 rfl (by kernel_rfl)) rfl ?_
 exact⟨_,za9,by(with_reducible repeat(first|apply Kd.R_alloc|apply Kd.R_drewN|apply Kd.R_drew));exact Kd.R_mono (Kd.R_far (p:=⟨gb596,1,none⟩) (Kd.R_far (p:=⟨gb596,0,none⟩) (Kd.R_far (p:=⟨gb597,1,none⟩) (Kd.R_types (Kd.R_types HO600.out BK597.out (by decide)) BK596.out (by decide)) (fun _ hk=>hk.1.2) (.slice Ao12 t598.length co12)) (fun _ hk=>hk.2) (.int .i64 a0_0)) (fun _ hk=>hk.2) (.slice Ao12 t598.length co12)) (fun _ hk=>trivial),za6 HB GE595 GE596 GE597⟩
def laws_eqHold.f (a0_0:Int) (a0_1:Int) (a1_0:Int) (a1_1:Int):Option (Bool):=if a0_0=a1_0 then(if a0_1=a1_1 then(some true) else(some false)) else(some false)
set_option maxHeartbeats 8000000 in
set_option maxRecDepth 100000 in
theorem laws_eqHold.calls (a0_0:Int) (a0_1:Int) (a1_0:Int) (a1_1:Int) (r:Bool) (w:World) (h:laws_eqHold.f a0_0 a0_1 a1_0 a1_1=some r) :
  Calls Try.prog 114 #[.agg #[.int .i64 a0_0,.int .i64 a0_1],.agg #[.int .i64 a1_0,.int .i64 a1_1]] w fun e w'=>e=.returned (.bool r)∧Below w.heap.size w w':=by
 have hu46:=Try.underlying46
 have HB:=qal.mk (Below.refl w.heap.size w)
 have H:(if a0_0=a1_0 then(if a0_1=a1_1 then(some true) else(some false)) else(some false))=some r:=h
 clear h
 by_cases c3:a0_0=a1_0
 ·rw[if_pos c3] at H
  have c3b0:(a0_0 == a1_0)=true:=beq_iff_eq.mpr c3
  have c3b1:(a0_0 != a1_0)=false:=bne_eq_false_iff_eq.mpr c3
  clear c3
  by_cases c4:a0_1=a1_1
  ·rw[if_pos c4] at H
   have c4b0:(a0_1 == a1_1)=true:=beq_iff_eq.mpr c4
   have c4b1:(a0_1 != a1_1)=false:=bne_eq_false_iff_eq.mpr c4
   clear c4
   obtain rfl:=Option.some.inj H
   go_enter Try.func114,Try.ntmps114
   go_wp2_with(first|((with_reducible refine qak (N:=2) rfl ?_);refine qaj ?hg (N:=2) ?hd (cs:=#[.int .i64 a0_0,.int .i64 a0_1]) (t:=46) ?hr ?_;(case hd=>rfl);(case hg=>rfl);(case hr=>first|(go_simp;done)|(go_simp;rfl));intro gb612 hg w5 hbox hb;have n0_:=qal.mk (qae (za2 HB) hb);have n1_:=qal.mk (hbox);have n2_:=qal.mk ((by rw[hg];exact(qad (za2 HB)):w.heap.size≤gb612));have n3_:=qal.mk ((by rw[hg];exact(qad (za2 HB)):w.heap.size≤gb612));clear HB;have HB:=n0_;have BK612:=n1_;have GW612:=n2_;have GE612:=n3_;clear n0_ n1_ n2_ n3_;clear hb hbox hg)|((with_reducible refine qak (N:=3) rfl ?_);refine qaj ?hg (N:=3) ?hd (cs:=#[.int .i64 a1_0,.int .i64 a1_1]) (t:=46) ?hr ?_;(case hd=>rfl);(case hg=>rfl);(case hr=>first|(go_simp;done)|(go_simp;rfl));intro gb613 hg w6 hbox hb;have n0_:=qal.mk (qac (g:=gb612) (o:=.cells #[.int .i64 a0_0,.int .i64 a0_1] 46 (0,0)) (za0 BK612) hb);have n1_:=qal.mk (qae (za1 HB GE612) hb);have n2_:=qal.mk (hbox);have n3_:=qal.mk ((by rw[hg];exact(qad (za1 HB GE612)):w.heap.size≤gb613));have n4_:=qal.mk ((by rw[hg];exact(qad (za1 HB GE612)):w.heap.size≤gb613));have n5_:=qal.mk ((by rw[hg];exact Nat.ne_of_lt (qao (g:=gb612) (o:=.cells #[.int .i64 a0_0,.int .i64 a0_1] 46 (0,0)) (za0 BK612)):gb612≠gb613));have n6_:=qal.mk ((by rw[hg];exact Nat.ne_of_gt (qao (g:=gb612) (o:=.cells #[.int .i64 a0_0,.int .i64 a0_1] 46 (0,0)) (za0 BK612)):gb613≠gb612));clear BK612;clear HB;have BK612:=n0_;have HB:=n1_;have BK613:=n2_;have GW613:=n3_;have GE613:=n4_;have NB612_613:=n5_;have NB613_612:=n6_;clear n0_ n1_ n2_ n3_ n4_ n5_ n6_;clear hb hbox hg;have hnb7:=NB612_613.out;have hnc7:=NB613_612.out;have hcz8_0:w6.cell? ⟨gb612,0,none⟩=some (.int .i64 a0_0):=(qab BK612.out 0).trans rfl;have hcz8_1:w6.cell? ⟨gb612,1,none⟩=some (.int .i64 a0_1):=(qab BK612.out 1).trans rfl;have hfz8_0:=qaa BK612.out 0;have hfz8_1:=qaa BK612.out 1;have hcz9_0:w6.cell? ⟨gb613,0,none⟩=some (.int .i64 a1_0):=(qab BK613.out 0).trans rfl;have hcz9_1:w6.cell? ⟨gb613,1,none⟩=some (.int .i64 a1_1):=(qab BK613.out 1).trans rfl;have hfz9_0:=qaa BK613.out 0;have hfz9_1:=qaa BK613.out 1))
   go_ret
   exact⟨za9,za3 HB GE612 GE613⟩
  ·rw[if_neg c4] at H
   have c4b0:(a0_1 == a1_1)=false:=beq_eq_false_iff_ne.mpr c4
   have c4b1:(a0_1 != a1_1)=true:=bne_iff_ne.mpr c4
   obtain rfl:=Option.some.inj H
   go_enter Try.func114,Try.ntmps114
   go_wp2_with(first|((with_reducible refine qak (N:=2) rfl ?_);refine qaj ?hg (N:=2) ?hd (cs:=#[.int .i64 a0_0,.int .i64 a0_1]) (t:=46) ?hr ?_;(case hd=>rfl);(case hg=>rfl);(case hr=>first|(go_simp;done)|(go_simp;rfl));intro gb612 hg w10 hbox hb;have n0_:=qal.mk (qae (za2 HB) hb);have n1_:=qal.mk (hbox);have n2_:=qal.mk ((by rw[hg];exact(qad (za2 HB)):w.heap.size≤gb612));have n3_:=qal.mk ((by rw[hg];exact(qad (za2 HB)):w.heap.size≤gb612));clear HB;have HB:=n0_;have BK612:=n1_;have GW612:=n2_;have GE612:=n3_;clear n0_ n1_ n2_ n3_;clear hb hbox hg)|((with_reducible refine qak (N:=3) rfl ?_);refine qaj ?hg (N:=3) ?hd (cs:=#[.int .i64 a1_0,.int .i64 a1_1]) (t:=46) ?hr ?_;(case hd=>rfl);(case hg=>rfl);(case hr=>first|(go_simp;done)|(go_simp;rfl));intro gb613 hg w11 hbox hb;have n0_:=qal.mk (qac (g:=gb612) (o:=.cells #[.int .i64 a0_0,.int .i64 a0_1] 46 (0,0)) (za0 BK612) hb);have n1_:=qal.mk (qae (za1 HB GE612) hb);have n2_:=qal.mk (hbox);have n3_:=qal.mk ((by rw[hg];exact(qad (za1 HB GE612)):w.heap.size≤gb613));have n4_:=qal.mk ((by rw[hg];exact(qad (za1 HB GE612)):w.heap.size≤gb613));have n5_:=qal.mk ((by rw[hg];exact Nat.ne_of_lt (qao (g:=gb612) (o:=.cells #[.int .i64 a0_0,.int .i64 a0_1] 46 (0,0)) (za0 BK612)):gb612≠gb613));have n6_:=qal.mk ((by rw[hg];exact Nat.ne_of_gt (qao (g:=gb612) (o:=.cells #[.int .i64 a0_0,.int .i64 a0_1] 46 (0,0)) (za0 BK612)):gb613≠gb612));clear BK612;clear HB;have BK612:=n0_;have HB:=n1_;have BK613:=n2_;have GW613:=n3_;have GE613:=n4_;have NB612_613:=n5_;have NB613_612:=n6_;clear n0_ n1_ n2_ n3_ n4_ n5_ n6_;clear hb hbox hg;have hnb12:=NB612_613.out;have hnc12:=NB613_612.out;have hcz13_0:w11.cell? ⟨gb612,0,none⟩=some (.int .i64 a0_0):=(qab BK612.out 0).trans rfl;have hcz13_1:w11.cell? ⟨gb612,1,none⟩=some (.int .i64 a0_1):=(qab BK612.out 1).trans rfl;have hfz13_0:=qaa BK612.out 0;have hfz13_1:=qaa BK612.out 1;have hcz14_0:w11.cell? ⟨gb613,0,none⟩=some (.int .i64 a1_0):=(qab BK613.out 0).trans rfl;have hcz14_1:w11.cell? ⟨gb613,1,none⟩=some (.int .i64 a1_1):=(qab BK613.out 1).trans rfl;have hfz14_0:=qaa BK613.out 0;have hfz14_1:=qaa BK613.out 1))
   go_ret
   exact⟨za9,za3 HB GE612 GE613⟩
 ·rw[if_neg c3] at H
  have c3b0:(a0_0 == a1_0)=false:=beq_eq_false_iff_ne.mpr c3
  have c3b1:(a0_0 != a1_0)=true:=bne_iff_ne.mpr c3
  obtain rfl:=Option.some.inj H
  go_enter Try.func114,Try.ntmps114
  go_wp2_with(first|((with_reducible refine qak (N:=2) rfl ?_);refine qaj ?hg (N:=2) ?hd (cs:=#[.int .i64 a0_0,.int .i64 a0_1]) (t:=46) ?hr ?_;(case hd=>rfl);(case hg=>rfl);(case hr=>first|(go_simp;done)|(go_simp;rfl));intro gb612 hg w15 hbox hb;have n0_:=qal.mk (qae (za2 HB) hb);have n1_:=qal.mk (hbox);have n2_:=qal.mk ((by rw[hg];exact(qad (za2 HB)):w.heap.size≤gb612));have n3_:=qal.mk ((by rw[hg];exact(qad (za2 HB)):w.heap.size≤gb612));clear HB;have HB:=n0_;have BK612:=n1_;have GW612:=n2_;have GE612:=n3_;clear n0_ n1_ n2_ n3_;clear hb hbox hg)|((with_reducible refine qak (N:=3) rfl ?_);refine qaj ?hg (N:=3) ?hd (cs:=#[.int .i64 a1_0,.int .i64 a1_1]) (t:=46) ?hr ?_;(case hd=>rfl);(case hg=>rfl);(case hr=>first|(go_simp;done)|(go_simp;rfl));intro gb613 hg w16 hbox hb;have n0_:=qal.mk (qac (g:=gb612) (o:=.cells #[.int .i64 a0_0,.int .i64 a0_1] 46 (0,0)) (za0 BK612) hb);have n1_:=qal.mk (qae (za1 HB GE612) hb);have n2_:=qal.mk (hbox);have n3_:=qal.mk ((by rw[hg];exact(qad (za1 HB GE612)):w.heap.size≤gb613));have n4_:=qal.mk ((by rw[hg];exact(qad (za1 HB GE612)):w.heap.size≤gb613));have n5_:=qal.mk ((by rw[hg];exact Nat.ne_of_lt (qao (g:=gb612) (o:=.cells #[.int .i64 a0_0,.int .i64 a0_1] 46 (0,0)) (za0 BK612)):gb612≠gb613));have n6_:=qal.mk ((by rw[hg];exact Nat.ne_of_gt (qao (g:=gb612) (o:=.cells #[.int .i64 a0_0,.int .i64 a0_1] 46 (0,0)) (za0 BK612)):gb613≠gb612));clear BK612;clear HB;have BK612:=n0_;have HB:=n1_;have BK613:=n2_;have GW613:=n3_;have GE613:=n4_;have NB612_613:=n5_;have NB613_612:=n6_;clear n0_ n1_ n2_ n3_ n4_ n5_ n6_;clear hb hbox hg;have hnb17:=NB612_613.out;have hnc17:=NB613_612.out;have hcz18_0:w16.cell? ⟨gb612,0,none⟩=some (.int .i64 a0_0):=(qab BK612.out 0).trans rfl;have hcz18_1:w16.cell? ⟨gb612,1,none⟩=some (.int .i64 a0_1):=(qab BK612.out 1).trans rfl;have hfz18_0:=qaa BK612.out 0;have hfz18_1:=qaa BK612.out 1;have hcz19_0:w16.cell? ⟨gb613,0,none⟩=some (.int .i64 a1_0):=(qab BK613.out 0).trans rfl;have hcz19_1:w16.cell? ⟨gb613,1,none⟩=some (.int .i64 a1_1):=(qab BK613.out 1).trans rfl;have hfz19_0:=qaa BK613.out 0;have hfz19_1:=qaa BK613.out 1))
  go_ret
  exact⟨za9,za3 HB GE612 GE613⟩
end Go.Proofs.Ytjccnaklodbbfaa.Print
