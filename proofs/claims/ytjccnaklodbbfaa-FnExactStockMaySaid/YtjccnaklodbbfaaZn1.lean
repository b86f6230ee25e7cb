-- Written by squeeze.py, a program of this session, out of what print.sh and myprint.py had printed: cut to what is used, narrowed. Not trusted, Lean checks it.
import Derived.Test.YtjccnaklodbbfaaZK
import Derived.Test.YtjccnaklodbbfaaZl2
import Derived.Test.YtjccnaklodbbfaaZn0
namespace Go.Proofs.Ytjccnaklodbbfaa.Print
open Go.RowKit Go.Proofs.YtjccnaklodbbfaaW.PrintWords Go.Proofs.YtjccnaklodbbfaaW.PrintLast Go.Proofs.YtjccnaklodbbfaaW.PrintMore
attribute [local go_sem] max2_int min2_int max_two min_two max_three min_three max_four min_four
set_option linter.unusedVariables false
set_option linter.unusedSimpArgs false
def spec_l2Copy.f (a0_0:Int) (l0_1:List (S46)):Option (Int × (List (S46))):=(some (([]:List (S46)):List (S46))).bind fun y326=>(if y326.length+l0_1.length<8796093022208 then(some (a0_0,(y326++l0_1))) else(none))
def spec_l2Copy.T1:Bool × List (List Nat × List Nat):=(true,[([],[]),([0],[0]),([],[]),([],[]),([3],[3]),([2,4],[2,4]),([1,5],[1,5]),([6,5,0,1,2,3,4,5,6],[6])])
def spec_l2Copy.B1:List Nat:=[0,1,0,0,8,28,63,127]
theorem spec_l2Copy.tab1:rtab .any (opsOf Try.f131 1)=spec_l2Copy.T1:=by kernel_rfl
theorem spec_l2Copy.bits1:waitsOk spec_l2Copy.T1.2 spec_l2Copy.B1=true:=by kernel_rfl
set_option maxHeartbeats 8000000 in
set_option maxRecDepth 100000 in
theorem spec_l2Copy.calls (a0_0:Int) (A0_1:Option Addr) (c0_1:Nat) (l0_1:List (S46)) (r1:Int) (r2:List (S46)) (w:World) (hr0_1:Kd.C k46 w A0_1 l0_1.length l0_1) (hc0_1:l0_1.length≤c0_1) (h:spec_l2Copy.f a0_0 l0_1=some (r1,r2)) :
  Calls Try.prog 131 #[.agg #[.int .i64 a0_0,.slice A0_1 l0_1.length c0_1]] w fun e w'=>∃v1_:Value,e=.returned (.agg #[.int .i64 r1,v1_])∧Kd.R k46 46 w' w.heap.size (fun _=>True) v1_ r2∧Below w.heap.size w w':=by
 have hu36:=Try.underlying36
 have HR0_1:=qal.mk hr0_1
 have HC0_1:=qal.mk hc0_1
 clear hr0_1 hc0_1
 have HB:=qal.mk (Below.refl w.heap.size w)
 have H:((some (([]:List (S46)):List (S46))).bind fun y326=>(if y326.length+l0_1.length<8796093022208 then(some (a0_0,(y326++l0_1))) else(none)))=some (r1,r2):=h
 clear h
 obtain⟨y326,hy326⟩:∃y_:List (S46),y_=(([]:List (S46))):=⟨_,rfl⟩
 replace H:(if y326.length+l0_1.length<8796093022208 then(some (a0_0,(y326++l0_1))) else(none))=some (r1,r2):=by first|(rw[hy326];with_reducible exact H)|(have H2_:=(Option.bind_some _ _).symm.trans H;rw[hy326];with_reducible exact H2_)|(have H2_:=(Option.bind_some _ _).symm.trans H;with_reducible exact H2_)|with_reducible exact H|(rw[hy326];exact H)|exact H
 have Ny326:=qal.mk hy326
 clear hy326
 by_cases c2:y326.length+l0_1.length<8796093022208
 ·rw[if_pos c2] at H
  have LMc2:=qal.mk c2
  clear c2
  obtain⟨y329,hy329⟩:∃y_:List (S46),y_=(y326++l0_1):=⟨_,rfl⟩
  replace H:(some (a0_0,y329))=some (r1,r2):=by first|(rw[hy329];with_reducible exact H)|(have H2_:=(Option.bind_some _ _).symm.trans H;rw[hy329];with_reducible exact H2_)|(have H2_:=(Option.bind_some _ _).symm.trans H;with_reducible exact H2_)|with_reducible exact H|(rw[hy329];exact H)|exact H
  have Ny329:=qal.mk hy329
  clear hy329
  simp only[Option.some.injEq,Prod.mk.injEq] at H
  obtain⟨rfl,rfl⟩:=H
  go_enter Try.func131,Try.ntmps131
  try go_wp2_with(first|((with_reducible refine qak (N:=1) rfl ?_);refine qaj ?hg (N:=1) ?hd (cs:=#[.int .i64 a0_0,.slice A0_1 l0_1.length c0_1]) (t:=36) ?hr ?_;(case hd=>rfl);(case hg=>rfl);(case hr=>first|(go_simp;done)|(go_simp;rfl));intro gb324 hg w3 hbox hb;have n0_:=qal.mk (qae (za2 HB) hb);have n1_:=qal.mk (hbox);have n2_:=qal.mk ((by rw[hg];exact(qad (za2 HB)):w.heap.size≤gb324));have n3_:=qal.mk ((by rw[hg];exact(qad (za2 HB)):w.heap.size≤gb324));clear HB;have HB:=n0_;have BK324:=n1_;have GW324:=n2_;have GE324:=n3_;clear n0_ n1_ n2_ n3_;clear hb hbox hg)|((with_reducible refine qak (N:=2) rfl ?_);refine qaj ?hg (N:=2) ?hd (cs:=#[.int .i64 0,.slice none 0 0]) (t:=36) ?hr ?_;(case hd=>rfl);(case hg=>rfl);(case hr=>first|(go_simp;done)|(go_simp;rfl));intro gb325 hg w4 hbox hb;have n0_:=qal.mk (qac (g:=gb324) (o:=.cells #[.int .i64 a0_0,.slice A0_1 l0_1.length c0_1] 36 (0,0)) (za0 BK324) hb);have n1_:=qal.mk (qae (za1 HB GE324) hb);have n2_:=qal.mk (hbox);have n3_:=qal.mk ((by rw[hg];exact(qad (za1 HB GE324)):w.heap.size≤gb325));have n4_:=qal.mk ((by rw[hg];exact(qad (za1 HB GE324)):w.heap.size≤gb325));have n5_:=qal.mk ((by rw[hg];exact Nat.ne_of_lt (qao (g:=gb324) (o:=.cells #[.int .i64 a0_0,.slice A0_1 l0_1.length c0_1] 36 (0,0)) (za0 BK324)):gb324≠gb325));have n6_:=qal.mk ((by rw[hg];exact Nat.ne_of_gt (qao (g:=gb324) (o:=.cells #[.int .i64 a0_0,.slice A0_1 l0_1.length c0_1] 36 (0,0)) (za0 BK324)):gb325≠gb324));clear BK324;clear HB;have BK324:=n0_;have HB:=n1_;have BK325:=n2_;have GW325:=n3_;have GE325:=n4_;have NB324_325:=n5_;have NB325_324:=n6_;clear n0_ n1_ n2_ n3_ n4_ n5_ n6_;clear hb hbox hg))
  have n0_:=qal.mk (qah BK324.out)
  have n1_:=qal.mk (qah BK325.out)
  have n2_:=qal.mk (qaq HB.out)
  clear BK324
  clear BK325
  clear HB
  have BK324:=n0_
  have BK325:=n1_
  have HB:=n2_
  clear n0_ n1_ n2_
  refine start_ (n:=8) (S:=fun w'=>w'.cell? ⟨gb324,0,none⟩=some (.int .i64 a0_0)∧w'.cell? ⟨gb324,1,none⟩=some (.slice A0_1 l0_1.length c0_1)) (ds:=[]) #[false,false,false,false,false,false,false,false] (by kernel_rfl) rfl rfl ⟨(qab BK324.out 0).trans rfl,(qab BK324.out 1).trans rfl⟩ (fun hHeld=>?_);refine with_tabW spec_l2Copy.tab1 spec_l2Copy.bits1 (fun HT_ HW_=>?_)
  generalize w4.drew=w5 at BK324 BK325 HB hHeld ⊢
  refine qaz (i:=0) (N:=some 3) (v:=?_) (a':=?_) #[true,false,false,false,false,false,false,false] rfl rfl (qax HT_.out (by kernel_rfl)) (fun _ _ _ h=>h) (Or.inl ⟨by rfl,?_⟩) ?_ ?_
  rotate_left
  ·intro w'
   go_simp
   with_reducible rfl
  rotate_left
  ·simp only[Act.put,List.setIfInBounds_toArray,List.set_cons_zero,List.set_cons_succ,qas,qat]
   rfl
  refine qaz (i:=3) (N:=some 6) (v:=?_) (a':=?_) #[true,false,false,true,false,false,false,false] rfl rfl (qax HT_.out (by kernel_rfl)) (fun _ _ _ h=>h) (Or.inl ⟨by rfl,?_⟩) ?_ ?_
  rotate_left
  ·intro w'
   go_simp
   with_reducible rfl
  rotate_left
  ·simp only[Act.put,List.setIfInBounds_toArray,List.set_cons_zero,List.set_cons_succ,qas,qat]
   rfl
  refine take_ (i:=1) (N:=some 4) (v:=?_) (a':=?_) #[true,true,false,true,false,false,false,false] rfl rfl (take_ofW HT_.out HW_.out (by kernel_rfl)) (fun _ _ _ h=>h) (Or.inl ⟨by rfl,?_⟩) hHeld ?_ ?_
  rotate_left
  ·rintro w' ⟨s0,s1⟩
   go_simp
   with_reducible rfl
  rotate_left
  ·simp only[Act.put,List.setIfInBounds_toArray,List.set_cons_zero,List.set_cons_succ,qas,qat]
   rfl
  refine take_ (i:=4) (N:=some 7) (v:=?_) (a':=?_) #[true,true,false,true,true,false,false,false] rfl rfl (take_ofW HT_.out HW_.out (by kernel_rfl)) (fun _ _ _ h=>h) (Or.inl ⟨by rfl,?_⟩) hHeld ?_ ?_
  rotate_left
  ·rintro w' ⟨s0,s1⟩
   go_simp
   with_reducible rfl
  rotate_left
  ·simp only[Act.put,List.setIfInBounds_toArray,List.set_cons_zero,List.set_cons_succ,qas,qat]
   rfl
  refine one_ (i:=2) (N:=some 5) #[true,true,true,true,true,false,false,false] rfl rfl (one_of HT_.out (by kernel_rfl)) (by decide) (fun K hK=>?_)
  refine Kd.R_lit_step k46 _ 46 ?hg (N:=5) ?hd (xs:=([]:List (S46))) (inner:=[]) (ok:=fun _=>True) (okp:=fun _=>True) ?hr ?hp (fun _ hk=>hk) trivial (Below.refl _ _) (Nat.le_refl _) (by simp) ?_;(case hd=>rfl);(case hg=>rfl);(case hr=>first|(go_simp;done)|(go_simp;rfl));(case hp=>exact(Reps.none _ _))
  intro v327 w6 ho7 hb hg_ hnew_
  clear hg_ hnew_
  (first|rw[←Ny326.out] at ho7|(simp only[Int.reduceToNat] at ho7;rw[←Ny326.out] at ho7))
  have n0_:=qal.mk (Kd.R_lower ho7 (qad (za3 HB GE324 GE325)))
  have n1_:=qal.mk (qac (g:=gb324) (o:=.cells #[.int .i64 a0_0,.slice A0_1 l0_1.length c0_1] 36 (0,0)) (za0 BK324) hb)
  have n2_:=qal.mk (qac (g:=gb325) (o:=.cells #[.int .i64 0,.slice none 0 0] 36 (0,0)) (za0 BK325) hb)
  have n3_:=qal.mk (qae (za3 HB GE324 GE325) hb)
  clear BK324
  clear BK325
  clear HB
  have HO328:=n0_
  have BK324:=n1_
  have BK325:=n2_
  have HB:=n3_
  clear n0_ n1_ n2_ n3_
  clear hb ho7
  refine hK.out _ _ ⟨(qab BK324.out 0).trans rfl,(qab BK324.out 1).trans rfl⟩ (fun hHeld=>?_)
  clear hK K
  refine norm_ (a':=?_) ?_ ?_
  rotate_left
  ·show Act.put _ (some 5) _=_
   simp only[Act.put,List.setIfInBounds_toArray,List.set_cons_zero,List.set_cons_succ,qas,qat]
   rfl
  refine one_ (i:=5) (N:=some 8) #[true,true,true,true,true,true,false,false] rfl rfl (one_of HT_.out (by kernel_rfl)) (by decide) (fun K hK=>?_)
  refine Kd.R_append_rows_step k46 (w0:=w) w.heap.size (by rfl) (.tmp 5) (.tmp 7) 34 46 (.agg #[(.int .i64 0),(.int .i64 0)]) 16 rfl Try.underlying34 info46 rfl (by decide) (by omega) v327 y326 l0_1 _ _ _ (fun _=>True) (fun _=>False) rfl rfl ?aO ?aR (fun _ _ h=>h) (fun _ h=>h.elim) ?aF ?aB ?aS ?aL ?_
  (case aR=>repeat(first|exact(Kd.C_below HR0_1.out HB.out)|(with_reducible refine Kd.C_alloc ?_ _)|(with_reducible refine Kd.C_drewN ?_ _)|(with_reducible refine Kd.C_drew ?_)))
  (case aB=>exact(za3 HB GE324 GE325))
  (case aF=>exact(fun _ _=>trivial))
  (case aO=>exact(za4 HO328))
  (case aS=>exact(qad (za3 HB GE324 GE325)))
  (case aL=>have:=LMc2.out;omega)
  intro v330 w8 ho hb hg hat
  rw[←Ny329.out] at ho
  have n0_:=qal.mk (qbb (g:=gb324) (o:=.cells #[.int .i64 a0_0,.slice A0_1 l0_1.length c0_1] 36 (0,0)) (za0 BK324) hg (Kd.R_ne HO328.out BK324.out (by decide)))
  have n1_:=qal.mk (qbb (g:=gb325) (o:=.cells #[.int .i64 0,.slice none 0 0] 36 (0,0)) (za0 BK325) hg (Kd.R_ne HO328.out BK325.out (by decide)))
  have n2_:=qal.mk (hb)
  have n3_:=qal.mk (ho)
  clear BK324
  clear BK325
  clear HB
  clear HO328
  have BK324:=n0_
  have BK325:=n1_
  have HB:=n2_
  have HO331:=n3_
  clear n0_ n1_ n2_ n3_
  clear ho hb hg hat
  obtain⟨Ao9,co9,eo9⟩:=Kd.R_slice HO331.out
  (first|subst eo9|(injection eo9 with f1_ f2_ f3_;have f4_:=f1_.symm;have f5_:=f3_.symm;clear f1_ f2_ f3_;subst f4_;subst f5_))
  refine hK.out _ _ ⟨(qab BK324.out 0).trans rfl,(qab BK324.out 1).trans rfl⟩ (fun hHeld=>?_)
  clear hK K
  refine norm_ (a':=?_) ?_ ?_
  rotate_left
  ·show Act.put _ (some 8) _=_
   simp only[Act.put,List.setIfInBounds_toArray,List.set_cons_zero,List.set_cons_succ,qas,qat]
   rfl
  refine qaz (i:=6) (N:=some 9) (v:=?_) (a':=?_) #[true,true,true,true,true,true,true,false] rfl rfl (qax HT_.out (by kernel_rfl)) (fun _ _ _ h=>h) (Or.inl ⟨by rfl,?_⟩) ?_ ?_
  rotate_left
  ·intro w'
   go_simp
   with_reducible rfl
  rotate_left
  ·simp only[Act.put,List.setIfInBounds_toArray,List.set_cons_zero,List.set_cons_succ,qas,qat]
   rfl
  refine one_ (i:=7) (N:=none) #[true,true,true,true,true,true,true,true] rfl rfl (one_of HT_.out (by kernel_rfl)) (by decide) (fun K hK=>?_)
  have hs10:w8.cell? ⟨gb325,0,none⟩=some (.int .i64 0):=(qab BK325.out 0).trans rfl
  have hfs10:=qaa BK325.out 0
  have hns10_0:=NB324_325.out
  have hms10_0:=NB325_324.out
  have hs11:w8.cell? ⟨gb325,1,none⟩=some (.slice none 0 0):=(qab BK325.out 1).trans rfl
  have hfs11:=qaa BK325.out 1
  have hns11_0:=NB324_325.out
  have hms11_0:=NB325_324.out
  refine skip_ (w1:=?_) (by rfl) rfl ?_ ?_
  rotate_left
  ·go_simp
   rfl
  refine hK.out _ _ ⟨((qay (p:=⟨gb325,_,none⟩) NB324_325.out _).trans (((qay (p:=⟨gb325,_,none⟩) NB324_325.out _).trans (hHeld.1)))),((qay (p:=⟨gb325,_,none⟩) NB324_325.out _).trans (((qay (p:=⟨gb325,_,none⟩) NB324_325.out _).trans (hHeld.2))))⟩ (fun hHeld=>?_)
  clear hK K
  refine done_ (done_of HT_.out (by kernel_rfl)) ?_
  try go_wp2
  refine bodyPost_ret (results_cell_row rfl _ _ gb325 36 #[.int .i64 a0_0,.slice Ao9 y329.length co9] (0,0) _ rfl (by(with_reducible repeat(first|refine qag ?_ _|refine qah ?_|refine qaf ?_ _));refine qan (cs:=#[.int .i64 a0_0,.slice none 0 0]) ?_ 1 _ rfl;(with_reducible repeat(first|refine qag ?_ _|refine qah ?_|refine qaf ?_ _));refine qan (cs:=#[.int .i64 0,.slice none 0 0]) ?_ 0 _ rfl;(with_reducible repeat(first|refine qag ?_ _|refine qah ?_|refine qaf ?_ _));exact BK325.out) Try.underlying36 rfl (by kernel_rfl)) rfl ?_
  exact⟨_,za9,by(with_reducible repeat(first|apply Kd.R_alloc|apply Kd.R_drewN|apply Kd.R_drew));exact Kd.R_mono (Kd.R_far (p:=⟨gb325,1,none⟩) (Kd.R_far (p:=⟨gb325,0,none⟩) (Kd.R_types HO331.out BK325.out (by decide)) (fun _ hk=>hk.2) (.int .i64 a0_0)) (fun _ hk=>hk.2) (.slice Ao9 y329.length co9)) (fun _ hk=>trivial),za3 HB GE324 GE325⟩
 ·rw[if_neg c2] at H
  exact absurd H (by simp)
def spec_StockDo.f (k:Nat) (a0_0:Int) (l0_1:List (S46)) (a1_0:Int) (a1_1:Int) (l1_2:List Int):Option (Int × (List (S46)) × Bool):=(spec_StockMay.f k a0_0 l0_1 a1_0 a1_1 l1_2).bind fun t335=>(if t335=true then((spec_l2Copy.f a0_0 l0_1).bind fun bt336=>((spec_l2Do.f bt336.1 bt336.2 a1_0 a1_1 l1_2).bind fun bt340=>(some (bt340.1,bt340.2,true)))) else(some (0,([]:List (S46)),false)))
theorem spec_StockDo.mono:∀a0 a1 a2 a3 a4 k,LeO (spec_StockDo.f k a0 a1 a2 a3 a4) (spec_StockDo.f (k+1) a0 a1 a2 a3 a4):=by
 intro a0 a1 a2 a3 a4 k
 unfold spec_StockDo.f
 repeat' first
   |(with_reducible exact spec_StockMay.mono _ _ _ _ _ _)
   |(with_reducible exact LeO.refl _)
   |(with_reducible exact LeO.none _)
   |(with_reducible refine LeO.ite ?_ ?_)
   |(with_reducible refine LeO.bind ?_ (fun _=>?_))
   |exact spec_StockMay.mono _ _ _ _ _ _
   |exact LeO.none _
   |refine LeO.ite ?_ ?_
   |refine LeO.bind ?_ (fun _=>?_)
set_option maxHeartbeats 8000000 in
set_option maxRecDepth 100000 in
theorem spec_StockDo.calls (k:Nat) (a0_0:Int) (A0_1:Option Addr) (c0_1:Nat) (l0_1:List (S46)) (a1_0:Int) (a1_1:Int) (A1_2:Option Addr) (c1_2:Nat) (l1_2:List Int) (r1:Int) (r2:List (S46)) (r3:Bool) (w:World) (hr0_1:Kd.C k46 w A0_1 l0_1.length l0_1) (hc0_1:l0_1.length≤c0_1) (hr1_2:Kd.C (Kd.int .i64) w A1_2 l1_2.length l1_2) (hc1_2:l1_2.length≤c1_2) (h:spec_StockDo.f k a0_0 l0_1 a1_0 a1_1 l1_2=some (r1,r2,r3)) :
  Calls Try.prog 124 #[.agg #[.int .i64 a0_0,.slice A0_1 l0_1.length c0_1],.agg #[.int .i64 a1_0,.int .i64 a1_1,.slice A1_2 l1_2.length c1_2]] w fun e w'=>∃v1_:Value,e=.returned (.tuple #[.agg #[.int .i64 r1,v1_],.bool r3])∧Kd.R k46 46 w' w.heap.size (fun _=>True) v1_ r2∧Below w.heap.size w w':=by
 have hu36:=Try.underlying36
 have hu62:=Try.underlying62
 have HR0_1:=qal.mk hr0_1
 have HC0_1:=qal.mk hc0_1
 clear hr0_1 hc0_1
 have HR1_2:=qal.mk hr1_2
 have HC1_2:=qal.mk hc1_2
 clear hr1_2 hc1_2
 have HB:=qal.mk (Below.refl w.heap.size w)
 have H:((spec_StockMay.f k a0_0 l0_1 a1_0 a1_1 l1_2).bind fun t335=>(if t335=true then((spec_l2Copy.f a0_0 l0_1).bind fun bt336=>((spec_l2Do.f bt336.1 bt336.2 a1_0 a1_1 l1_2).bind fun bt340=>(some (bt340.1,bt340.2,true)))) else(some (0,([]:List (S46)),false))))=some (r1,r2,r3):=h
 clear h
 replace H:=Option.bind_eq_some_iff.mp H
 obtain⟨t335,A30,H⟩:=H
 replace H:(if t335=true then((spec_l2Copy.f a0_0 l0_1).bind fun bt336=>((spec_l2Do.f bt336.1 bt336.2 a1_0 a1_1 l1_2).bind fun bt340=>(some (bt340.1,bt340.2,true)))) else(some (0,([]:List (S46)),false)))=some (r1,r2,r3):=H
 have A3:=qal.mk A30
 clear A30
 by_cases c4:t335=true
 ·subst c4
  have H1:((spec_l2Copy.f a0_0 l0_1).bind fun bt336=>((spec_l2Do.f bt336.1 bt336.2 a1_0 a1_1 l1_2).bind fun bt340=>(some (bt340.1,bt340.2,true))))=some (r1,r2,r3):=by rw[if_pos rfl] at H;exact H
  clear H
  have H:=H1
  clear H1
  replace H:=Option.bind_eq_some_iff.mp H
  obtain⟨⟨t336,t337⟩,A50,H⟩:=H
  replace H:((spec_l2Do.f t336 t337 a1_0 a1_1 l1_2).bind fun bt340=>(some (bt340.1,bt340.2,true)))=some (r1,r2,r3):=H
  have A5:=qal.mk A50
  clear A50
  replace H:=Option.bind_eq_some_iff.mp H
  obtain⟨⟨t340,t341⟩,A60,H⟩:=H
  replace H:(some (t340,t341,true))=some (r1,r2,r3):=H
  have A6:=qal.mk A60
  clear A60
  simp only[Option.some.injEq,Prod.mk.injEq] at H
  obtain⟨rfl,rfl,rfl⟩:=H
  go_enter Try.func124,Try.ntmps124
  try go_wp2_with(first|((with_reducible refine qak (N:=2) rfl ?_);refine qaj ?hg (N:=2) ?hd (cs:=#[.int .i64 a0_0,.slice A0_1 l0_1.length c0_1]) (t:=36) ?hr ?_;(case hd=>rfl);(case hg=>rfl);(case hr=>first|(go_simp;done)|(go_simp;rfl));intro gb332 hg w7 hbox hb;have n0_:=qal.mk (qae (za2 HB) hb);have n1_:=qal.mk (hbox);have n2_:=qal.mk ((by rw[hg];exact(qad (za2 HB)):w.heap.size≤gb332));have n3_:=qal.mk ((by rw[hg];exact(qad (za2 HB)):w.heap.size≤gb332));clear HB;have HB:=n0_;have BK332:=n1_;have GW332:=n2_;have GE332:=n3_;clear n0_ n1_ n2_ n3_;clear hb hbox hg)|((with_reducible refine qak (N:=3) rfl ?_);refine qaj ?hg (N:=3) ?hd (cs:=#[.int .i64 a1_0,.int .i64 a1_1,.slice A1_2 l1_2.length c1_2]) (t:=62) ?hr ?_;(case hd=>rfl);(case hg=>rfl);(case hr=>first|(go_simp;done)|(go_simp;rfl));intro gb333 hg w8 hbox hb;have n0_:=qal.mk (qac (g:=gb332) (o:=.cells #[.int .i64 a0_0,.slice A0_1 l0_1.length c0_1] 36 (0,0)) (za0 BK332) hb);have n1_:=qal.mk (qae (za1 HB GE332) hb);have n2_:=qal.mk (hbox);have n3_:=qal.mk ((by rw[hg];exact(qad (za1 HB GE332)):w.heap.size≤gb333));have n4_:=qal.mk ((by rw[hg];exact(qad (za1 HB GE332)):w.heap.size≤gb333));have n5_:=qal.mk ((by rw[hg];exact Nat.ne_of_lt (qao (g:=gb332) (o:=.cells #[.int .i64 a0_0,.slice A0_1 l0_1.length c0_1] 36 (0,0)) (za0 BK332)):gb332≠gb333));have n6_:=qal.mk ((by rw[hg];exact Nat.ne_of_gt (qao (g:=gb332) (o:=.cells #[.int .i64 a0_0,.slice A0_1 l0_1.length c0_1] 36 (0,0)) (za0 BK332)):gb333≠gb332));clear BK332;clear HB;have BK332:=n0_;have HB:=n1_;have BK333:=n2_;have GW333:=n3_;have GE333:=n4_;have NB332_333:=n5_;have NB333_332:=n6_;clear n0_ n1_ n2_ n3_ n4_ n5_ n6_;clear hb hbox hg)|((with_reducible refine qak (N:=4) rfl ?_);refine qaj ?hg (N:=4) ?hd (cs:=#[.int .i64 0,.slice none 0 0]) (t:=36) ?hr ?_;(case hd=>rfl);(case hg=>rfl);(case hr=>first|(go_simp;done)|(go_simp;rfl));intro gb334 hg w9 hbox hb;have n0_:=qal.mk (qac (g:=gb332) (o:=.cells #[.int .i64 a0_0,.slice A0_1 l0_1.length c0_1] 36 (0,0)) (za0 BK332) hb);have n1_:=qal.mk (qac (g:=gb333) (o:=.cells #[.int .i64 a1_0,.int .i64 a1_1,.slice A1_2 l1_2.length c1_2] 62 (0,0)) (za0 BK333) hb);have n2_:=qal.mk (qae (za3 HB GE332 GE333) hb);have n3_:=qal.mk (hbox);have n4_:=qal.mk ((by rw[hg];exact(qad (za3 HB GE332 GE333)):w.heap.size≤gb334));have n5_:=qal.mk ((by rw[hg];exact(qad (za3 HB GE332 GE333)):w.heap.size≤gb334));have n6_:=qal.mk ((by rw[hg];exact Nat.ne_of_lt (qao (g:=gb332) (o:=.cells #[.int .i64 a0_0,.slice A0_1 l0_1.length c0_1] 36 (0,0)) (za0 BK332)):gb332≠gb334));have n7_:=qal.mk ((by rw[hg];exact Nat.ne_of_gt (qao (g:=gb332) (o:=.cells #[.int .i64 a0_0,.slice A0_1 l0_1.length c0_1] 36 (0,0)) (za0 BK332)):gb334≠gb332));have n8_:=qal.mk ((by rw[hg];exact Nat.ne_of_lt (qao (g:=gb333) (o:=.cells #[.int .i64 a1_0,.int .i64 a1_1,.slice A1_2 l1_2.length c1_2] 62 (0,0)) (za0 BK333)):gb333≠gb334));have n9_:=qal.mk ((by rw[hg];exact Nat.ne_of_gt (qao (g:=gb333) (o:=.cells #[.int .i64 a1_0,.int .i64 a1_1,.slice A1_2 l1_2.length c1_2] 62 (0,0)) (za0 BK333)):gb334≠gb333));clear BK332;clear BK333;clear HB;have BK332:=n0_;have BK333:=n1_;have HB:=n2_;have BK334:=n3_;have GW334:=n4_;have GE334:=n5_;have NB332_334:=n6_;have NB334_332:=n7_;have NB333_334:=n8_;have NB334_333:=n9_;clear n0_ n1_ n2_ n3_ n4_ n5_ n6_ n7_ n8_ n9_;clear hb hbox hg;have hnb10:=NB332_333.out;have hnc10:=NB333_332.out;have hnb11:=NB332_334.out;have hnc11:=NB334_332.out;have hcz12_0:w9.cell? ⟨gb332,0,none⟩=some (.int .i64 a0_0):=(qab BK332.out 0).trans rfl;have hcz12_1:w9.cell? ⟨gb332,1,none⟩=some (.slice A0_1 l0_1.length c0_1):=(qab BK332.out 1).trans rfl;have hfz12_0:=qaa BK332.out 0;have hfz12_1:=qaa BK332.out 1;have hnb13:=NB333_334.out;have hnc13:=NB334_333.out;have hcz14_0:w9.cell? ⟨gb333,0,none⟩=some (.int .i64 a1_0):=(qab BK333.out 0).trans rfl;have hcz14_1:w9.cell? ⟨gb333,1,none⟩=some (.int .i64 a1_1):=(qab BK333.out 1).trans rfl;have hcz14_2:w9.cell? ⟨gb333,2,none⟩=some (.slice A1_2 l1_2.length c1_2):=(qab BK333.out 2).trans rfl;have hfz14_0:=qaa BK333.out 0;have hfz14_1:=qaa BK333.out 1;have hfz14_2:=qaa BK333.out 2)|((with_reducible refine qai (f:=37) rfl ?_);refine qau (some 8) rfl rfl Try.func37 (by kernel_rfl) rfl #[.agg #[.int .i64 a0_0,.slice A0_1 l0_1.length c0_1],.agg #[.int .i64 a1_0,.int .i64 a1_1,.slice A1_2 l1_2.length c1_2]] rfl (by(try simp only[List.map_toArray,List.map_cons,List.map_nil]);first|done|rfl|(simp only[List.length_drop,List.length_take];rfl)) ?_;(with_reducible refine(spec_StockMay.calls k a0_0 _ _ l0_1 a1_0 a1_1 _ _ l1_2 true _ ?side1 ?side2 ?side3 ?side4 A3.out).mono ?_);(case side1=>repeat(first|exact(Kd.C_below HR0_1.out HB.out)|(with_reducible refine Kd.C_alloc ?_ _)|(with_reducible refine Kd.C_drewN ?_ _)|(with_reducible refine Kd.C_drew ?_)));(case side2=>exact HC0_1.out);(case side3=>repeat(first|exact(Kd.C_below HR1_2.out HB.out)|(with_reducible refine Kd.C_alloc ?_ _)|(with_reducible refine Kd.C_drewN ?_ _)|(with_reducible refine Kd.C_drew ?_)));(case side4=>exact HC1_2.out);rintro e w15 ⟨rfl,hb⟩;refine⟨_,rfl,?_⟩;have n0_:=qal.mk (qac (g:=gb332) (o:=.cells #[.int .i64 a0_0,.slice A0_1 l0_1.length c0_1] 36 (0,0)) (za0 BK332) hb);have n1_:=qal.mk (qac (g:=gb333) (o:=.cells #[.int .i64 a1_0,.int .i64 a1_1,.slice A1_2 l1_2.length c1_2] 62 (0,0)) (za0 BK333) hb);have n2_:=qal.mk (qac (g:=gb334) (o:=.cells #[.int .i64 0,.slice none 0 0] 36 (0,0)) (za0 BK334) hb);have n3_:=qal.mk (qae (za6 HB GE332 GE333 GE334) hb);clear BK332;clear BK333;clear BK334;clear HB;have BK332:=n0_;have BK333:=n1_;have BK334:=n2_;have HB:=n3_;clear n0_ n1_ n2_ n3_;(try clear hb);(try clear hb2);(try clear hk);(try clear hi)))
  have n0_:=qal.mk (qah BK332.out)
  have n1_:=qal.mk (qah BK333.out)
  have n2_:=qal.mk (qah BK334.out)
  have n3_:=qal.mk (qaq HB.out)
  clear BK332
  clear BK333
  clear BK334
  clear HB
  have BK332:=n0_
  have BK333:=n1_
  have BK334:=n2_
  have HB:=n3_
  clear n0_ n1_ n2_ n3_
  refine start_ (n:=6) (S:=fun w'=>w'.cell? ⟨gb332,0,none⟩=some (.int .i64 a0_0)∧w'.cell? ⟨gb332,1,none⟩=some (.slice A0_1 l0_1.length c0_1)∧w'.cell? ⟨gb333,0,none⟩=some (.int .i64 a1_0)∧w'.cell? ⟨gb333,1,none⟩=some (.int .i64 a1_1)∧w'.cell? ⟨gb333,2,none⟩=some (.slice A1_2 l1_2.length c1_2)) (ds:=[]) #[false,false,false,false,false,false] (by kernel_rfl) rfl rfl ⟨(qab BK332.out 0).trans rfl,(qab BK332.out 1).trans rfl,(qab BK333.out 0).trans rfl,(qab BK333.out 1).trans rfl,(qab BK333.out 2).trans rfl⟩ (fun hHeld=>?_)
  generalize w15.drew=w16 at BK332 BK333 BK334 HB hHeld ⊢
  refine take_ (i:=0) (N:=some 11) (v:=?_) (a':=?_) #[true,false,false,false,false,false] rfl rfl (by kernel_rfl) (fun _ _ _ h=>h) (Or.inl ⟨by rfl,?_⟩) hHeld ?_ ?_
  rotate_left
  ·rintro w' ⟨s0,s1,s2,s3,s4⟩
   go_simp
   with_reducible rfl
  rotate_left
  ·simp only[Act.put,List.setIfInBounds_toArray,List.set_cons_zero,List.set_cons_succ,qas,qat]
   rfl
  refine take_ (i:=2) (N:=some 13) (v:=?_) (a':=?_) #[true,false,true,false,false,false] rfl rfl (by kernel_rfl) (fun _ _ _ h=>h) (Or.inl ⟨by rfl,?_⟩) hHeld ?_ ?_
  rotate_left
  ·rintro w' ⟨s0,s1,s2,s3,s4⟩
   go_simp
   with_reducible rfl
  rotate_left
  ·simp only[Act.put,List.setIfInBounds_toArray,List.set_cons_zero,List.set_cons_succ,qas,qat]
   rfl
  refine one_ (i:=1) (N:=some 12) #[true,true,true,false,false,false] rfl rfl (by kernel_rfl) (by decide) (fun K hK=>?_)
  refine goes_ Try.func131 (by kernel_rfl) rfl #[.agg #[.int .i64 a0_0,.slice A0_1 l0_1.length c0_1]] (by rfl) rfl rfl (by(try simp only[List.map_toArray,List.map_cons,List.map_nil]);first|done|rfl|(simp only[List.length_drop,List.length_take];rfl)) ?_
  with_reducible refine(spec_l2Copy.calls a0_0 _ _ l0_1 t336 t337 _ ?side1 ?side2 A5.out).mono ?_
  (case side1=>repeat(first|exact(Kd.C_below HR0_1.out HB.out)|(with_reducible refine Kd.C_alloc ?_ _)|(with_reducible refine Kd.C_drewN ?_ _)|(with_reducible refine Kd.C_drew ?_)))
  (case side2=>exact HC0_1.out)
  rintro e w17 ⟨v338,rfl,ho0,hb⟩
  refine⟨_,rfl,?_⟩
  have n0_:=qal.mk (Kd.R_lower ho0 (qad (za6 HB GE332 GE333 GE334)))
  have n1_:=qal.mk (qac (g:=gb332) (o:=.cells #[.int .i64 a0_0,.slice A0_1 l0_1.length c0_1] 36 (0,0)) (za0 BK332) hb)
  have n2_:=qal.mk (qac (g:=gb333) (o:=.cells #[.int .i64 a1_0,.int .i64 a1_1,.slice A1_2 l1_2.length c1_2] 62 (0,0)) (za0 BK333) hb)
  have n3_:=qal.mk (qac (g:=gb334) (o:=.cells #[.int .i64 0,.slice none 0 0] 36 (0,0)) (za0 BK334) hb)
  have n4_:=qal.mk (qae (za6 HB GE332 GE333 GE334) hb)
  clear BK332
  clear BK333
  clear BK334
  clear HB
  have HO339:=n0_
  have BK332:=n1_
  have BK333:=n2_
  have BK334:=n3_
  have HB:=n4_
  clear n0_ n1_ n2_ n3_ n4_
  (try clear hb)
  (try clear hb2)
  (try clear hk)
  (try clear hi)
  (try clear ho0)
  obtain⟨Ao18,co18,eo18⟩:=Kd.R_slice HO339.out
  (first|subst eo18|(injection eo18 with f1_ f2_ f3_;have f4_:=f1_.symm;have f5_:=f3_.symm;clear f1_ f2_ f3_;subst f4_;subst f5_))
  refine hK.out _ _ ⟨(qab BK332.out 0).trans rfl,(qab BK332.out 1).trans rfl,(qab BK333.out 0).trans rfl,(qab BK333.out 1).trans rfl,(qab BK333.out 2).trans rfl⟩ (fun hHeld=>?_)
  clear hK K
  refine norm_ (a':=?_) ?_ ?_
  rotate_left
  ·show Act.put _ (some 12) _=_
   simp only[Act.put,List.setIfInBounds_toArray,List.set_cons_zero,List.set_cons_succ,qas,qat]
   rfl
  refine one_ (i:=3) (N:=some 14) #[true,true,true,true,false,false] rfl rfl (by kernel_rfl) (by decide) (fun K hK=>?_)
  refine goes_ Try.func130 (by kernel_rfl) rfl #[.agg #[.int .i64 t336,.slice Ao18 t337.length co18],.agg #[.int .i64 a1_0,.int .i64 a1_1,.slice A1_2 l1_2.length c1_2]] (by rfl) rfl rfl (by(try simp only[List.map_toArray,List.map_cons,List.map_nil]);first|done|rfl|(simp only[List.length_drop,List.length_take];rfl)) ?_
  with_reducible refine(spec_l2Do.calls t336 (fun k_=>some k_=(.slice Ao18 t337.length co18:Value).ownBlock) (.slice Ao18 t337.length co18) t337 a1_0 a1_1 _ _ l1_2 t340 t341 w _ ?side1 ?side2 ?side3 ?side4 A6.out).mono ?_
  (case side1=>repeat(first|(with_reducible first|exact HB.out|apply qar|apply qap|apply qaq|refine qam ?_ GE332.out|refine qam ?_ GE333.out|refine qam ?_ GE334.out)|exact HB.out))
  (case side2=>exact Kd.R_tight rfl HO339.out)
  (case side3=>exact Kd.C_kept_came (Kd.heap_int .i64) HR1_2.out (za6 HB GE332 GE333 GE334) (fun k_ hs_=>(fun e_=>Kd.R_base HO339.out k_ e_.symm) hs_))
  (case side4=>exact HC1_2.out)
  rintro e w19 ⟨v342,rfl,ho0,hb,hkp⟩
  refine⟨_,rfl,?_⟩
  have n0_:=qal.mk (blk_kept (za0 BK332) hkp (fun hs_=>(fun e_=>(Kd.R_ne HO339.out BK332.out (by decide)) e_) hs_))
  have n1_:=qal.mk (blk_kept (za0 BK333) hkp (fun hs_=>(fun e_=>(Kd.R_ne HO339.out BK333.out (by decide)) e_) hs_))
  have n2_:=qal.mk (blk_kept (za0 BK334) hkp (fun hs_=>(fun e_=>(Kd.R_ne HO339.out BK334.out (by decide)) e_) hs_))
  have n3_:=qal.mk (Kd.R_mono (ok':=fun k_=>True) ho0 (fun k_ hk_=>trivial))
  have n4_:=qal.mk (hb)
  clear BK332
  clear BK333
  clear BK334
  clear HB
  clear HO339
  have BK332:=n0_
  have BK333:=n1_
  have BK334:=n2_
  have HO343:=n3_
  have HB:=n4_
  clear n0_ n1_ n2_ n3_ n4_
  (try clear hb)
  (try clear hkp)
  (try clear ho0)
  obtain⟨Ao21,co21,eo21⟩:=Kd.R_slice HO343.out
  (first|subst eo21|(injection eo21 with f1_ f2_ f3_;have f4_:=f1_.symm;have f5_:=f3_.symm;clear f1_ f2_ f3_;subst f4_;subst f5_))
  refine hK.out _ _ ⟨(qab BK332.out 0).trans rfl,(qab BK332.out 1).trans rfl,(qab BK333.out 0).trans rfl,(qab BK333.out 1).trans rfl,(qab BK333.out 2).trans rfl⟩ (fun hHeld=>?_)
  clear hK K
  refine norm_ (a':=?_) ?_ ?_
  rotate_left
  ·show Act.put _ (some 14) _=_
   simp only[Act.put,List.setIfInBounds_toArray,List.set_cons_zero,List.set_cons_succ,qas,qat]
   rfl
  refine one_ (i:=4) (N:=none) #[true,true,true,true,true,false] rfl rfl (by kernel_rfl) (by decide) (fun K hK=>?_)
  have hs20:w19.cell? ⟨gb334,0,none⟩=some (.int .i64 0):=(qab BK334.out 0).trans rfl
  have hfs20:=qaa BK334.out 0
  have hns20_0:=NB332_334.out
  have hns20_1:=NB333_334.out
  have hms20_0:=NB334_332.out
  have hms20_1:=NB334_333.out
  have hs22:w19.cell? ⟨gb334,1,none⟩=some (.slice none 0 0):=(qab BK334.out 1).trans rfl
  have hfs22:=qaa BK334.out 1
  have hns22_0:=NB332_334.out
  have hns22_1:=NB333_334.out
  have hms22_0:=NB334_332.out
  have hms22_1:=NB334_333.out
  refine skip_ (w1:=?_) (by rfl) rfl ?_ ?_
  rotate_left
  ·go_simp
   rfl
  refine hK.out _ _ ⟨((qay (p:=⟨gb334,_,none⟩) NB332_334.out _).trans (((qay (p:=⟨gb334,_,none⟩) NB332_334.out _).trans (hHeld.1)))),((qay (p:=⟨gb334,_,none⟩) NB332_334.out _).trans (((qay (p:=⟨gb334,_,none⟩) NB332_334.out _).trans (hHeld.2.1)))),((qay (p:=⟨gb334,_,none⟩) NB333_334.out _).trans (((qay (p:=⟨gb334,_,none⟩) NB333_334.out _).trans (hHeld.2.2.1)))),((qay (p:=⟨gb334,_,none⟩) NB333_334.out _).trans (((qay (p:=⟨gb334,_,none⟩) NB333_334.out _).trans (hHeld.2.2.2.1)))),((qay (p:=⟨gb334,_,none⟩) NB333_334.out _).trans (((qay (p:=⟨gb334,_,none⟩) NB333_334.out _).trans (hHeld.2.2.2.2))))⟩ (fun hHeld=>?_)
  clear hK K
  refine qaz (i:=5) (N:=some 5) (v:=?_) (a':=?_) #[true,true,true,true,true,true] rfl rfl (by kernel_rfl) (fun _ _ _ h=>h) (Or.inl ⟨by rfl,?_⟩) ?_ ?_
  rotate_left
  ·intro w'
   go_simp
   with_reducible rfl
  rotate_left
  ·simp only[Act.put,List.setIfInBounds_toArray,List.set_cons_zero,List.set_cons_succ,qas,qat]
   rfl
  refine done_ (by kernel_rfl) ?_
  try go_wp2
  refine bodyPost_ret (results_ct rfl _ _ gb334 36 #[.int .i64 t340,.slice Ao21 t341.length co21] (0,0) _ rfl (by(with_reducible repeat(first|refine qag ?_ _|refine qah ?_|refine qaf ?_ _));refine qan (cs:=#[.int .i64 t340,.slice none 0 0]) ?_ 1 _ rfl;(with_reducible repeat(first|refine qag ?_ _|refine qah ?_|refine qaf ?_ _));refine qan (cs:=#[.int .i64 0,.slice none 0 0]) ?_ 0 _ rfl;(with_reducible repeat(first|refine qag ?_ _|refine qah ?_|refine qaf ?_ _));exact BK334.out) Try.underlying36 rfl (by kernel_rfl)) rfl ?_
  exact⟨_,za9,by(with_reducible repeat(first|apply Kd.R_alloc|apply Kd.R_drewN|apply Kd.R_drew));exact Kd.R_mono (Kd.R_far (p:=⟨gb334,1,none⟩) (Kd.R_far (p:=⟨gb334,0,none⟩) (Kd.R_types HO343.out BK334.out (by decide)) (fun _ hk=>hk.2) (.int .i64 t340)) (fun _ hk=>hk.2) (.slice Ao21 t341.length co21)) (fun _ hk=>trivial),za6 HB GE332 GE333 GE334⟩
 ·replace c4:=Bool.eq_false_iff.mpr c4
  subst c4
  have H1:(some (0,([]:List (S46)),false))=some (r1,r2,r3):=by rw[if_neg (show ¬(false=true) by decide)] at H;exact H
  clear H
  have H:=H1
  clear H1
  simp only[Option.some.injEq,Prod.mk.injEq] at H
  obtain⟨rfl,rfl,rfl⟩:=H
  go_enter Try.func124,Try.ntmps124
  go_wp2_with(first|((with_reducible refine qak (N:=2) rfl ?_);refine qaj ?hg (N:=2) ?hd (cs:=#[.int .i64 a0_0,.slice A0_1 l0_1.length c0_1]) (t:=36) ?hr ?_;(case hd=>rfl);(case hg=>rfl);(case hr=>first|(go_simp;done)|(go_simp;rfl));intro gb332 hg w23 hbox hb;have n0_:=qal.mk (qae (za2 HB) hb);have n1_:=qal.mk (hbox);have n2_:=qal.mk ((by rw[hg];exact(qad (za2 HB)):w.heap.size≤gb332));have n3_:=qal.mk ((by rw[hg];exact(qad (za2 HB)):w.heap.size≤gb332));clear HB;have HB:=n0_;have BK332:=n1_;have GW332:=n2_;have GE332:=n3_;clear n0_ n1_ n2_ n3_;clear hb hbox hg)|((with_reducible refine qak (N:=3) rfl ?_);refine qaj ?hg (N:=3) ?hd (cs:=#[.int .i64 a1_0,.int .i64 a1_1,.slice A1_2 l1_2.length c1_2]) (t:=62) ?hr ?_;(case hd=>rfl);(case hg=>rfl);(case hr=>first|(go_simp;done)|(go_simp;rfl));intro gb333 hg w24 hbox hb;have n0_:=qal.mk (qac (g:=gb332) (o:=.cells #[.int .i64 a0_0,.slice A0_1 l0_1.length c0_1] 36 (0,0)) (za0 BK332) hb);have n1_:=qal.mk (qae (za1 HB GE332) hb);have n2_:=qal.mk (hbox);have n3_:=qal.mk ((by rw[hg];exact(qad (za1 HB GE332)):w.heap.size≤gb333));have n4_:=qal.mk ((by rw[hg];exact(qad (za1 HB GE332)):w.heap.size≤gb333));have n5_:=qal.mk ((by rw[hg];exact Nat.ne_of_lt (qao (g:=gb332) (o:=.cells #[.int .i64 a0_0,.slice A0_1 l0_1.length c0_1] 36 (0,0)) (za0 BK332)):gb332≠gb333));have n6_:=qal.mk ((by rw[hg];exact Nat.ne_of_gt (qao (g:=gb332) (o:=.cells #[.int .i64 a0_0,.slice A0_1 l0_1.length c0_1] 36 (0,0)) (za0 BK332)):gb333≠gb332));clear BK332;clear HB;have BK332:=n0_;have HB:=n1_;have BK333:=n2_;have GW333:=n3_;have GE333:=n4_;have NB332_333:=n5_;have NB333_332:=n6_;clear n0_ n1_ n2_ n3_ n4_ n5_ n6_;clear hb hbox hg)|((with_reducible refine qak (N:=4) rfl ?_);refine qaj ?hg (N:=4) ?hd (cs:=#[.int .i64 0,.slice none 0 0]) (t:=36) ?hr ?_;(case hd=>rfl);(case hg=>rfl);(case hr=>first|(go_simp;done)|(go_simp;rfl));intro gb334 hg w25 hbox hb;have n0_:=qal.mk (qac (g:=gb332) (o:=.cells #[.int .i64 a0_0,.slice A0_1 l0_1.length c0_1] 36 (0,0)) (za0 BK332) hb);have n1_:=qal.mk (qac (g:=gb333) (o:=.cells #[.int .i64 a1_0,.int .i64 a1_1,.slice A1_2 l1_2.length c1_2] 62 (0,0)) (za0 BK333) hb);have n2_:=qal.mk (qae (za3 HB GE332 GE333) hb);have n3_:=qal.mk (hbox);have n4_:=qal.mk ((by rw[hg];exact(qad (za3 HB GE332 GE333)):w.heap.size≤gb334));have n5_:=qal.mk ((by rw[hg];exact(qad (za3 HB GE332 GE333)):w.heap.size≤gb334));have n6_:=qal.mk ((by rw[hg];exact Nat.ne_of_lt (qao (g:=gb332) (o:=.cells #[.int .i64 a0_0,.slice A0_1 l0_1.length c0_1] 36 (0,0)) (za0 BK332)):gb332≠gb334));have n7_:=qal.mk ((by rw[hg];exact Nat.ne_of_gt (qao (g:=gb332) (o:=.cells #[.int .i64 a0_0,.slice A0_1 l0_1.length c0_1] 36 (0,0)) (za0 BK332)):gb334≠gb332));have n8_:=qal.mk ((by rw[hg];exact Nat.ne_of_lt (qao (g:=gb333) (o:=.cells #[.int .i64 a1_0,.int .i64 a1_1,.slice A1_2 l1_2.length c1_2] 62 (0,0)) (za0 BK333)):gb333≠gb334));have n9_:=qal.mk ((by rw[hg];exact Nat.ne_of_gt (qao (g:=gb333) (o:=.cells #[.int .i64 a1_0,.int .i64 a1_1,.slice A1_2 l1_2.length c1_2] 62 (0,0)) (za0 BK333)):gb334≠gb333));clear BK332;clear BK333;clear HB;have BK332:=n0_;have BK333:=n1_;have HB:=n2_;have BK334:=n3_;have GW334:=n4_;have GE334:=n5_;have NB332_334:=n6_;have NB334_332:=n7_;have NB333_334:=n8_;have NB334_333:=n9_;clear n0_ n1_ n2_ n3_ n4_ n5_ n6_ n7_ n8_ n9_;clear hb hbox hg;have hnb26:=NB332_333.out;have hnc26:=NB333_332.out;have hnb27:=NB332_334.out;have hnc27:=NB334_332.out;have hcz28_0:w25.cell? ⟨gb332,0,none⟩=some (.int .i64 a0_0):=(qab BK332.out 0).trans rfl;have hcz28_1:w25.cell? ⟨gb332,1,none⟩=some (.slice A0_1 l0_1.length c0_1):=(qab BK332.out 1).trans rfl;have hfz28_0:=qaa BK332.out 0;have hfz28_1:=qaa BK332.out 1;have hnb29:=NB333_334.out;have hnc29:=NB334_333.out;have hcz30_0:w25.cell? ⟨gb333,0,none⟩=some (.int .i64 a1_0):=(qab BK333.out 0).trans rfl;have hcz30_1:w25.cell? ⟨gb333,1,none⟩=some (.int .i64 a1_1):=(qab BK333.out 1).trans rfl;have hcz30_2:w25.cell? ⟨gb333,2,none⟩=some (.slice A1_2 l1_2.length c1_2):=(qab BK333.out 2).trans rfl;have hfz30_0:=qaa BK333.out 0;have hfz30_1:=qaa BK333.out 1;have hfz30_2:=qaa BK333.out 2)|((with_reducible refine qai (f:=37) rfl ?_);refine qau (some 8) rfl rfl Try.func37 (by kernel_rfl) rfl #[.agg #[.int .i64 a0_0,.slice A0_1 l0_1.length c0_1],.agg #[.int .i64 a1_0,.int .i64 a1_1,.slice A1_2 l1_2.length c1_2]] rfl (by(try simp only[List.map_toArray,List.map_cons,List.map_nil]);first|done|rfl|(simp only[List.length_drop,List.length_take];rfl)) ?_;(with_reducible refine(spec_StockMay.calls k a0_0 _ _ l0_1 a1_0 a1_1 _ _ l1_2 false _ ?side1 ?side2 ?side3 ?side4 A3.out).mono ?_);(case side1=>repeat(first|exact(Kd.C_below HR0_1.out HB.out)|(with_reducible refine Kd.C_alloc ?_ _)|(with_reducible refine Kd.C_drewN ?_ _)|(with_reducible refine Kd.C_drew ?_)));(case side2=>exact HC0_1.out);(case side3=>repeat(first|exact(Kd.C_below HR1_2.out HB.out)|(with_reducible refine Kd.C_alloc ?_ _)|(with_reducible refine Kd.C_drewN ?_ _)|(with_reducible refine Kd.C_drew ?_)));(case side4=>exact HC1_2.out);rintro e w31 ⟨rfl,hb⟩;refine⟨_,rfl,?_⟩;have n0_:=qal.mk (qac (g:=gb332) (o:=.cells #[.int .i64 a0_0,.slice A0_1 l0_1.length c0_1] 36 (0,0)) (za0 BK332) hb);have n1_:=qal.mk (qac (g:=gb333) (o:=.cells #[.int .i64 a1_0,.int .i64 a1_1,.slice A1_2 l1_2.length c1_2] 62 (0,0)) (za0 BK333) hb);have n2_:=qal.mk (qac (g:=gb334) (o:=.cells #[.int .i64 0,.slice none 0 0] 36 (0,0)) (za0 BK334) hb);have n3_:=qal.mk (qae (za6 HB GE332 GE333 GE334) hb);clear BK332;clear BK333;clear BK334;clear HB;have BK332:=n0_;have BK333:=n1_;have BK334:=n2_;have HB:=n3_;clear n0_ n1_ n2_ n3_;(try clear hb);(try clear hb2);(try clear hk);(try clear hi);have hcz32_0:w31.cell? ⟨gb334,0,none⟩=some (.int .i64 0):=(qab BK334.out 0).trans rfl;have hcz32_1:w31.cell? ⟨gb334,1,none⟩=some (.slice none 0 0):=(qab BK334.out 1).trans rfl;have hfz32_0:=qaa BK334.out 0;have hfz32_1:=qaa BK334.out 1))
  refine bodyPost_ret (results_ct rfl _ _ gb334 36 #[.int .i64 0,.slice none 0 0] (0,0) _ rfl (by(with_reducible repeat(first|refine qag ?_ _|refine qah ?_|refine qaf ?_ _));refine qan (cs:=#[.int .i64 0,.slice none 0 0]) ?_ 1 _ rfl;(with_reducible repeat(first|refine qag ?_ _|refine qah ?_|refine qaf ?_ _));refine qan (cs:=#[.int .i64 0,.slice none 0 0]) ?_ 0 _ rfl;(with_reducible repeat(first|refine qag ?_ _|refine qah ?_|refine qaf ?_ _));exact BK334.out) Try.underlying36 rfl (by kernel_rfl)) rfl ?_
  exact⟨_,za9,za47,za6 HB GE332 GE333 GE334⟩
end Go.Proofs.Ytjccnaklodbbfaa.Print
