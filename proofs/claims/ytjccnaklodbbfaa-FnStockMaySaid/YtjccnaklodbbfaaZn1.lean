-- Written by squeeze.py: not trusted, Lean checks it.
import Derived.Test.YtjccnaklodbbfaaZK
import Derived.Test.YtjccnaklodbbfaaZl1
import Derived.Test.YtjccnaklodbbfaaZn0
namespace Go.Proofs.Ytjccnaklodbbfaa.Print
open Go.RowKit Go.Proofs.YtjccnaklodbbfaaW.PrintWords Go.Proofs.YtjccnaklodbbfaaW.PrintLast Go.Proofs.YtjccnaklodbbfaaW.PrintMore
attribute [local go_sem] max2_int min2_int max_two min_two max_three min_three max_four min_four
set_option linter.unusedVariables false
set_option linter.unusedSimpArgs false
def spec_l2Copy.f (a0_0:Int) (l0_1:List (S46)):Option (Int × (List (S46))):=(some (([]:List (S46)):List (S46))).bind fun y311=>(if y311.length+l0_1.length<8796093022208 then(some (a0_0,(y311++l0_1))) else(none))
def spec_l2Copy.T1:Bool × List (List Nat × List Nat):=(true,[([],[]),([0],[0]),([],[]),([],[]),([3],[3]),([2,4],[2,4]),([1,5],[1,5]),([6,5,0,1,2,3,4,5,6],[6])])
def spec_l2Copy.B1:List Nat:=[0,1,0,0,8,28,63,127]
theorem spec_l2Copy.tab1:rtab .any (opsOf Try.f131 1)=spec_l2Copy.T1:=by kernel_rfl
theorem spec_l2Copy.bits1:waitsOk spec_l2Copy.T1.2 spec_l2Copy.B1=true:=by kernel_rfl
set_option maxHeartbeats 8000000 in
set_option maxRecDepth 100000 in
theorem spec_l2Copy.calls (a0_0:Int) (A0_1:Option Addr) (c0_1:Nat) (l0_1:List (S46)) (r1:Int) (r2:List (S46)) (w:World) (hr0_1:Kd.C k46 w A0_1 l0_1.length l0_1) (hc0_1:l0_1.length≤c0_1) (h:spec_l2Copy.f a0_0 l0_1=some (r1,r2)) :
  Calls Try.prog 131 #[.agg #[.int .i64 a0_0,.slice A0_1 l0_1.length c0_1]] w fun e w'=>∃v1_:Value,e=.returned (.agg #[.int .i64 r1,v1_])∧Kd.R k46 46 w' w.heap.size (fun _=>True) v1_ r2∧Below w.heap.size w w':=by
 have hu36:=Try.underlying36
 have HR0_1:=Aside0.mk hr0_1
 have HC0_1:=Aside0.mk hc0_1
 clear hr0_1 hc0_1
 have HB:=Aside0.mk (Below.refl w.heap.size w)
 have H:((some (([]:List (S46)):List (S46))).bind fun y311=>(if y311.length+l0_1.length<8796093022208 then(some (a0_0,(y311++l0_1))) else(none)))=some (r1,r2):=h
 clear h
 obtain⟨y311,hy311⟩:∃y_:List (S46),y_=(([]:List (S46))):=⟨_,rfl⟩
 replace H:(if y311.length+l0_1.length<8796093022208 then(some (a0_0,(y311++l0_1))) else(none))=some (r1,r2):=by first|(rw[hy311];with_reducible exact H)|(have H2_:=(Option.bind_some _ _).symm.trans H;rw[hy311];with_reducible exact H2_)|(have H2_:=(Option.bind_some _ _).symm.trans H;with_reducible exact H2_)|with_reducible exact H|(rw[hy311];exact H)|exact H
 have Ny311:=Aside0.mk hy311
 clear hy311
 by_cases c2:y311.length+l0_1.length<8796093022208
 ·rw[if_pos c2] at H
  have LMc2:=Aside0.mk c2
  clear c2
  obtain⟨y314,hy314⟩:∃y_:List (S46),y_=(y311++l0_1):=⟨_,rfl⟩
  replace H:(some (a0_0,y314))=some (r1,r2):=by first|(rw[hy314];with_reducible exact H)|(have H2_:=(Option.bind_some _ _).symm.trans H;rw[hy314];with_reducible exact H2_)|(have H2_:=(Option.bind_some _ _).symm.trans H;with_reducible exact H2_)|with_reducible exact H|(rw[hy314];exact H)|exact H
  have Ny314:=Aside0.mk hy314
  clear hy314
  simp only[Option.some.injEq,Prod.mk.injEq] at H
  obtain⟨rfl,rfl⟩:=H
  go_enter Try.func131,Try.ntmps131
  try go_wp2_with(first|((with_reducible refine qah (N:=1) rfl ?_);refine zX (N:=1) (cs:=#[.int .i64 a0_0,.slice A0_1 l0_1.length c0_1]) (t:=36) ?_;intro gb309 hg w3 hbox hb;have BK309:=Aside0.mk hbox;have GW309:=zH (w:=w) hg (za1 HB);have GE309:=GW309;replace HB:=Aside0.mk (qab (za1 HB) hb);clear hb hbox hg)|((with_reducible refine qah (N:=2) rfl ?_);refine zX (N:=2) (cs:=#[.int .i64 0,.slice none 0 0]) (t:=36) ?_;intro gb310 hg w4 hbox hb;have BK310:=Aside0.mk hbox;have GW310:=zH (w:=w) hg (za0 HB GE309);have GE310:=GW310;replace HB:=Aside0.mk (qab (za0 HB GE309) hb);have NB309_310:=zL BK309 hg;have NB310_309:=zG BK309 hg;replace BK309:=Aside0.mk (qaa (zB BK309) hb);clear hb hbox hg))
  replace BK309:=Aside0.mk (blk_drew BK309.out)
  replace BK310:=Aside0.mk (blk_drew BK310.out)
  replace HB:=Aside0.mk (qae HB.out)
  refine start_ (n:=8) (S:=fun w'=>w'.cell? ⟨gb309,0,none⟩=some (.int .i64 a0_0)∧w'.cell? ⟨gb309,1,none⟩=some (.slice A0_1 l0_1.length c0_1)) (ds:=[]) #[false,false,false,false,false,false,false,false] (by kernel_rfl) rfl rfl ⟨(blk_cell BK309.out 0).trans rfl,(blk_cell BK309.out 1).trans rfl⟩ (fun hHeld=>?_);refine with_tabW spec_l2Copy.tab1 spec_l2Copy.bits1 (fun HT_ HW_=>?_)
  generalize w4.drew=w5 at BK309 BK310 HB hHeld ⊢
  refine qar (i:=0) (N:=some 3) (v:=?_) (a':=?_) #[true,false,false,false,false,false,false,false] rfl rfl (qan HT_.out (by kernel_rfl)) (fun _ _ _ h=>h) (Or.inl ⟨by rfl,?_⟩) ?_ ?_
  rotate_left
  ·intro w'
   go_simp
   with_reducible rfl
  rotate_left
  ·simp only[Act.put,List.setIfInBounds_toArray,List.set_cons_zero,List.set_cons_succ,qaj,qak]
   rfl
  refine qar (i:=3) (N:=some 6) (v:=?_) (a':=?_) #[true,false,false,true,false,false,false,false] rfl rfl (qan HT_.out (by kernel_rfl)) (fun _ _ _ h=>h) (Or.inl ⟨by rfl,?_⟩) ?_ ?_
  rotate_left
  ·intro w'
   go_simp
   with_reducible rfl
  rotate_left
  ·simp only[Act.put,List.setIfInBounds_toArray,List.set_cons_zero,List.set_cons_succ,qaj,qak]
   rfl
  refine take_ (i:=1) (N:=some 4) (v:=?_) (a':=?_) #[true,true,false,true,false,false,false,false] rfl rfl (take_ofW HT_.out HW_.out (by kernel_rfl)) (fun _ _ _ h=>h) (Or.inl ⟨by rfl,?_⟩) hHeld ?_ ?_
  rotate_left
  ·rintro w' ⟨s0,s1⟩
   go_simp
   with_reducible rfl
  rotate_left
  ·simp only[Act.put,List.setIfInBounds_toArray,List.set_cons_zero,List.set_cons_succ,qaj,qak]
   rfl
  refine take_ (i:=4) (N:=some 7) (v:=?_) (a':=?_) #[true,true,false,true,true,false,false,false] rfl rfl (take_ofW HT_.out HW_.out (by kernel_rfl)) (fun _ _ _ h=>h) (Or.inl ⟨by rfl,?_⟩) hHeld ?_ ?_
  rotate_left
  ·rintro w' ⟨s0,s1⟩
   go_simp
   with_reducible rfl
  rotate_left
  ·simp only[Act.put,List.setIfInBounds_toArray,List.set_cons_zero,List.set_cons_succ,qaj,qak]
   rfl
  refine one_ (i:=2) (N:=some 5) #[true,true,true,true,true,false,false,false] rfl rfl (one_of HT_.out (by kernel_rfl)) (by decide) (fun K hK=>?_)
  refine Kd.R_lit_step k46 _ 46 (by rfl) (N:=5) (by rfl) (xs:=([]:List (S46))) (inner:=[]) (ok:=fun _=>True) (okp:=fun _=>True) (by first|(go_simp;done)|(go_simp;rfl)) (Reps.none _ _) (fun _ hk=>hk) trivial (Below.refl _ _) (Nat.le_refl _) (by simp) ?_
  intro v312 w6 ho7 hb hg_ hnew_
  clear hg_ hnew_
  (first|rw[←Ny311.out] at ho7|(simp only[Int.reduceToNat] at ho7;rw[←Ny311.out] at ho7))
  have HO313:=Aside0.mk (Kd.R_lower ho7 (below_size (za2 HB GE309 GE310)))
  replace BK309:=Aside0.mk (qaa (zB BK309) hb)
  replace BK310:=Aside0.mk (qaa (zB BK310) hb)
  replace HB:=Aside0.mk (qab (za2 HB GE309 GE310) hb)
  clear hb ho7
  refine hK.out _ _ ⟨(blk_cell BK309.out 0).trans rfl,(blk_cell BK309.out 1).trans rfl⟩ (fun hHeld=>?_)
  clear hK K
  refine norm_ (a':=?_) ?_ ?_
  rotate_left
  ·show Act.put _ (some 5) _=_
   simp only[Act.put,List.setIfInBounds_toArray,List.set_cons_zero,List.set_cons_succ,qaj,qak]
   rfl
  refine one_ (i:=5) (N:=some 8) #[true,true,true,true,true,true,false,false] rfl rfl (one_of HT_.out (by kernel_rfl)) (by decide) (fun K hK=>?_)
  refine Kd.R_append_rows_step k46 (w0:=w) w.heap.size (by rfl) (.tmp 5) (.tmp 7) 34 46 (.agg #[(.int .i64 0),(.int .i64 0)]) 16 rfl Try.underlying34 info46 rfl (by decide) (by omega) v312 y311 l0_1 _ _ _ (fun _=>True) (fun _=>False) rfl rfl ?aO ?aR (fun _ _ h=>h) (fun _ h=>h.elim) ?aF ?aB ?aS ?aL ?_
  (case aR=>repeat(first|exact(Kd.C_below HR0_1.out HB.out)|(with_reducible refine Kd.C_alloc ?_ _)|(with_reducible refine Kd.C_drewN ?_ _)|(with_reducible refine Kd.C_drew ?_)))
  (case aB=>exact(za2 HB GE309 GE310))
  (case aF=>exact(fun _ _=>trivial))
  (case aO=>exact(za3 HO313))
  (case aS=>exact(below_size (za2 HB GE309 GE310)))
  (case aL=>have:=LMc2.out;omega)
  intro v315 w8 ho hb hg hat
  rw[←Ny314.out] at ho
  replace BK309:=Aside0.mk (qas (zB BK309) hg (Kd.R_ne HO313.out BK309.out (by decide)))
  replace BK310:=Aside0.mk (qas (zB BK310) hg (Kd.R_ne HO313.out BK310.out (by decide)))
  replace HB:=Aside0.mk hb
  have HO316:=Aside0.mk ho
  clear HO313
  clear ho hb hg hat
  obtain⟨Ao9,co9,eo9⟩:=Kd.R_slice HO316.out
  (first|subst eo9|(injection eo9 with f1_ f2_ f3_;have f4_:=f1_.symm;have f5_:=f3_.symm;clear f1_ f2_ f3_;subst f4_;subst f5_))
  refine hK.out _ _ ⟨(blk_cell BK309.out 0).trans rfl,(blk_cell BK309.out 1).trans rfl⟩ (fun hHeld=>?_)
  clear hK K
  refine norm_ (a':=?_) ?_ ?_
  rotate_left
  ·show Act.put _ (some 8) _=_
   simp only[Act.put,List.setIfInBounds_toArray,List.set_cons_zero,List.set_cons_succ,qaj,qak]
   rfl
  refine qar (i:=6) (N:=some 9) (v:=?_) (a':=?_) #[true,true,true,true,true,true,true,false] rfl rfl (qan HT_.out (by kernel_rfl)) (fun _ _ _ h=>h) (Or.inl ⟨by rfl,?_⟩) ?_ ?_
  rotate_left
  ·intro w'
   go_simp
   with_reducible rfl
  rotate_left
  ·simp only[Act.put,List.setIfInBounds_toArray,List.set_cons_zero,List.set_cons_succ,qaj,qak]
   rfl
  refine one_ (i:=7) (N:=none) #[true,true,true,true,true,true,true,true] rfl rfl (one_of HT_.out (by kernel_rfl)) (by decide) (fun K hK=>?_)
  have hs10:w8.cell? ⟨gb310,0,none⟩=some (.int .i64 0):=(blk_cell BK310.out 0).trans rfl
  have hfs10:=blk_frozen BK310.out 0
  have hns10_0:=NB309_310.out
  have hms10_0:=NB310_309.out
  have hs11:w8.cell? ⟨gb310,1,none⟩=some (.slice none 0 0):=(blk_cell BK310.out 1).trans rfl
  have hfs11:=blk_frozen BK310.out 1
  have hns11_0:=NB309_310.out
  have hms11_0:=NB310_309.out
  refine skip_ (w1:=?_) (by rfl) rfl ?_ ?_
  rotate_left
  ·go_simp
   rfl
  refine hK.out _ _ ⟨((qap (p:=⟨gb310,_,none⟩) NB309_310.out _).trans (((qap (p:=⟨gb310,_,none⟩) NB309_310.out _).trans (hHeld.1)))),((qap (p:=⟨gb310,_,none⟩) NB309_310.out _).trans (((qap (p:=⟨gb310,_,none⟩) NB309_310.out _).trans (hHeld.2))))⟩ (fun hHeld=>?_)
  clear hK K
  refine done_ (done_of HT_.out (by kernel_rfl)) ?_
  try go_wp2
  refine bodyPost_ret (results_cell_row rfl _ _ gb310 36 #[.int .i64 a0_0,.slice Ao9 y314.length co9] (0,0) _ rfl (by(with_reducible repeat(first|refine blk_drewN ?_ _|refine blk_drew ?_|refine blk_alloc ?_ _));refine qai (cs:=#[.int .i64 a0_0,.slice none 0 0]) ?_ 1 _ rfl;(with_reducible repeat(first|refine blk_drewN ?_ _|refine blk_drew ?_|refine blk_alloc ?_ _));refine qai (cs:=#[.int .i64 0,.slice none 0 0]) ?_ 0 _ rfl;(with_reducible repeat(first|refine blk_drewN ?_ _|refine blk_drew ?_|refine blk_alloc ?_ _));exact BK310.out) Try.underlying36 rfl (by kernel_rfl)) rfl ?_
  exact⟨_,za9,by(with_reducible repeat(first|apply Kd.R_alloc|apply Kd.R_drewN|apply Kd.R_drew));exact Kd.R_mono (Kd.R_far (p:=⟨gb310,1,none⟩) (Kd.R_far (p:=⟨gb310,0,none⟩) (Kd.R_types HO316.out BK310.out (by decide)) (fun _ hk=>hk.2) (.int .i64 a0_0)) (fun _ hk=>hk.2) (.slice Ao9 y314.length co9)) (fun _ hk=>trivial),za2 HB GE309 GE310⟩
 ·rw[if_neg c2] at H
  exact absurd H (by simp)
def spec_StockDo.f (k:Nat) (a0_0:Int) (l0_1:List (S46)) (a1_0:Int) (a1_1:Int) (l1_2:List Int):Option (Int × (List (S46)) × Bool):=(spec_StockMay.f k a0_0 l0_1 a1_0 a1_1 l1_2).bind fun t320=>(if t320=true then((spec_l2Copy.f a0_0 l0_1).bind fun bt321=>((spec_l2Do.f bt321.1 bt321.2 a1_0 a1_1 l1_2).bind fun bt325=>(some (bt325.1,bt325.2,true)))) else(some (0,([]:List (S46)),false)))
theorem spec_StockDo.mono:∀a0 a1 a2 a3 a4 k,LeO (spec_StockDo.f k a0 a1 a2 a3 a4) (spec_StockDo.f (k+1) a0 a1 a2 a3 a4):=by
 intro a0 a1 a2 a3 a4 k
 unfold spec_StockDo.f
 repeat' first
   |(with_reducible exact spec_StockMay.mono _ _ _ _ _ _)
   |(with_reducible exact LeO.refl _)
   |(with_reducible exact LeO.none _)
   |(with_reducible refine LeO.ite ?_ ?_)
   |(with_reducible refine LeO.bind ?_ (fun _=>?_))
   |exact spec_StockMay.mono _ _ _ _ _ _
   |exact LeO.none _
   |refine LeO.ite ?_ ?_
   |refine LeO.bind ?_ (fun _=>?_)
set_option maxHeartbeats 8000000 in
set_option maxRecDepth 100000 in
theorem spec_StockDo.calls (k:Nat) (a0_0:Int) (A0_1:Option Addr) (c0_1:Nat) (l0_1:List (S46)) (a1_0:Int) (a1_1:Int) (A1_2:Option Addr) (c1_2:Nat) (l1_2:List Int) (r1:Int) (r2:List (S46)) (r3:Bool) (w:World) (hr0_1:Kd.C k46 w A0_1 l0_1.length l0_1) (hc0_1:l0_1.length≤c0_1) (hr1_2:Kd.C (Kd.int .i64) w A1_2 l1_2.length l1_2) (hc1_2:l1_2.length≤c1_2) (h:spec_StockDo.f k a0_0 l0_1 a1_0 a1_1 l1_2=some (r1,r2,r3)) :
  Calls Try.prog 124 #[.agg #[.int .i64 a0_0,.slice A0_1 l0_1.length c0_1],.agg #[.int .i64 a1_0,.int .i64 a1_1,.slice A1_2 l1_2.length c1_2]] w fun e w'=>∃v1_:Value,e=.returned (.tuple #[.agg #[.int .i64 r1,v1_],.bool r3])∧Kd.R k46 46 w' w.heap.size (fun _=>True) v1_ r2∧Below w.heap.size w w':=by
 have hu36:=Try.underlying36
 have hu62:=Try.underlying62
 have HR0_1:=Aside0.mk hr0_1
 have HC0_1:=Aside0.mk hc0_1
 clear hr0_1 hc0_1
 have HR1_2:=Aside0.mk hr1_2
 have HC1_2:=Aside0.mk hc1_2
 clear hr1_2 hc1_2
 have HB:=Aside0.mk (Below.refl w.heap.size w)
 have H:((spec_StockMay.f k a0_0 l0_1 a1_0 a1_1 l1_2).bind fun t320=>(if t320=true then((spec_l2Copy.f a0_0 l0_1).bind fun bt321=>((spec_l2Do.f bt321.1 bt321.2 a1_0 a1_1 l1_2).bind fun bt325=>(some (bt325.1,bt325.2,true)))) else(some (0,([]:List (S46)),false))))=some (r1,r2,r3):=h
 clear h
 replace H:=Option.bind_eq_some_iff.mp H
 obtain⟨t320,A30,H⟩:=H
 replace H:(if t320=true then((spec_l2Copy.f a0_0 l0_1).bind fun bt321=>((spec_l2Do.f bt321.1 bt321.2 a1_0 a1_1 l1_2).bind fun bt325=>(some (bt325.1,bt325.2,true)))) else(some (0,([]:List (S46)),false)))=some (r1,r2,r3):=H
 have A3:=Aside0.mk A30
 clear A30
 by_cases c4:t320=true
 ·subst c4
  have H1:((spec_l2Copy.f a0_0 l0_1).bind fun bt321=>((spec_l2Do.f bt321.1 bt321.2 a1_0 a1_1 l1_2).bind fun bt325=>(some (bt325.1,bt325.2,true))))=some (r1,r2,r3):=by rw[if_pos rfl] at H;exact H
  clear H
  have H:=H1
  clear H1
  replace H:=Option.bind_eq_some_iff.mp H
  obtain⟨⟨t321,t322⟩,A50,H⟩:=H
  replace H:((spec_l2Do.f t321 t322 a1_0 a1_1 l1_2).bind fun bt325=>(some (bt325.1,bt325.2,true)))=some (r1,r2,r3):=H
  have A5:=Aside0.mk A50
  clear A50
  replace H:=Option.bind_eq_some_iff.mp H
  obtain⟨⟨t325,t326⟩,A60,H⟩:=H
  replace H:(some (t325,t326,true))=some (r1,r2,r3):=H
  have A6:=Aside0.mk A60
  clear A60
  simp only[Option.some.injEq,Prod.mk.injEq] at H
  obtain⟨rfl,rfl,rfl⟩:=H
  go_enter Try.func124,Try.ntmps124
  try go_wp2_with(first|((with_reducible refine qah (N:=2) rfl ?_);refine zX (N:=2) (cs:=#[.int .i64 a0_0,.slice A0_1 l0_1.length c0_1]) (t:=36) ?_;intro gb317 hg w7 hbox hb;have BK317:=Aside0.mk hbox;have GW317:=zH (w:=w) hg (za1 HB);have GE317:=GW317;replace HB:=Aside0.mk (qab (za1 HB) hb);clear hb hbox hg)|((with_reducible refine qah (N:=3) rfl ?_);refine zX (N:=3) (cs:=#[.int .i64 a1_0,.int .i64 a1_1,.slice A1_2 l1_2.length c1_2]) (t:=62) ?_;intro gb318 hg w8 hbox hb;have BK318:=Aside0.mk hbox;have GW318:=zH (w:=w) hg (za0 HB GE317);have GE318:=GW318;replace HB:=Aside0.mk (qab (za0 HB GE317) hb);have NB317_318:=zL BK317 hg;have NB318_317:=zG BK317 hg;replace BK317:=Aside0.mk (qaa (zB BK317) hb);clear hb hbox hg)|((with_reducible refine qah (N:=4) rfl ?_);refine zX (N:=4) (cs:=#[.int .i64 0,.slice none 0 0]) (t:=36) ?_;intro gb319 hg w9 hbox hb;have BK319:=Aside0.mk hbox;have GW319:=zH (w:=w) hg (za2 HB GE317 GE318);have GE319:=GW319;replace HB:=Aside0.mk (qab (za2 HB GE317 GE318) hb);have NB317_319:=zL BK317 hg;have NB319_317:=zG BK317 hg;replace BK317:=Aside0.mk (qaa (zB BK317) hb);have NB318_319:=zL BK318 hg;have NB319_318:=zG BK318 hg;replace BK318:=Aside0.mk (qaa (zB BK318) hb);clear hb hbox hg;have hnb10:=NB317_318.out;have hnc10:=NB318_317.out;have hnb11:=NB317_319.out;have hnc11:=NB319_317.out;obtain⟨hcz12_0,hcz12_1,hfz12_0,hfz12_1⟩:=zC2 BK317;have hnb13:=NB318_319.out;have hnc13:=NB319_318.out;obtain⟨hcz14_0,hcz14_1,hcz14_2,hfz14_0,hfz14_1,hfz14_2⟩:=zC3 BK318)|((with_reducible refine qaf (f:=37) rfl ?_);refine zF (some 8) Try.func37 #[.agg #[.int .i64 a0_0,.slice A0_1 l0_1.length c0_1],.agg #[.int .i64 a1_0,.int .i64 a1_1,.slice A1_2 l1_2.length c1_2]] ?_;(with_reducible refine(spec_StockMay.calls k a0_0 _ _ l0_1 a1_0 a1_1 _ _ l1_2 true _ ?side1 ?side2 ?side3 ?side4 A3.out).mono ?_);(case side1=>exact zR HR0_1 HB);(case side2=>exact HC0_1.out);(case side3=>exact zR HR1_2 HB);(case side4=>exact HC1_2.out);rintro e w15 ⟨rfl,hb⟩;refine⟨_,rfl,?_⟩;replace BK317:=Aside0.mk (qaa (zB BK317) hb);replace BK318:=Aside0.mk (qaa (zB BK318) hb);replace BK319:=Aside0.mk (qaa (zB BK319) hb);replace HB:=Aside0.mk (qab (za7 HB GE317 GE318 GE319) hb);(try clear hb)))
  replace BK317:=Aside0.mk (blk_drew BK317.out)
  replace BK318:=Aside0.mk (blk_drew BK318.out)
  replace BK319:=Aside0.mk (blk_drew BK319.out)
  replace HB:=Aside0.mk (qae HB.out)
  refine start_ (n:=6) (S:=fun w'=>w'.cell? ⟨gb317,0,none⟩=some (.int .i64 a0_0)∧w'.cell? ⟨gb317,1,none⟩=some (.slice A0_1 l0_1.length c0_1)∧w'.cell? ⟨gb318,0,none⟩=some (.int .i64 a1_0)∧w'.cell? ⟨gb318,1,none⟩=some (.int .i64 a1_1)∧w'.cell? ⟨gb318,2,none⟩=some (.slice A1_2 l1_2.length c1_2)) (ds:=[]) #[false,false,false,false,false,false] (by kernel_rfl) rfl rfl ⟨(blk_cell BK317.out 0).trans rfl,(blk_cell BK317.out 1).trans rfl,(blk_cell BK318.out 0).trans rfl,(blk_cell BK318.out 1).trans rfl,(blk_cell BK318.out 2).trans rfl⟩ (fun hHeld=>?_)
  generalize w15.drew=w16 at BK317 BK318 BK319 HB hHeld ⊢
  refine take_ (i:=0) (N:=some 11) (v:=?_) (a':=?_) #[true,false,false,false,false,false] rfl rfl (by kernel_rfl) (fun _ _ _ h=>h) (Or.inl ⟨by rfl,?_⟩) hHeld ?_ ?_
  rotate_left
  ·rintro w' ⟨s0,s1,s2,s3,s4⟩
   go_simp
   with_reducible rfl
  rotate_left
  ·simp only[Act.put,List.setIfInBounds_toArray,List.set_cons_zero,List.set_cons_succ,qaj,qak]
   rfl
  refine take_ (i:=2) (N:=some 13) (v:=?_) (a':=?_) #[true,false,true,false,false,false] rfl rfl (by kernel_rfl) (fun _ _ _ h=>h) (Or.inl ⟨by rfl,?_⟩) hHeld ?_ ?_
  rotate_left
  ·rintro w' ⟨s0,s1,s2,s3,s4⟩
   go_simp
   with_reducible rfl
  rotate_left
  ·simp only[Act.put,List.setIfInBounds_toArray,List.set_cons_zero,List.set_cons_succ,qaj,qak]
   rfl
  refine one_ (i:=1) (N:=some 12) #[true,true,true,false,false,false] rfl rfl (by kernel_rfl) (by decide) (fun K hK=>?_)
  refine goes_ Try.func131 (by kernel_rfl) rfl #[.agg #[.int .i64 a0_0,.slice A0_1 l0_1.length c0_1]] (by rfl) rfl rfl (by(try simp only[List.map_toArray,List.map_cons,List.map_nil]);first|done|rfl|(simp only[List.length_drop,List.length_take];rfl)) ?_
  with_reducible refine(spec_l2Copy.calls a0_0 _ _ l0_1 t321 t322 _ ?side1 ?side2 A5.out).mono ?_
  (case side1=>exact zR HR0_1 HB)
  (case side2=>exact HC0_1.out)
  rintro e w17 ⟨v323,rfl,ho0,hb⟩
  refine⟨_,rfl,?_⟩
  have HO324:=Aside0.mk (Kd.R_lower ho0 (below_size (za7 HB GE317 GE318 GE319)))
  replace BK317:=Aside0.mk (qaa (zB BK317) hb)
  replace BK318:=Aside0.mk (qaa (zB BK318) hb)
  replace BK319:=Aside0.mk (qaa (zB BK319) hb)
  replace HB:=Aside0.mk (qab (za7 HB GE317 GE318 GE319) hb)
  (try clear hb)
  (try clear hb2)
  (try clear hk)
  (try clear hi)
  (try clear ho0)
  obtain⟨Ao18,co18,eo18⟩:=Kd.R_slice HO324.out
  (first|subst eo18|(injection eo18 with f1_ f2_ f3_;have f4_:=f1_.symm;have f5_:=f3_.symm;clear f1_ f2_ f3_;subst f4_;subst f5_))
  refine hK.out _ _ ⟨(blk_cell BK317.out 0).trans rfl,(blk_cell BK317.out 1).trans rfl,(blk_cell BK318.out 0).trans rfl,(blk_cell BK318.out 1).trans rfl,(blk_cell BK318.out 2).trans rfl⟩ (fun hHeld=>?_)
  clear hK K
  refine norm_ (a':=?_) ?_ ?_
  rotate_left
  ·show Act.put _ (some 12) _=_
   simp only[Act.put,List.setIfInBounds_toArray,List.set_cons_zero,List.set_cons_succ,qaj,qak]
   rfl
  refine one_ (i:=3) (N:=some 14) #[true,true,true,true,false,false] rfl rfl (by kernel_rfl) (by decide) (fun K hK=>?_)
  refine goes_ Try.func130 (by kernel_rfl) rfl #[.agg #[.int .i64 t321,.slice Ao18 t322.length co18],.agg #[.int .i64 a1_0,.int .i64 a1_1,.slice A1_2 l1_2.length c1_2]] (by rfl) rfl rfl (by(try simp only[List.map_toArray,List.map_cons,List.map_nil]);first|done|rfl|(simp only[List.length_drop,List.length_take];rfl)) ?_
  with_reducible refine(spec_l2Do.calls t321 (fun k_=>some k_=(.slice Ao18 t322.length co18:Value).ownBlock) (.slice Ao18 t322.length co18) t322 a1_0 a1_1 _ _ l1_2 t325 t326 w _ ?side1 ?side2 ?side3 ?side4 A6.out).mono ?_
  (case side1=>exact(za7 HB GE317 GE318 GE319))
  (case side2=>exact Kd.R_tight rfl HO324.out)
  (case side3=>exact Kd.C_kept_came (Kd.heap_int .i64) HR1_2.out (za7 HB GE317 GE318 GE319) (fun k_ hs_=>(fun e_=>Kd.R_base HO324.out k_ e_.symm) hs_))
  (case side4=>exact HC1_2.out)
  rintro e w19 ⟨v327,rfl,ho0,hb,hkp⟩
  refine⟨_,rfl,?_⟩
  replace BK317:=Aside0.mk (blk_kept (zB BK317) hkp (fun hs_=>(fun e_=>(Kd.R_ne HO324.out BK317.out (by decide)) e_) hs_))
  replace BK318:=Aside0.mk (blk_kept (zB BK318) hkp (fun hs_=>(fun e_=>(Kd.R_ne HO324.out BK318.out (by decide)) e_) hs_))
  replace BK319:=Aside0.mk (blk_kept (zB BK319) hkp (fun hs_=>(fun e_=>(Kd.R_ne HO324.out BK319.out (by decide)) e_) hs_))
  have HO328:=Aside0.mk (Kd.R_mono (ok':=fun k_=>True) ho0 (fun k_ hk_=>trivial))
  replace HB:=Aside0.mk hb
  clear HO324
  (try clear hb)
  (try clear hkp)
  (try clear ho0)
  obtain⟨Ao21,co21,eo21⟩:=Kd.R_slice HO328.out
  (first|subst eo21|(injection eo21 with f1_ f2_ f3_;have f4_:=f1_.symm;have f5_:=f3_.symm;clear f1_ f2_ f3_;subst f4_;subst f5_))
  refine hK.out _ _ ⟨(blk_cell BK317.out 0).trans rfl,(blk_cell BK317.out 1).trans rfl,(blk_cell BK318.out 0).trans rfl,(blk_cell BK318.out 1).trans rfl,(blk_cell BK318.out 2).trans rfl⟩ (fun hHeld=>?_)
  clear hK K
  refine norm_ (a':=?_) ?_ ?_
  rotate_left
  ·show Act.put _ (some 14) _=_
   simp only[Act.put,List.setIfInBounds_toArray,List.set_cons_zero,List.set_cons_succ,qaj,qak]
   rfl
  refine one_ (i:=4) (N:=none) #[true,true,true,true,true,false] rfl rfl (by kernel_rfl) (by decide) (fun K hK=>?_)
  have hs20:w19.cell? ⟨gb319,0,none⟩=some (.int .i64 0):=(blk_cell BK319.out 0).trans rfl
  have hfs20:=blk_frozen BK319.out 0
  have hns20_0:=NB317_319.out
  have hns20_1:=NB318_319.out
  have hms20_0:=NB319_317.out
  have hms20_1:=NB319_318.out
  have hs22:w19.cell? ⟨gb319,1,none⟩=some (.slice none 0 0):=(blk_cell BK319.out 1).trans rfl
  have hfs22:=blk_frozen BK319.out 1
  have hns22_0:=NB317_319.out
  have hns22_1:=NB318_319.out
  have hms22_0:=NB319_317.out
  have hms22_1:=NB319_318.out
  refine skip_ (w1:=?_) (by rfl) rfl ?_ ?_
  rotate_left
  ·go_simp
   rfl
  refine hK.out _ _ ⟨((qap (p:=⟨gb319,_,none⟩) NB317_319.out _).trans (((qap (p:=⟨gb319,_,none⟩) NB317_319.out _).trans (hHeld.1)))),((qap (p:=⟨gb319,_,none⟩) NB317_319.out _).trans (((qap (p:=⟨gb319,_,none⟩) NB317_319.out _).trans (hHeld.2.1)))),((qap (p:=⟨gb319,_,none⟩) NB318_319.out _).trans (((qap (p:=⟨gb319,_,none⟩) NB318_319.out _).trans (hHeld.2.2.1)))),((qap (p:=⟨gb319,_,none⟩) NB318_319.out _).trans (((qap (p:=⟨gb319,_,none⟩) NB318_319.out _).trans (hHeld.2.2.2.1)))),((qap (p:=⟨gb319,_,none⟩) NB318_319.out _).trans (((qap (p:=⟨gb319,_,none⟩) NB318_319.out _).trans (hHeld.2.2.2.2))))⟩ (fun hHeld=>?_)
  clear hK K
  refine qar (i:=5) (N:=some 5) (v:=?_) (a':=?_) #[true,true,true,true,true,true] rfl rfl (by kernel_rfl) (fun _ _ _ h=>h) (Or.inl ⟨by rfl,?_⟩) ?_ ?_
  rotate_left
  ·intro w'
   go_simp
   with_reducible rfl
  rotate_left
  ·simp only[Act.put,List.setIfInBounds_toArray,List.set_cons_zero,List.set_cons_succ,qaj,qak]
   rfl
  refine done_ (by kernel_rfl) ?_
  try go_wp2
  refine bodyPost_ret (results_ct rfl _ _ gb319 36 #[.int .i64 t325,.slice Ao21 t326.length co21] (0,0) _ rfl (by(with_reducible repeat(first|refine blk_drewN ?_ _|refine blk_drew ?_|refine blk_alloc ?_ _));refine qai (cs:=#[.int .i64 t325,.slice none 0 0]) ?_ 1 _ rfl;(with_reducible repeat(first|refine blk_drewN ?_ _|refine blk_drew ?_|refine blk_alloc ?_ _));refine qai (cs:=#[.int .i64 0,.slice none 0 0]) ?_ 0 _ rfl;(with_reducible repeat(first|refine blk_drewN ?_ _|refine blk_drew ?_|refine blk_alloc ?_ _));exact BK319.out) Try.underlying36 rfl (by kernel_rfl)) rfl ?_
  exact⟨_,za9,by(with_reducible repeat(first|apply Kd.R_alloc|apply Kd.R_drewN|apply Kd.R_drew));exact Kd.R_mono (Kd.R_far (p:=⟨gb319,1,none⟩) (Kd.R_far (p:=⟨gb319,0,none⟩) (Kd.R_types HO328.out BK319.out (by decide)) (fun _ hk=>hk.2) (.int .i64 t325)) (fun _ hk=>hk.2) (.slice Ao21 t326.length co21)) (fun _ hk=>trivial),za7 HB GE317 GE318 GE319⟩
 ·replace c4:=Bool.eq_false_iff.mpr c4
  subst c4
  have H1:(some (0,([]:List (S46)),false))=some (r1,r2,r3):=by rw[if_neg (show ¬(false=true) by decide)] at H;exact H
  clear H
  have H:=H1
  clear H1
  simp only[Option.some.injEq,Prod.mk.injEq] at H
  obtain⟨rfl,rfl,rfl⟩:=H
  go_enter Try.func124,Try.ntmps124
  go_wp2_with(first|((with_reducible refine qah (N:=2) rfl ?_);refine zX (N:=2) (cs:=#[.int .i64 a0_0,.slice A0_1 l0_1.length c0_1]) (t:=36) ?_;intro gb317 hg w23 hbox hb;have BK317:=Aside0.mk hbox;have GW317:=zH (w:=w) hg (za1 HB);have GE317:=GW317;replace HB:=Aside0.mk (qab (za1 HB) hb);clear hb hbox hg)|((with_reducible refine qah (N:=3) rfl ?_);refine zX (N:=3) (cs:=#[.int .i64 a1_0,.int .i64 a1_1,.slice A1_2 l1_2.length c1_2]) (t:=62) ?_;intro gb318 hg w24 hbox hb;have BK318:=Aside0.mk hbox;have GW318:=zH (w:=w) hg (za0 HB GE317);have GE318:=GW318;replace HB:=Aside0.mk (qab (za0 HB GE317) hb);have NB317_318:=zL BK317 hg;have NB318_317:=zG BK317 hg;replace BK317:=Aside0.mk (qaa (zB BK317) hb);clear hb hbox hg)|((with_reducible refine qah (N:=4) rfl ?_);refine zX (N:=4) (cs:=#[.int .i64 0,.slice none 0 0]) (t:=36) ?_;intro gb319 hg w25 hbox hb;have BK319:=Aside0.mk hbox;have GW319:=zH (w:=w) hg (za2 HB GE317 GE318);have GE319:=GW319;replace HB:=Aside0.mk (qab (za2 HB GE317 GE318) hb);have NB317_319:=zL BK317 hg;have NB319_317:=zG BK317 hg;replace BK317:=Aside0.mk (qaa (zB BK317) hb);have NB318_319:=zL BK318 hg;have NB319_318:=zG BK318 hg;replace BK318:=Aside0.mk (qaa (zB BK318) hb);clear hb hbox hg;have hnb26:=NB317_318.out;have hnc26:=NB318_317.out;have hnb27:=NB317_319.out;have hnc27:=NB319_317.out;obtain⟨hcz28_0,hcz28_1,hfz28_0,hfz28_1⟩:=zC2 BK317;have hnb29:=NB318_319.out;have hnc29:=NB319_318.out;obtain⟨hcz30_0,hcz30_1,hcz30_2,hfz30_0,hfz30_1,hfz30_2⟩:=zC3 BK318)|((with_reducible refine qaf (f:=37) rfl ?_);refine zF (some 8) Try.func37 #[.agg #[.int .i64 a0_0,.slice A0_1 l0_1.length c0_1],.agg #[.int .i64 a1_0,.int .i64 a1_1,.slice A1_2 l1_2.length c1_2]] ?_;(with_reducible refine(spec_StockMay.calls k a0_0 _ _ l0_1 a1_0 a1_1 _ _ l1_2 false _ ?side1 ?side2 ?side3 ?side4 A3.out).mono ?_);(case side1=>exact zR HR0_1 HB);(case side2=>exact HC0_1.out);(case side3=>exact zR HR1_2 HB);(case side4=>exact HC1_2.out);rintro e w31 ⟨rfl,hb⟩;refine⟨_,rfl,?_⟩;replace BK317:=Aside0.mk (qaa (zB BK317) hb);replace BK318:=Aside0.mk (qaa (zB BK318) hb);replace BK319:=Aside0.mk (qaa (zB BK319) hb);replace HB:=Aside0.mk (qab (za7 HB GE317 GE318 GE319) hb);(try clear hb);obtain⟨hcz32_0,hcz32_1,hfz32_0,hfz32_1⟩:=zC2 BK319))
  refine bodyPost_ret (results_ct rfl _ _ gb319 36 #[.int .i64 0,.slice none 0 0] (0,0) _ rfl (by(with_reducible repeat(first|refine blk_drewN ?_ _|refine blk_drew ?_|refine blk_alloc ?_ _));refine qai (cs:=#[.int .i64 0,.slice none 0 0]) ?_ 1 _ rfl;(with_reducible repeat(first|refine blk_drewN ?_ _|refine blk_drew ?_|refine blk_alloc ?_ _));refine qai (cs:=#[.int .i64 0,.slice none 0 0]) ?_ 0 _ rfl;(with_reducible repeat(first|refine blk_drewN ?_ _|refine blk_drew ?_|refine blk_alloc ?_ _));exact BK319.out) Try.underlying36 rfl (by kernel_rfl)) rfl ?_
  exact⟨_,za9,za24,za7 HB GE317 GE318 GE319⟩
end Go.Proofs.Ytjccnaklodbbfaa.Print
