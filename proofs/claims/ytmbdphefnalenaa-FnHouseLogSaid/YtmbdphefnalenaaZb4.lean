-- Written by squeeze.py: not trusted, Lean checks it.
import Derived.Test.YtmbdphefnalenaaZK
import Derived.Test.YtmbdphefnalenaaZb3
import Derived.Test.YtmbdphefnalenaaZc3
namespace Go.Proofs.Ytmbdphefnalenaa.Print
open Go.RowKit Go.Proofs.YtmbdphefnalenaaW.PrintWords Go.Proofs.YtmbdphefnalenaaW.PrintLast Go.Proofs.YtmbdphefnalenaaW.PrintMore
attribute [local go_sem] max2_int min2_int max_two min_two max_three min_three max_four min_four
set_option linter.unusedVariables false
set_option linter.unusedSimpArgs false
def spec_StockDo.f (k:Nat) (a0_0:Int) (l0_1:List (S49)) (a1_0:Int) (a1_1:Int) (l1_2:List Int):Option (Int × (List (S49)) × Bool):=(spec_StockMay.f k a0_0 l0_1 a1_0 a1_1 l1_2).bind fun t376=>(if t376=true then((spec_l2Copy.f a0_0 l0_1).bind fun bt377=>((spec_l2Do.f bt377.1 bt377.2 a1_0 a1_1 l1_2).bind fun bt381=>(some (bt381.1,bt381.2,true)))) else(some (0,([]:List (S49)),false)))
theorem spec_StockDo.mono:∀a0 a1 a2 a3 a4 k,LeO (spec_StockDo.f k a0 a1 a2 a3 a4) (spec_StockDo.f (k+1) a0 a1 a2 a3 a4):=by
 intro a0 a1 a2 a3 a4 k
 unfold spec_StockDo.f
 repeat' first
   |(with_reducible exact spec_StockMay.mono _ _ _ _ _ _)
   |(with_reducible exact LeO.refl _)
   |(with_reducible exact LeO.none _)
   |(with_reducible refine LeO.ite ?_ ?_)
   |(with_reducible refine LeO.bind ?_ (fun _=>?_))
   |exact spec_StockMay.mono _ _ _ _ _ _
   |exact LeO.none _
   |refine LeO.ite ?_ ?_
   |refine LeO.bind ?_ (fun _=>?_)
set_option maxHeartbeats 8000000 in
set_option maxRecDepth 100000 in
theorem spec_StockDo.calls (k:Nat) (a0_0:Int) (A0_1:Option Addr) (c0_1:Nat) (l0_1:List (S49)) (a1_0:Int) (a1_1:Int) (A1_2:Option Addr) (c1_2:Nat) (l1_2:List Int) (r1:Int) (r2:List (S49)) (r3:Bool) (w:World) (hr0_1:Kd.C k49 w A0_1 l0_1.length l0_1) (hc0_1:l0_1.length≤c0_1) (hr1_2:Kd.C (Kd.int .i64) w A1_2 l1_2.length l1_2) (hc1_2:l1_2.length≤c1_2) (h:spec_StockDo.f k a0_0 l0_1 a1_0 a1_1 l1_2=some (r1,r2,r3)) :
  Calls Try.prog 27 #[.agg #[.int .i64 a0_0,.slice A0_1 l0_1.length c0_1],.agg #[.int .i64 a1_0,.int .i64 a1_1,.slice A1_2 l1_2.length c1_2]] w fun e w'=>∃v1_:Value,e=.returned (.tuple #[.agg #[.int .i64 r1,v1_],.bool r3])∧Kd.R k49 49 w' w.heap.size (fun _=>True) v1_ r2∧Below w.heap.size w w':=by
 have hu38:=Try.underlying38
 have hu32:=Try.underlying32
 have HR0_1:=Aside0.mk hr0_1
 have HC0_1:=Aside0.mk hc0_1
 clear hr0_1 hc0_1
 have HR1_2:=Aside0.mk hr1_2
 have HC1_2:=Aside0.mk hc1_2
 clear hr1_2 hc1_2
 have HB:=Aside0.mk (Below.refl w.heap.size w)
 have H:((spec_StockMay.f k a0_0 l0_1 a1_0 a1_1 l1_2).bind fun t376=>(if t376=true then((spec_l2Copy.f a0_0 l0_1).bind fun bt377=>((spec_l2Do.f bt377.1 bt377.2 a1_0 a1_1 l1_2).bind fun bt381=>(some (bt381.1,bt381.2,true)))) else(some (0,([]:List (S49)),false))))=some (r1,r2,r3):=h
 clear h
 replace H:=Option.bind_eq_some_iff.mp H
 obtain⟨t376,A30,H⟩:=H
 replace H:(if t376=true then((spec_l2Copy.f a0_0 l0_1).bind fun bt377=>((spec_l2Do.f bt377.1 bt377.2 a1_0 a1_1 l1_2).bind fun bt381=>(some (bt381.1,bt381.2,true)))) else(some (0,([]:List (S49)),false)))=some (r1,r2,r3):=H
 have A3:=Aside0.mk A30
 clear A30
 by_cases c4:t376=true
 ·subst c4
  have H1:((spec_l2Copy.f a0_0 l0_1).bind fun bt377=>((spec_l2Do.f bt377.1 bt377.2 a1_0 a1_1 l1_2).bind fun bt381=>(some (bt381.1,bt381.2,true))))=some (r1,r2,r3):=by rw[if_pos rfl] at H;exact H
  clear H
  have H:=H1
  clear H1
  replace H:=Option.bind_eq_some_iff.mp H
  obtain⟨⟨t377,t378⟩,A50,H⟩:=H
  replace H:((spec_l2Do.f t377 t378 a1_0 a1_1 l1_2).bind fun bt381=>(some (bt381.1,bt381.2,true)))=some (r1,r2,r3):=H
  have A5:=Aside0.mk A50
  clear A50
  replace H:=Option.bind_eq_some_iff.mp H
  obtain⟨⟨t381,t382⟩,A60,H⟩:=H
  replace H:(some (t381,t382,true))=some (r1,r2,r3):=H
  have A6:=Aside0.mk A60
  clear A60
  simp only[Option.some.injEq,Prod.mk.injEq] at H
  obtain⟨rfl,rfl,rfl⟩:=H
  go_enter Try.func27,Try.ntmps27
  try go_wp2_with(first|((with_reducible refine qae (N:=2) rfl ?_);refine zX (N:=2) (cs:=#[.int .i64 a0_0,.slice A0_1 l0_1.length c0_1]) (t:=38) ?_;intro gb373 hg w7 hbox hb;have BK373:=Aside0.mk hbox;have GW373:=zH (w:=w) hg (za4 HB);have GE373:=GW373;replace HB:=Aside0.mk (qab (za4 HB) hb);clear hb hbox hg)|((with_reducible refine qae (N:=3) rfl ?_);refine zX (N:=3) (cs:=#[.int .i64 a1_0,.int .i64 a1_1,.slice A1_2 l1_2.length c1_2]) (t:=32) ?_;intro gb374 hg w8 hbox hb;have BK374:=Aside0.mk hbox;have GW374:=zH (w:=w) hg (za1 HB GE373);have GE374:=GW374;replace HB:=Aside0.mk (qab (za1 HB GE373) hb);have NB373_374:=zL BK373 hg;have NB374_373:=zG BK373 hg;replace BK373:=Aside0.mk (qaa (zB BK373) hb);clear hb hbox hg)|((with_reducible refine qae (N:=4) rfl ?_);refine zX (N:=4) (cs:=#[.int .i64 0,.slice none 0 0]) (t:=38) ?_;intro gb375 hg w9 hbox hb;have BK375:=Aside0.mk hbox;have GW375:=zH (w:=w) hg (za2 HB GE373 GE374);have GE375:=GW375;replace HB:=Aside0.mk (qab (za2 HB GE373 GE374) hb);have NB373_375:=zL BK373 hg;have NB375_373:=zG BK373 hg;replace BK373:=Aside0.mk (qaa (zB BK373) hb);have NB374_375:=zL BK374 hg;have NB375_374:=zG BK374 hg;replace BK374:=Aside0.mk (qaa (zB BK374) hb);clear hb hbox hg;have hnb10:=NB373_374.out;have hnc10:=NB374_373.out;have hnb11:=NB373_375.out;have hnc11:=NB375_373.out;obtain⟨hcz12_0,hcz12_1,hfz12_0,hfz12_1⟩:=zC2 BK373;have hnb13:=NB374_375.out;have hnc13:=NB375_374.out;obtain⟨hcz14_0,hcz14_1,hcz14_2,hfz14_0,hfz14_1,hfz14_2⟩:=zC3 BK374)|((with_reducible refine qac (f:=60) rfl ?_);refine zF (some 8) Try.func60 #[.agg #[.int .i64 a0_0,.slice A0_1 l0_1.length c0_1],.agg #[.int .i64 a1_0,.int .i64 a1_1,.slice A1_2 l1_2.length c1_2]] ?_;(with_reducible refine(spec_StockMay.calls k a0_0 _ _ l0_1 a1_0 a1_1 _ _ l1_2 true _ ?side1 ?side2 ?side3 ?side4 A3.out).mono ?_);(case side1=>exact zR HR0_1 HB);(case side2=>exact HC0_1.out);(case side3=>exact zR HR1_2 HB);(case side4=>exact HC1_2.out);rintro e w15 ⟨rfl,hb⟩;refine⟨_,rfl,?_⟩;replace BK373:=Aside0.mk (qaa (zB BK373) hb);replace BK374:=Aside0.mk (qaa (zB BK374) hb);replace BK375:=Aside0.mk (qaa (zB BK375) hb);replace HB:=Aside0.mk (qab (za6 HB GE373 GE374 GE375) hb);(try clear hb)))
  replace BK373:=Aside0.mk (blk_drew BK373.out)
  replace BK374:=Aside0.mk (blk_drew BK374.out)
  replace BK375:=Aside0.mk (blk_drew BK375.out)
  replace HB:=Aside0.mk (qao HB.out)
  refine start_ (n:=6) (S:=fun w'=>w'.cell? ⟨gb373,0,none⟩=some (.int .i64 a0_0)∧w'.cell? ⟨gb373,1,none⟩=some (.slice A0_1 l0_1.length c0_1)∧w'.cell? ⟨gb374,0,none⟩=some (.int .i64 a1_0)∧w'.cell? ⟨gb374,1,none⟩=some (.int .i64 a1_1)∧w'.cell? ⟨gb374,2,none⟩=some (.slice A1_2 l1_2.length c1_2)) (ds:=[]) #[false,false,false,false,false,false] (by kernel_rfl) rfl rfl ⟨(blk_cell BK373.out 0).trans rfl,(blk_cell BK373.out 1).trans rfl,(blk_cell BK374.out 0).trans rfl,(blk_cell BK374.out 1).trans rfl,(blk_cell BK374.out 2).trans rfl⟩ (fun hHeld=>?_)
  generalize w15.drew=w16 at BK373 BK374 BK375 HB hHeld ⊢
  refine take_ (i:=0) (N:=some 11) (v:=?_) (a':=?_) #[true,false,false,false,false,false] rfl rfl (by kernel_rfl) (fun _ _ _ h=>h) (Or.inl ⟨by rfl,?_⟩) hHeld ?_ ?_
  rotate_left
  ·rintro w' ⟨s0,s1,s2,s3,s4⟩
   go_simp
   with_reducible rfl
  rotate_left
  ·simp only[Act.put,List.setIfInBounds_toArray,List.set_cons_zero,List.set_cons_succ,qaf,qag]
   rfl
  refine take_ (i:=2) (N:=some 13) (v:=?_) (a':=?_) #[true,false,true,false,false,false] rfl rfl (by kernel_rfl) (fun _ _ _ h=>h) (Or.inl ⟨by rfl,?_⟩) hHeld ?_ ?_
  rotate_left
  ·rintro w' ⟨s0,s1,s2,s3,s4⟩
   go_simp
   with_reducible rfl
  rotate_left
  ·simp only[Act.put,List.setIfInBounds_toArray,List.set_cons_zero,List.set_cons_succ,qaf,qag]
   rfl
  refine one_ (i:=1) (N:=some 12) #[true,true,true,false,false,false] rfl rfl (by kernel_rfl) (by decide) (fun K hK=>?_)
  refine goes_ Try.func62 (by kernel_rfl) rfl #[.agg #[.int .i64 a0_0,.slice A0_1 l0_1.length c0_1]] (by rfl) rfl rfl (by(try simp only[List.map_toArray,List.map_cons,List.map_nil]);first|done|rfl|(simp only[List.length_drop,List.length_take];rfl)) ?_
  with_reducible refine(spec_l2Copy.calls a0_0 _ _ l0_1 t377 t378 _ ?side1 ?side2 A5.out).mono ?_
  (case side1=>exact zR HR0_1 HB)
  (case side2=>exact HC0_1.out)
  rintro e w17 ⟨v379,rfl,ho0,hb⟩
  refine⟨_,rfl,?_⟩
  have HO380:=Aside0.mk (Kd.R_lower ho0 (below_size (za6 HB GE373 GE374 GE375)))
  replace BK373:=Aside0.mk (qaa (zB BK373) hb)
  replace BK374:=Aside0.mk (qaa (zB BK374) hb)
  replace BK375:=Aside0.mk (qaa (zB BK375) hb)
  replace HB:=Aside0.mk (qab (za6 HB GE373 GE374 GE375) hb)
  (try clear hb)
  (try clear hb2)
  (try clear hk)
  (try clear hi)
  (try clear ho0)
  obtain⟨Ao18,co18,eo18⟩:=Kd.R_slice HO380.out
  (first|subst eo18|(injection eo18 with f1_ f2_ f3_;have f4_:=f1_.symm;have f5_:=f3_.symm;clear f1_ f2_ f3_;subst f4_;subst f5_))
  refine hK.out _ _ ⟨(blk_cell BK373.out 0).trans rfl,(blk_cell BK373.out 1).trans rfl,(blk_cell BK374.out 0).trans rfl,(blk_cell BK374.out 1).trans rfl,(blk_cell BK374.out 2).trans rfl⟩ (fun hHeld=>?_)
  clear hK K
  refine norm_ (a':=?_) ?_ ?_
  rotate_left
  ·show Act.put _ (some 12) _=_
   simp only[Act.put,List.setIfInBounds_toArray,List.set_cons_zero,List.set_cons_succ,qaf,qag]
   rfl
  refine one_ (i:=3) (N:=some 14) #[true,true,true,true,false,false] rfl rfl (by kernel_rfl) (by decide) (fun K hK=>?_)
  refine goes_ Try.func61 (by kernel_rfl) rfl #[.agg #[.int .i64 t377,.slice Ao18 t378.length co18],.agg #[.int .i64 a1_0,.int .i64 a1_1,.slice A1_2 l1_2.length c1_2]] (by rfl) rfl rfl (by(try simp only[List.map_toArray,List.map_cons,List.map_nil]);first|done|rfl|(simp only[List.length_drop,List.length_take];rfl)) ?_
  with_reducible refine(spec_l2Do.calls t377 (fun k_=>some k_=(.slice Ao18 t378.length co18:Value).ownBlock) (.slice Ao18 t378.length co18) t378 a1_0 a1_1 _ _ l1_2 t381 t382 w _ ?side1 ?side2 ?side3 ?side4 A6.out).mono ?_
  (case side1=>exact(za6 HB GE373 GE374 GE375))
  (case side2=>exact Kd.R_tight rfl HO380.out)
  (case side3=>exact Kd.C_kept_came (Kd.heap_int .i64) HR1_2.out (za6 HB GE373 GE374 GE375) (fun k_ hs_=>(fun e_=>Kd.R_base HO380.out k_ e_.symm) hs_))
  (case side4=>exact HC1_2.out)
  rintro e w19 ⟨v383,rfl,ho0,hb,hkp⟩
  refine⟨_,rfl,?_⟩
  replace BK373:=Aside0.mk (blk_kept (zB BK373) hkp (fun hs_=>(fun e_=>(Kd.R_ne HO380.out BK373.out (by decide)) e_) hs_))
  replace BK374:=Aside0.mk (blk_kept (zB BK374) hkp (fun hs_=>(fun e_=>(Kd.R_ne HO380.out BK374.out (by decide)) e_) hs_))
  replace BK375:=Aside0.mk (blk_kept (zB BK375) hkp (fun hs_=>(fun e_=>(Kd.R_ne HO380.out BK375.out (by decide)) e_) hs_))
  have HO384:=Aside0.mk (Kd.R_mono (ok':=fun k_=>True) ho0 (fun k_ hk_=>trivial))
  replace HB:=Aside0.mk hb
  clear HO380
  (try clear hb)
  (try clear hkp)
  (try clear ho0)
  obtain⟨Ao21,co21,eo21⟩:=Kd.R_slice HO384.out
  (first|subst eo21|(injection eo21 with f1_ f2_ f3_;have f4_:=f1_.symm;have f5_:=f3_.symm;clear f1_ f2_ f3_;subst f4_;subst f5_))
  refine hK.out _ _ ⟨(blk_cell BK373.out 0).trans rfl,(blk_cell BK373.out 1).trans rfl,(blk_cell BK374.out 0).trans rfl,(blk_cell BK374.out 1).trans rfl,(blk_cell BK374.out 2).trans rfl⟩ (fun hHeld=>?_)
  clear hK K
  refine norm_ (a':=?_) ?_ ?_
  rotate_left
  ·show Act.put _ (some 14) _=_
   simp only[Act.put,List.setIfInBounds_toArray,List.set_cons_zero,List.set_cons_succ,qaf,qag]
   rfl
  refine one_ (i:=4) (N:=none) #[true,true,true,true,true,false] rfl rfl (by kernel_rfl) (by decide) (fun K hK=>?_)
  have hs20:w19.cell? ⟨gb375,0,none⟩=some (.int .i64 0):=(blk_cell BK375.out 0).trans rfl
  have hfs20:=blk_frozen BK375.out 0
  have hns20_0:=NB373_375.out
  have hns20_1:=NB374_375.out
  have hms20_0:=NB375_373.out
  have hms20_1:=NB375_374.out
  have hs22:w19.cell? ⟨gb375,1,none⟩=some (.slice none 0 0):=(blk_cell BK375.out 1).trans rfl
  have hfs22:=blk_frozen BK375.out 1
  have hns22_0:=NB373_375.out
  have hns22_1:=NB374_375.out
  have hms22_0:=NB375_373.out
  have hms22_1:=NB375_374.out
  refine skip_ (w1:=?_) (by rfl) rfl ?_ ?_
  rotate_left
  ·go_simp
   rfl
  refine hK.out _ _ ⟨((qai (p:=⟨gb375,_,none⟩) NB373_375.out _).trans (((qai (p:=⟨gb375,_,none⟩) NB373_375.out _).trans (hHeld.1)))),((qai (p:=⟨gb375,_,none⟩) NB373_375.out _).trans (((qai (p:=⟨gb375,_,none⟩) NB373_375.out _).trans (hHeld.2.1)))),((qai (p:=⟨gb375,_,none⟩) NB374_375.out _).trans (((qai (p:=⟨gb375,_,none⟩) NB374_375.out _).trans (hHeld.2.2.1)))),((qai (p:=⟨gb375,_,none⟩) NB374_375.out _).trans (((qai (p:=⟨gb375,_,none⟩) NB374_375.out _).trans (hHeld.2.2.2.1)))),((qai (p:=⟨gb375,_,none⟩) NB374_375.out _).trans (((qai (p:=⟨gb375,_,none⟩) NB374_375.out _).trans (hHeld.2.2.2.2))))⟩ (fun hHeld=>?_)
  clear hK K
  refine qaj (i:=5) (N:=some 5) (v:=?_) (a':=?_) #[true,true,true,true,true,true] rfl rfl (by kernel_rfl) (fun _ _ _ h=>h) (Or.inl ⟨by rfl,?_⟩) ?_ ?_
  rotate_left
  ·intro w'
   go_simp
   with_reducible rfl
  rotate_left
  ·simp only[Act.put,List.setIfInBounds_toArray,List.set_cons_zero,List.set_cons_succ,qaf,qag]
   rfl
  refine done_ (by kernel_rfl) ?_
  try go_wp2
  refine bodyPost_ret (results_ct rfl _ _ gb375 38 #[.int .i64 t381,.slice Ao21 t382.length co21] (0,0) _ rfl (by(with_reducible repeat(first|refine blk_drewN ?_ _|refine blk_drew ?_|refine blk_alloc ?_ _));refine qad (cs:=#[.int .i64 t381,.slice none 0 0]) ?_ 1 _ rfl;(with_reducible repeat(first|refine blk_drewN ?_ _|refine blk_drew ?_|refine blk_alloc ?_ _));refine qad (cs:=#[.int .i64 0,.slice none 0 0]) ?_ 0 _ rfl;(with_reducible repeat(first|refine blk_drewN ?_ _|refine blk_drew ?_|refine blk_alloc ?_ _));exact BK375.out) Try.underlying38 rfl (by kernel_rfl)) rfl ?_
  exact⟨_,za16,by(with_reducible repeat(first|apply Kd.R_alloc|apply Kd.R_drewN|apply Kd.R_drew));exact Kd.R_mono (Kd.R_far (p:=⟨gb375,1,none⟩) (Kd.R_far (p:=⟨gb375,0,none⟩) (Kd.R_types HO384.out BK375.out (by decide)) (fun _ hk=>hk.2) (.int .i64 t381)) (fun _ hk=>hk.2) (.slice Ao21 t382.length co21)) (fun _ hk=>trivial),za6 HB GE373 GE374 GE375⟩
 ·replace c4:=Bool.eq_false_iff.mpr c4
  subst c4
  have H1:(some (0,([]:List (S49)),false))=some (r1,r2,r3):=by rw[if_neg (show ¬(false=true) by decide)] at H;exact H
  clear H
  have H:=H1
  clear H1
  simp only[Option.some.injEq,Prod.mk.injEq] at H
  obtain⟨rfl,rfl,rfl⟩:=H
  go_enter Try.func27,Try.ntmps27
  go_wp2_with(first|((with_reducible refine qae (N:=2) rfl ?_);refine zX (N:=2) (cs:=#[.int .i64 a0_0,.slice A0_1 l0_1.length c0_1]) (t:=38) ?_;intro gb373 hg w23 hbox hb;have BK373:=Aside0.mk hbox;have GW373:=zH (w:=w) hg (za4 HB);have GE373:=GW373;replace HB:=Aside0.mk (qab (za4 HB) hb);clear hb hbox hg)|((with_reducible refine qae (N:=3) rfl ?_);refine zX (N:=3) (cs:=#[.int .i64 a1_0,.int .i64 a1_1,.slice A1_2 l1_2.length c1_2]) (t:=32) ?_;intro gb374 hg w24 hbox hb;have BK374:=Aside0.mk hbox;have GW374:=zH (w:=w) hg (za1 HB GE373);have GE374:=GW374;replace HB:=Aside0.mk (qab (za1 HB GE373) hb);have NB373_374:=zL BK373 hg;have NB374_373:=zG BK373 hg;replace BK373:=Aside0.mk (qaa (zB BK373) hb);clear hb hbox hg)|((with_reducible refine qae (N:=4) rfl ?_);refine zX (N:=4) (cs:=#[.int .i64 0,.slice none 0 0]) (t:=38) ?_;intro gb375 hg w25 hbox hb;have BK375:=Aside0.mk hbox;have GW375:=zH (w:=w) hg (za2 HB GE373 GE374);have GE375:=GW375;replace HB:=Aside0.mk (qab (za2 HB GE373 GE374) hb);have NB373_375:=zL BK373 hg;have NB375_373:=zG BK373 hg;replace BK373:=Aside0.mk (qaa (zB BK373) hb);have NB374_375:=zL BK374 hg;have NB375_374:=zG BK374 hg;replace BK374:=Aside0.mk (qaa (zB BK374) hb);clear hb hbox hg;have hnb26:=NB373_374.out;have hnc26:=NB374_373.out;have hnb27:=NB373_375.out;have hnc27:=NB375_373.out;obtain⟨hcz28_0,hcz28_1,hfz28_0,hfz28_1⟩:=zC2 BK373;have hnb29:=NB374_375.out;have hnc29:=NB375_374.out;obtain⟨hcz30_0,hcz30_1,hcz30_2,hfz30_0,hfz30_1,hfz30_2⟩:=zC3 BK374)|((with_reducible refine qac (f:=60) rfl ?_);refine zF (some 8) Try.func60 #[.agg #[.int .i64 a0_0,.slice A0_1 l0_1.length c0_1],.agg #[.int .i64 a1_0,.int .i64 a1_1,.slice A1_2 l1_2.length c1_2]] ?_;(with_reducible refine(spec_StockMay.calls k a0_0 _ _ l0_1 a1_0 a1_1 _ _ l1_2 false _ ?side1 ?side2 ?side3 ?side4 A3.out).mono ?_);(case side1=>exact zR HR0_1 HB);(case side2=>exact HC0_1.out);(case side3=>exact zR HR1_2 HB);(case side4=>exact HC1_2.out);rintro e w31 ⟨rfl,hb⟩;refine⟨_,rfl,?_⟩;replace BK373:=Aside0.mk (qaa (zB BK373) hb);replace BK374:=Aside0.mk (qaa (zB BK374) hb);replace BK375:=Aside0.mk (qaa (zB BK375) hb);replace HB:=Aside0.mk (qab (za6 HB GE373 GE374 GE375) hb);(try clear hb);obtain⟨hcz32_0,hcz32_1,hfz32_0,hfz32_1⟩:=zC2 BK375))
  refine bodyPost_ret (results_ct rfl _ _ gb375 38 #[.int .i64 0,.slice none 0 0] (0,0) _ rfl (by(with_reducible repeat(first|refine blk_drewN ?_ _|refine blk_drew ?_|refine blk_alloc ?_ _));refine qad (cs:=#[.int .i64 0,.slice none 0 0]) ?_ 1 _ rfl;(with_reducible repeat(first|refine blk_drewN ?_ _|refine blk_drew ?_|refine blk_alloc ?_ _));refine qad (cs:=#[.int .i64 0,.slice none 0 0]) ?_ 0 _ rfl;(with_reducible repeat(first|refine blk_drewN ?_ _|refine blk_drew ?_|refine blk_alloc ?_ _));exact BK375.out) Try.underlying38 rfl (by kernel_rfl)) rfl ?_
  exact⟨_,za16,za59,za6 HB GE373 GE374 GE375⟩
end Go.Proofs.Ytmbdphefnalenaa.Print
