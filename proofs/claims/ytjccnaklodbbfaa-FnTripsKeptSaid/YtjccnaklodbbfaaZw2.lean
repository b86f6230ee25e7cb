-- Written by squeeze.py: not trusted, Lean checks it.
import Derived.Test.YtjccnaklodbbfaaZK
import Derived.Test.YtjccnaklodbbfaaZv0
import Derived.Test.YtjccnaklodbbfaaZw0
import Derived.Test.YtjccnaklodbbfaaZw1
namespace Go.Proofs.Ytjccnaklodbbfaa.Print
open Go.RowKit Go.Proofs.YtjccnaklodbbfaaW.PrintWords Go.Proofs.YtjccnaklodbbfaaW.PrintLast Go.Proofs.YtjccnaklodbbfaaW.PrintMore
attribute [local go_sem] max2_int min2_int max_two min_two max_three min_three max_four min_four
set_option linter.unusedVariables false
set_option linter.unusedSimpArgs false
def spec_TripsDo.f (k:Nat) (l0:List (S73)) (a1_0:Int) (a1_1:Int) (l1_2:List Int):Option ((List (S73)) × Bool):=(spec_TripsMay.f k l0 a1_0 a1_1 l1_2).bind fun t823=>(if t823=true then((spec_l12Copy.f k l0).bind fun t824=>((spec_l12Do.f t824 a1_0 a1_1 l1_2).bind fun t827=>(some (t827,true)))) else(some ((([]:List (S73))),false)))
theorem spec_TripsDo.mono:∀a0 a1 a2 a3 k,LeO (spec_TripsDo.f k a0 a1 a2 a3) (spec_TripsDo.f (k+1) a0 a1 a2 a3):=by
 intro a0 a1 a2 a3 k
 unfold spec_TripsDo.f
 repeat' first
   |(with_reducible exact spec_TripsMay.mono _ _ _ _ _)
   |(with_reducible exact spec_l12Copy.mono _ _)
   |(with_reducible exact LeO.refl _)
   |(with_reducible exact LeO.none _)
   |(with_reducible refine LeO.ite ?_ ?_)
   |(with_reducible refine LeO.bind ?_ (fun _=>?_))
   |exact spec_TripsMay.mono _ _ _ _ _
   |exact spec_l12Copy.mono _ _
   |exact LeO.none _
   |refine LeO.ite ?_ ?_
   |refine LeO.bind ?_ (fun _=>?_)
set_option maxHeartbeats 8000000 in
set_option maxRecDepth 100000 in
theorem spec_TripsDo.calls (k:Nat) (A0:Option Addr) (c0:Nat) (l0:List (S73)) (a1_0:Int) (a1_1:Int) (A1_2:Option Addr) (c1_2:Nat) (l1_2:List Int) (r1:List (S73)) (r2:Bool) (w:World) (hr0:Kd.C k73 w A0 l0.length l0) (hc0:l0.length≤c0) (hr1_2:Kd.C (Kd.int .i64) w A1_2 l1_2.length l1_2) (hc1_2:l1_2.length≤c1_2) (h:spec_TripsDo.f k l0 a1_0 a1_1 l1_2=some (r1,r2)) :
  Calls Try.prog 119 #[.slice A0 l0.length c0,.agg #[.int .i64 a1_0,.int .i64 a1_1,.slice A1_2 l1_2.length c1_2]] w fun e w'=>∃v0_:Value,e=.returned (.tuple #[v0_,.bool r2])∧Kd.S k73 73 w' w.heap.size (fun _=>True) v0_ r1∧Below w.heap.size w w':=by
 have hu62:=Try.underlying62
 have HR0:=Aside0.mk hr0
 have HC0:=Aside0.mk hc0
 clear hr0 hc0
 have HR1_2:=Aside0.mk hr1_2
 have HC1_2:=Aside0.mk hc1_2
 clear hr1_2 hc1_2
 have HB:=Aside0.mk (Below.refl w.heap.size w)
 have H:((spec_TripsMay.f k l0 a1_0 a1_1 l1_2).bind fun t823=>(if t823=true then((spec_l12Copy.f k l0).bind fun t824=>((spec_l12Do.f t824 a1_0 a1_1 l1_2).bind fun t827=>(some (t827,true)))) else(some ((([]:List (S73))),false))))=some (r1,r2):=h
 clear h
 replace H:=Option.bind_eq_some_iff.mp H
 obtain⟨t823,A30,H⟩:=H
 replace H:(if t823=true then((spec_l12Copy.f k l0).bind fun t824=>((spec_l12Do.f t824 a1_0 a1_1 l1_2).bind fun t827=>(some (t827,true)))) else(some ((([]:List (S73))),false)))=some (r1,r2):=H
 have A3:=Aside0.mk A30
 clear A30
 by_cases c4:t823=true
 ·subst c4
  have H1:((spec_l12Copy.f k l0).bind fun t824=>((spec_l12Do.f t824 a1_0 a1_1 l1_2).bind fun t827=>(some (t827,true))))=some (r1,r2):=by rw[if_pos rfl] at H;exact H
  clear H
  have H:=H1
  clear H1
  replace H:=Option.bind_eq_some_iff.mp H
  obtain⟨t824,A50,H⟩:=H
  replace H:((spec_l12Do.f t824 a1_0 a1_1 l1_2).bind fun t827=>(some (t827,true)))=some (r1,r2):=H
  have A5:=Aside0.mk A50
  clear A50
  replace H:=Option.bind_eq_some_iff.mp H
  obtain⟨t827,A60,H⟩:=H
  replace H:(some (t827,true))=some (r1,r2):=H
  have A6:=Aside0.mk A60
  clear A60
  simp only[Option.some.injEq,Prod.mk.injEq] at H
  obtain⟨rfl,rfl⟩:=H
  go_enter Try.func119,Try.ntmps119
  try go_wp2_with(first|((with_reducible refine qah (N:=3) rfl ?_);refine zX (N:=3) (cs:=#[.int .i64 a1_0,.int .i64 a1_1,.slice A1_2 l1_2.length c1_2]) (t:=62) ?_;intro gb822 hg w7 hbox hb;have BK822:=Aside0.mk hbox;have GW822:=zH (w:=w) hg (za1 HB);have GE822:=GW822;replace HB:=Aside0.mk (qab (za1 HB) hb);clear hb hbox hg;obtain⟨hcz8_0,hcz8_1,hcz8_2,hfz8_0,hfz8_1,hfz8_2⟩:=zC3 BK822)|((with_reducible refine qaf (f:=49) rfl ?_);refine zF (some 8) Try.func49 #[.slice A0 l0.length c0,.agg #[.int .i64 a1_0,.int .i64 a1_1,.slice A1_2 l1_2.length c1_2]] ?_;(with_reducible refine(spec_TripsMay.calls k _ _ l0 a1_0 a1_1 _ _ l1_2 true _ ?side1 ?side2 ?side3 ?side4 A3.out).mono ?_);(case side1=>exact zR HR0 HB);(case side2=>exact HC0.out);(case side3=>exact zR HR1_2 HB);(case side4=>exact HC1_2.out);rintro e w9 ⟨rfl,hb⟩;refine⟨_,rfl,?_⟩;replace BK822:=Aside0.mk (qaa (zB BK822) hb);replace HB:=Aside0.mk (qab (za0 HB GE822) hb);(try clear hb)))
  replace BK822:=Aside0.mk (blk_drew BK822.out)
  replace HB:=Aside0.mk (qae HB.out)
  refine start_ (n:=6) (S:=fun w'=>w'.cell? ⟨gb822,0,none⟩=some (.int .i64 a1_0)∧w'.cell? ⟨gb822,1,none⟩=some (.int .i64 a1_1)∧w'.cell? ⟨gb822,2,none⟩=some (.slice A1_2 l1_2.length c1_2)) (ds:=[]) #[false,false,false,false,false,false] (by kernel_rfl) rfl rfl ⟨(blk_cell BK822.out 0).trans rfl,(blk_cell BK822.out 1).trans rfl,(blk_cell BK822.out 2).trans rfl⟩ (fun hHeld=>?_)
  generalize w9.drew=w10 at BK822 HB hHeld ⊢
  refine qar (i:=0) (N:=some 11) (v:=?_) (a':=?_) #[true,false,false,false,false,false] rfl rfl (by kernel_rfl) (fun _ _ _ h=>h) (Or.inl ⟨by rfl,?_⟩) ?_ ?_
  rotate_left
  ·intro w'
   go_simp
   with_reducible rfl
  rotate_left
  ·simp only[Act.put,List.setIfInBounds_toArray,List.set_cons_zero,List.set_cons_succ,qaj,qak]
   rfl
  refine take_ (i:=2) (N:=some 13) (v:=?_) (a':=?_) #[true,false,true,false,false,false] rfl rfl (by kernel_rfl) (fun _ _ _ h=>h) (Or.inl ⟨by rfl,?_⟩) hHeld ?_ ?_
  rotate_left
  ·rintro w' ⟨s0,s1,s2⟩
   go_simp
   with_reducible rfl
  rotate_left
  ·simp only[Act.put,List.setIfInBounds_toArray,List.set_cons_zero,List.set_cons_succ,qaj,qak]
   rfl
  refine one_ (i:=1) (N:=some 12) #[true,true,true,false,false,false] rfl rfl (by kernel_rfl) (by decide) (fun K hK=>?_)
  refine goes_ Try.func129 (by kernel_rfl) rfl #[.slice A0 l0.length c0] (by rfl) rfl rfl (by(try simp only[List.map_toArray,List.map_cons,List.map_nil]);first|done|rfl|(simp only[List.length_drop,List.length_take];rfl)) ?_
  with_reducible refine(spec_l12Copy.calls k _ _ l0 t824 _ ?side1 ?side2 A5.out).mono ?_
  (case side1=>exact zR HR0 HB)
  (case side2=>exact HC0.out)
  rintro e w11 ⟨v825,rfl,ho0,hb⟩
  refine⟨_,rfl,?_⟩
  have HO826:=Aside0.mk (Kd.S_lower ho0 (below_size (za0 HB GE822)))
  replace BK822:=Aside0.mk (qaa (zB BK822) hb)
  replace HB:=Aside0.mk (qab (za0 HB GE822) hb)
  (try clear hb)
  (try clear hb2)
  (try clear hk)
  (try clear hi)
  (try clear ho0)
  obtain⟨Ao12,co12,eo12⟩:=Kd.S_slice HO826.out
  (first|subst eo12|(injection eo12 with f1_ f2_ f3_;have f4_:=f1_.symm;have f5_:=f3_.symm;clear f1_ f2_ f3_;subst f4_;subst f5_))
  refine hK.out _ _ ⟨(blk_cell BK822.out 0).trans rfl,(blk_cell BK822.out 1).trans rfl,(blk_cell BK822.out 2).trans rfl⟩ (fun hHeld=>?_)
  clear hK K
  refine norm_ (a':=?_) ?_ ?_
  rotate_left
  ·show Act.put _ (some 12) _=_
   simp only[Act.put,List.setIfInBounds_toArray,List.set_cons_zero,List.set_cons_succ,qaj,qak]
   rfl
  refine one_ (i:=3) (N:=some 14) #[true,true,true,true,false,false] rfl rfl (by kernel_rfl) (by decide) (fun K hK=>?_)
  refine goes_ Try.func120 (by kernel_rfl) rfl #[.slice Ao12 t824.length co12,.agg #[.int .i64 a1_0,.int .i64 a1_1,.slice A1_2 l1_2.length c1_2]] (by rfl) rfl rfl (by(try simp only[List.map_toArray,List.map_cons,List.map_nil]);first|done|rfl|(simp only[List.length_drop,List.length_take];rfl)) ?_
  with_reducible refine(spec_l12Do.calls ?pw (.slice Ao12 t824.length co12) t824 a1_0 a1_1 _ _ l1_2 t827 w _ ?side1 ?side2 ?side3 ?side4 A6.out).mono ?_
  (case side1=>exact(za0 HB GE822))
  (case side2=>exact Kd.S_wide HO826.out)
  (case side3=>exact Kd.C_kept_came (Kd.heap_int .i64) HR1_2.out (za0 HB GE822) (fun k_ hs_=>(fun e_=>e_.1) hs_))
  (case side4=>exact HC1_2.out)
  rintro e w13 ⟨v828,rfl,ho0,hb,hkp⟩
  refine⟨_,rfl,?_⟩
  replace BK822:=Aside0.mk (blk_kept (zB BK822) hkp (fun hs_=>(fun e_=>(WideP.not_blk (zB BK822) (by decide)) e_) hs_))
  have HO829:=Aside0.mk (Kd.S_mono (ok':=fun k_=>True) ho0 (fun k_ hk_=>trivial))
  replace HB:=Aside0.mk hb
  clear HO826
  (try clear hb)
  (try clear hkp)
  (try clear ho0)
  refine hK.out _ _ ⟨(blk_cell BK822.out 0).trans rfl,(blk_cell BK822.out 1).trans rfl,(blk_cell BK822.out 2).trans rfl⟩ (fun hHeld=>?_)
  clear hK K
  refine norm_ (a':=?_) ?_ ?_
  rotate_left
  ·show Act.put _ (some 14) _=_
   simp only[Act.put,List.setIfInBounds_toArray,List.set_cons_zero,List.set_cons_succ,qaj,qak]
   rfl
  refine qar (i:=4) (N:=some 4) (v:=?_) (a':=?_) #[true,true,true,true,true,false] rfl rfl (by kernel_rfl) (fun _ _ _ h=>h) (Or.inl ⟨by rfl,?_⟩) ?_ ?_
  rotate_left
  ·intro w'
   go_simp
   with_reducible rfl
  rotate_left
  ·simp only[Act.put,List.setIfInBounds_toArray,List.set_cons_zero,List.set_cons_succ,qaj,qak]
   rfl
  refine qar (i:=5) (N:=some 5) (v:=?_) (a':=?_) #[true,true,true,true,true,true] rfl rfl (by kernel_rfl) (fun _ _ _ h=>h) (Or.inl ⟨by rfl,?_⟩) ?_ ?_
  rotate_left
  ·intro w'
   go_simp
   with_reducible rfl
  rotate_left
  ·simp only[Act.put,List.setIfInBounds_toArray,List.set_cons_zero,List.set_cons_succ,qaj,qak]
   rfl
  refine done_ (by kernel_rfl) ?_
  try go_wp2
  go_ret2
  exact⟨_,za9,za8 HO829,za0 HB GE822⟩
 ·replace c4:=Bool.eq_false_iff.mpr c4
  subst c4
  have H1:(some ((([]:List (S73))),false))=some (r1,r2):=by rw[if_neg (show ¬(false=true) by decide)] at H;exact H
  clear H
  have H:=H1
  clear H1
  obtain⟨y830,hy830⟩:∃y_:List (S73),y_=(([]:List (S73))):=⟨_,rfl⟩
  replace H:(some (y830,false))=some (r1,r2):=by first|(rw[hy830];with_reducible exact H)|(have H2_:=(Option.bind_some _ _).symm.trans H;rw[hy830];with_reducible exact H2_)|(have H2_:=(Option.bind_some _ _).symm.trans H;with_reducible exact H2_)|with_reducible exact H|(rw[hy830];exact H)|exact H
  have Ny830:=Aside0.mk hy830
  clear hy830
  simp only[Option.some.injEq,Prod.mk.injEq] at H
  obtain⟨rfl,rfl⟩:=H
  go_enter Try.func119,Try.ntmps119
  go_wp2_with(first|((with_reducible refine qah (N:=3) rfl ?_);refine zX (N:=3) (cs:=#[.int .i64 a1_0,.int .i64 a1_1,.slice A1_2 l1_2.length c1_2]) (t:=62) ?_;intro gb822 hg w14 hbox hb;have BK822:=Aside0.mk hbox;have GW822:=zH (w:=w) hg (za1 HB);have GE822:=GW822;replace HB:=Aside0.mk (qab (za1 HB) hb);clear hb hbox hg;obtain⟨hcz15_0,hcz15_1,hcz15_2,hfz15_0,hfz15_1,hfz15_2⟩:=zC3 BK822)|((with_reducible refine qaf (f:=49) rfl ?_);refine zF (some 8) Try.func49 #[.slice A0 l0.length c0,.agg #[.int .i64 a1_0,.int .i64 a1_1,.slice A1_2 l1_2.length c1_2]] ?_;(with_reducible refine(spec_TripsMay.calls k _ _ l0 a1_0 a1_1 _ _ l1_2 false _ ?side1 ?side2 ?side3 ?side4 A3.out).mono ?_);(case side1=>exact zR HR0 HB);(case side2=>exact HC0.out);(case side3=>exact zR HR1_2 HB);(case side4=>exact HC1_2.out);rintro e w16 ⟨rfl,hb⟩;refine⟨_,rfl,?_⟩;replace BK822:=Aside0.mk (qaa (zB BK822) hb);replace HB:=Aside0.mk (qab (za0 HB GE822) hb);(try clear hb))|((with_reducible refine qah (N:=10) rfl ?_);refine Kd.S_lit k73 _ 73 (by rfl) (N:=10) (by rfl) (xs:=([]:List (S73))) (inner:=[]) (ok:=fun _=>True) (okp:=fun _=>True) (by first|(go_simp;done)|(go_simp;rfl)) (Reps.none _ _) (fun _ hk=>hk) trivial (Below.refl _ _) (Nat.le_refl _) (by simp) ?_;intro v831 w17 ho18 hb hg_ hnew_;clear hg_ hnew_;(first|rw[←Ny830.out] at ho18|(simp only[Int.reduceToNat] at ho18;rw[←Ny830.out] at ho18));have HO832:=Aside0.mk (Kd.S_lower ho18 (below_size (za0 HB GE822)));replace BK822:=Aside0.mk (qaa (zB BK822) hb);replace HB:=Aside0.mk (qab (za0 HB GE822) hb);clear hb ho18))
  go_ret2
  exact⟨_,za9,za8 HO832,za0 HB GE822⟩
end Go.Proofs.Ytjccnaklodbbfaa.Print
