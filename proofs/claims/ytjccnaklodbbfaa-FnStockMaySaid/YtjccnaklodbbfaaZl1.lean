-- Written by squeeze.py: not trusted, Lean checks it.
import Derived.Test.YtjccnaklodbbfaaZK
import Derived.Test.YtjccnaklodbbfaaZl0
import Derived.Test.YtjccnaklodbbfaaZm0
namespace Go.Proofs.Ytjccnaklodbbfaa.Print
open Go.RowKit Go.Proofs.YtjccnaklodbbfaaW.PrintWords Go.Proofs.YtjccnaklodbbfaaW.PrintLast Go.Proofs.YtjccnaklodbbfaaW.PrintMore
attribute [local go_sem] max2_int min2_int max_two min_two max_three min_three max_four min_four
set_option linter.unusedVariables false
set_option linter.unusedSimpArgs false
def spec_l2May.f (k:Nat) (a0_0:Int) (l0_1:List (S46)) (a1_0:Int) (a1_1:Int) (l1_2:List Int):Option (Bool):=if 0≤(wrap64 (a1_1 - 1)) then(if(wrap64 (a1_1 - 1))<(l0_1.length:Int) then(if a1_0=1 then(if((rd_T46 l0_1 (wrap64 (a1_1 - 1))).f1)=0 then(if 0<(l1_2.length:Int) then((spec_l2Free.f k a0_0 l0_1).bind fun t293=>(some (decide ((rd l1_2 0)≤t293)))) else(none)) else(some false)) else(if a1_0=2 then(some (((rd_T46 l0_1 (wrap64 (a1_1 - 1))).f1) == 1)) else(if a1_0=3 then(if((rd_T46 l0_1 (wrap64 (a1_1 - 1))).f1)=1 then(some true) else(some (((rd_T46 l0_1 (wrap64 (a1_1 - 1))).f1) == 0))) else(some false)))) else(none)) else(none)
theorem spec_l2May.mono:∀a0 a1 a2 a3 a4 k,LeO (spec_l2May.f k a0 a1 a2 a3 a4) (spec_l2May.f (k+1) a0 a1 a2 a3 a4):=by
 intro a0 a1 a2 a3 a4 k
 unfold spec_l2May.f
 repeat' first
   |(with_reducible exact spec_l2Free.mono _ _ _)
   |(with_reducible exact LeO.refl _)
   |(with_reducible exact LeO.none _)
   |(with_reducible refine LeO.ite ?_ ?_)
   |(with_reducible refine LeO.bind ?_ (fun _=>?_))
   |exact spec_l2Free.mono _ _ _
   |exact LeO.none _
   |refine LeO.ite ?_ ?_
   |refine LeO.bind ?_ (fun _=>?_)
def spec_l2May.T4:Bool × List (List Nat × List Nat):=(true,[([],[]),([0],[0]),([1],[1]),([2],[2]),([3,2],[2,3]),([4,2],[2,4]),([5,2],[2,5]),([2],[2]),([7,2,2],[2,7]),([6,8,2],[2,6,8]),([2,9],[2,9]),([10,8,0,1,2,3,4,5,6,7,8,9,10],[10])])
def spec_l2May.B4:List Nat:=[0,1,3,7,15,31,63,7,135,511,1023,2047]
theorem spec_l2May.tab4:rtab .any (opsOf Try.f79 4)=spec_l2May.T4:=by kernel_rfl
theorem spec_l2May.bits4:waitsOk spec_l2May.T4.2 spec_l2May.B4=true:=by kernel_rfl
set_option maxHeartbeats 8000000 in
set_option maxRecDepth 100000 in
theorem spec_l2May.calls (k:Nat) (a0_0:Int) (A0_1:Option Addr) (c0_1:Nat) (l0_1:List (S46)) (a1_0:Int) (a1_1:Int) (A1_2:Option Addr) (c1_2:Nat) (l1_2:List Int) (r:Bool) (w:World) (hr0_1:Kd.C k46 w A0_1 l0_1.length l0_1) (hc0_1:l0_1.length≤c0_1) (hr1_2:Kd.C (Kd.int .i64) w A1_2 l1_2.length l1_2) (hc1_2:l1_2.length≤c1_2) (h:spec_l2May.f k a0_0 l0_1 a1_0 a1_1 l1_2=some r) :
  Calls Try.prog 79 #[.agg #[.int .i64 a0_0,.slice A0_1 l0_1.length c0_1],.agg #[.int .i64 a1_0,.int .i64 a1_1,.slice A1_2 l1_2.length c1_2]] w fun e w'=>e=.returned (.bool r)∧Below w.heap.size w w':=by
 have hu36:=Try.underlying36
 have hu62:=Try.underlying62
 have HR0_1:=Aside0.mk hr0_1
 have HC0_1:=Aside0.mk hc0_1
 clear hr0_1 hc0_1
 have HR1_2:=Aside0.mk hr1_2
 have HC1_2:=Aside0.mk hc1_2
 clear hr1_2 hc1_2
 have HB:=Aside0.mk (Below.refl w.heap.size w)
 have H:(if 0≤(wrap64 (a1_1 - 1)) then(if(wrap64 (a1_1 - 1))<(l0_1.length:Int) then(if a1_0=1 then(if((rd_T46 l0_1 (wrap64 (a1_1 - 1))).f1)=0 then(if 0<(l1_2.length:Int) then((spec_l2Free.f k a0_0 l0_1).bind fun t293=>(some (decide ((rd l1_2 0)≤t293)))) else(none)) else(some false)) else(if a1_0=2 then(some (((rd_T46 l0_1 (wrap64 (a1_1 - 1))).f1) == 1)) else(if a1_0=3 then(if((rd_T46 l0_1 (wrap64 (a1_1 - 1))).f1)=1 then(some true) else(some (((rd_T46 l0_1 (wrap64 (a1_1 - 1))).f1) == 0))) else(some false)))) else(none)) else(none))=some r:=h
 clear h
 obtain⟨ji3,hji3⟩:∃j_:Int,(wrap64 (a1_1 - 1))=j_:=⟨_,rfl⟩
 replace H:(if 0≤(ji3) then(if(ji3)<(l0_1.length:Int) then(if a1_0=1 then(if((rd_T46 l0_1 (ji3)).f1)=0 then(if 0<(l1_2.length:Int) then((spec_l2Free.f k a0_0 l0_1).bind fun t293=>(some (decide ((rd l1_2 0)≤t293)))) else(none)) else(some false)) else(if a1_0=2 then(some (((rd_T46 l0_1 (ji3)).f1) == 1)) else(if a1_0=3 then(if((rd_T46 l0_1 (ji3)).f1)=1 then(some true) else(some (((rd_T46 l0_1 (ji3)).f1) == 0))) else(some false)))) else(none)) else(none))=some r:=by first|(rw[hji3] at H;exact H)|(simp only[hji3] at H ⊢;exact H)
 have hji3w:(IntKind.i64.wrap (a1_1 - 1))=ji3:=(qaj _).trans hji3
 by_cases c4:0≤(ji3)
 ·rw[if_pos c4] at H
  have c4b0:decide (0≤(ji3))=true:=decide_eq_true c4
  clear c4
  by_cases c5:(ji3)<(l0_1.length:Int)
  ·rw[if_pos c5] at H
   have c5b0:decide ((ji3)<(l0_1.length:Int))=true:=decide_eq_true c5
   clear c5
   by_cases c6:a1_0=1
   ·rw[if_pos c6] at H
    have c6b0:(a1_0 == 1)=true:=beq_iff_eq.mpr c6
    have c6b1:(a1_0 != 1)=false:=bne_eq_false_iff_eq.mpr c6
    clear c6
    by_cases c7:((rd_T46 l0_1 (ji3)).f1)=0
    ·rw[if_pos c7] at H
     have c7b0:(((rd_T46 l0_1 (ji3)).f1) == 0)=true:=beq_iff_eq.mpr c7
     have c7b1:(((rd_T46 l0_1 (ji3)).f1) != 0)=false:=bne_eq_false_iff_eq.mpr c7
     clear c7
     by_cases c8:0<(l1_2.length:Int)
     ·rw[if_pos c8] at H
      have c8b0:decide (0<(l1_2.length:Int))=true:=decide_eq_true c8
      have c8b1:decide (0<l1_2.length)=true:=decide_eq_true (by omega)
      clear c8
      replace H:=Option.bind_eq_some_iff.mp H
      obtain⟨t293,A90,H⟩:=H
      replace H:(some (decide ((rd l1_2 0)≤t293)))=some r:=H
      have A9:=Aside0.mk A90
      clear A90
      obtain rfl:=Option.some.inj H
      go_enter Try.func79,Try.ntmps79
      try go_wp2_with(first|((with_reducible refine qah (N:=2) rfl ?_);refine zX (N:=2) (cs:=#[.int .i64 a0_0,.slice A0_1 l0_1.length c0_1]) (t:=36) ?_;intro gb289 hg w10 hbox hb;have BK289:=Aside0.mk hbox;have GW289:=zH (w:=w) hg (za1 HB);have GE289:=GW289;replace HB:=Aside0.mk (qab (za1 HB) hb);clear hb hbox hg)|((with_reducible refine qah (N:=3) rfl ?_);refine zX (N:=3) (cs:=#[.int .i64 a1_0,.int .i64 a1_1,.slice A1_2 l1_2.length c1_2]) (t:=62) ?_;intro gb290 hg w11 hbox hb;have BK290:=Aside0.mk hbox;have GW290:=zH (w:=w) hg (za0 HB GE289);have GE290:=GW290;replace HB:=Aside0.mk (qab (za0 HB GE289) hb);have NB289_290:=zL BK289 hg;have NB290_289:=zG BK289 hg;replace BK289:=Aside0.mk (qaa (zB BK289) hb);clear hb hbox hg;have hnb12:=NB289_290.out;have hnc12:=NB290_289.out;obtain⟨hcz13_0,hcz13_1,hfz13_0,hfz13_1⟩:=zC2 BK289;obtain⟨hcz14_0,hcz14_1,hcz14_2,hfz14_0,hfz14_1,hfz14_2⟩:=zC3 BK290;have p291:0≤((ji3):Int):=of_decide_eq_true (za5);have q291:(ji3)<(l0_1.length:Int):=of_decide_eq_true (za5);obtain⟨ad291,e291,hx291_0,hx291_1⟩:=at_T46 HR0_1.out (ji3) p291 q291;cases e291;replace hx291_0:=(HB.out.cell (World.block_lt_of_cell? w _ hx291_0)).trans hx291_0;replace hx291_1:=(HB.out.cell (World.block_lt_of_cell? w _ hx291_1)).trans hx291_1;replace p291:=eq_true p291;replace q291:=eq_true q291))
      replace BK289:=Aside0.mk (blk_drew BK289.out)
      replace BK290:=Aside0.mk (blk_drew BK290.out)
      replace HB:=Aside0.mk (qae HB.out)
      have p292:0≤(0:Int):=(by omega)
      have q292:0<(l1_2.length:Int):=of_decide_eq_true (za5)
      obtain⟨ad292,e292,hx292_0⟩:=Kd.at_int HR1_2.out 0 p292 q292
      have hw292_0:=hx292_0
      (try rw[show((0:Int)).toNat=0 from rfl] at hw292_0)
      (try rw[show 0*1=0 from rfl] at hw292_0)
      (try rw[Addr.add_zero'] at hw292_0)
      cases e292
      have qi292:(0<l1_2.length)=True:=eq_true (by omega)
      (try rw[show((0:Int)).toNat=0 from rfl] at hx292_0)
      (try rw[Addr.add_zero'] at hx292_0)
      replace hx292_0:=(HB.out.cell (World.block_lt_of_cell? w _ hx292_0)).trans hx292_0
      replace p292:=eq_true p292
      replace q292:=eq_true q292
      refine start_ (n:=12) (S:=fun w'=>w'.cell? ⟨gb290,0,none⟩=some (.int .i64 a1_0)∧w'.cell? ⟨gb290,1,none⟩=some (.int .i64 a1_1)∧w'.cell? ⟨gb290,2,none⟩=some (.slice (some ad292) l1_2.length c1_2)∧w'.cell? ⟨gb289,0,none⟩=some (.int .i64 a0_0)∧w'.cell? ⟨gb289,1,none⟩=some (.slice (some ad291) l0_1.length c0_1)∧w'.cell? ad292=some (.int .i64 (rd l1_2 0))) (ds:=[]) #[false,false,false,false,false,false,false,false,false,false,false,false] (by kernel_rfl) rfl rfl ⟨(blk_cell BK290.out 0).trans rfl,(blk_cell BK290.out 1).trans rfl,(blk_cell BK290.out 2).trans rfl,(blk_cell BK289.out 0).trans rfl,(blk_cell BK289.out 1).trans rfl,((HB.out.cell (World.block_lt_of_cell? w _ hw292_0)).trans hw292_0)⟩ (fun hHeld=>?_);refine with_tabW spec_l2May.tab4 spec_l2May.bits4 (fun HT_ HW_=>?_)
      generalize w11.drew=w15 at BK289 BK290 HB hx292_0 hHeld ⊢
      refine qar (i:=0) (N:=some 18) (v:=?_) (a':=?_) #[true,false,false,false,false,false,false,false,false,false,false,false] rfl rfl (qan HT_.out (by kernel_rfl)) (fun _ _ _ h=>h) (Or.inl ⟨by rfl,?_⟩) ?_ ?_
      rotate_left
      ·intro w'
       go_simp
       with_reducible rfl
      rotate_left
      ·simp only[Act.put,List.setIfInBounds_toArray,List.set_cons_zero,List.set_cons_succ,qaj,qak]
       rfl
      refine qar (i:=1) (N:=some 19) (v:=?_) (a':=?_) #[true,true,false,false,false,false,false,false,false,false,false,false] rfl rfl (qan HT_.out (by kernel_rfl)) (fun _ _ _ h=>h) (Or.inl ⟨by rfl,?_⟩) ?_ ?_
      rotate_left
      ·intro w'
       go_simp
       with_reducible rfl
      rotate_left
      ·simp only[Act.put,List.setIfInBounds_toArray,List.set_cons_zero,List.set_cons_succ,qaj,qak]
       rfl
      refine qar (i:=2) (N:=some 20) (v:=?_) (a':=?_) #[true,true,true,false,false,false,false,false,false,false,false,false] rfl rfl (qan HT_.out (by kernel_rfl)) (fun _ _ _ h=>h) (Or.inl ⟨by rfl,?_⟩) ?_ ?_
      rotate_left
      ·intro w'
       go_simp
       with_reducible rfl
      rotate_left
      ·simp only[Act.put,List.setIfInBounds_toArray,List.set_cons_zero,List.set_cons_succ,qaj,qak]
       rfl
      refine qar (i:=3) (N:=some 21) (v:=?_) (a':=?_) #[true,true,true,true,false,false,false,false,false,false,false,false] rfl rfl (qan HT_.out (by kernel_rfl)) (fun _ _ _ h=>h) (Or.inl ⟨by rfl,?_⟩) ?_ ?_
      rotate_left
      ·intro w'
       go_simp
       with_reducible rfl
      rotate_left
      ·simp only[Act.put,List.setIfInBounds_toArray,List.set_cons_zero,List.set_cons_succ,qaj,qak]
       rfl
      refine take_ (i:=4) (N:=some 22) (v:=?_) (a':=?_) #[true,true,true,true,true,false,false,false,false,false,false,false] rfl rfl (take_ofW HT_.out HW_.out (by kernel_rfl)) (fun _ _ _ h=>h) (Or.inl ⟨by rfl,?_⟩) hHeld ?_ ?_
      rotate_left
      ·rintro w' ⟨s0,s1,s2,s3,s4,s5⟩
       go_simp
       with_reducible rfl
      rotate_left
      ·simp only[Act.put,List.setIfInBounds_toArray,List.set_cons_zero,List.set_cons_succ,qaj,qak]
       rfl
      refine qar (i:=5) (N:=some 23) (v:=?_) (a':=?_) #[true,true,true,true,true,true,false,false,false,false,false,false] rfl rfl (qan HT_.out (by kernel_rfl)) (fun _ _ _ h=>h) (Or.inl ⟨by rfl,?_⟩) ?_ ?_
      rotate_left
      ·intro w'
       go_simp
       with_reducible rfl
      rotate_left
      ·simp only[Act.put,List.setIfInBounds_toArray,List.set_cons_zero,List.set_cons_succ,qaj,qak]
       rfl
      refine take_ (i:=6) (N:=some 24) (v:=?_) (a':=?_) #[true,true,true,true,true,true,true,false,false,false,false,false] rfl rfl (take_ofW HT_.out HW_.out (by kernel_rfl)) (fun _ _ _ h=>h) (Or.inl ⟨by rfl,?_⟩) hHeld ?_ ?_
      rotate_left
      ·rintro w' ⟨s0,s1,s2,s3,s4,s5⟩
       go_simp
       with_reducible rfl
      rotate_left
      ·simp only[Act.put,List.setIfInBounds_toArray,List.set_cons_zero,List.set_cons_succ,qaj,qak]
       rfl
      refine take_ (i:=7) (N:=some 25) (v:=?_) (a':=?_) #[true,true,true,true,true,true,true,true,false,false,false,false] rfl rfl (take_ofW HT_.out HW_.out (by kernel_rfl)) (fun _ _ _ h=>h) (Or.inl ⟨by rfl,?_⟩) hHeld ?_ ?_
      rotate_left
      ·rintro w' ⟨s0,s1,s2,s3,s4,s5⟩
       go_simp
       with_reducible rfl
      rotate_left
      ·simp only[Act.put,List.setIfInBounds_toArray,List.set_cons_zero,List.set_cons_succ,qaj,qak]
       rfl
      refine one_ (i:=8) (N:=some 26) #[true,true,true,true,true,true,true,true,true,false,false,false] rfl rfl (one_of HT_.out (by kernel_rfl)) (by decide) (fun K hK=>?_)
      refine goes_ Try.func73 (by kernel_rfl) rfl #[.agg #[.int .i64 a0_0,.slice (some ad291) l0_1.length c0_1]] (by rfl) rfl rfl (by(try simp only[List.map_toArray,List.map_cons,List.map_nil]);first|done|rfl|(simp only[List.length_drop,List.length_take];rfl)) ?_
      with_reducible refine(spec_l2Free.calls k a0_0 _ _ l0_1 t293 _ ?side1 ?side2 A9.out).mono ?_
      (case side1=>exact zR HR0_1 HB)
      (case side2=>exact HC0_1.out)
      rintro e w16 ⟨rfl,hb⟩
      refine⟨_,rfl,?_⟩
      replace BK289:=Aside0.mk (qaa (zB BK289) hb)
      replace BK290:=Aside0.mk (qaa (zB BK290) hb)
      replace HB:=Aside0.mk (qab (za2 HB GE289 GE290) hb)
      (try clear hb)
      (try clear hb2)
      (try clear hk)
      (try clear hi)
      refine hK.out _ _ ⟨(blk_cell BK290.out 0).trans rfl,(blk_cell BK290.out 1).trans rfl,(blk_cell BK290.out 2).trans rfl,(blk_cell BK289.out 0).trans rfl,(blk_cell BK289.out 1).trans rfl,((HB.out.cell (World.block_lt_of_cell? w _ hw292_0)).trans hw292_0)⟩ (fun hHeld=>?_)
      clear hK K
      refine norm_ (a':=?_) ?_ ?_
      rotate_left
      ·show Act.put _ (some 26) _=_
       simp only[Act.put,List.setIfInBounds_toArray,List.set_cons_zero,List.set_cons_succ,qaj,qak]
       rfl
      refine qar (i:=9) (N:=some 27) (v:=?_) (a':=?_) #[true,true,true,true,true,true,true,true,true,true,false,false] rfl rfl (qan HT_.out (by kernel_rfl)) (fun _ _ _ h=>h) (Or.inl ⟨by rfl,?_⟩) ?_ ?_
      rotate_left
      ·intro w'
       go_simp
       with_reducible rfl
      rotate_left
      ·simp only[Act.put,List.setIfInBounds_toArray,List.set_cons_zero,List.set_cons_succ,qaj,qak]
       rfl
      refine qar (i:=10) (N:=some 28) (v:=?_) (a':=?_) #[true,true,true,true,true,true,true,true,true,true,true,false] rfl rfl (qan HT_.out (by kernel_rfl)) (fun _ _ _ h=>h) (Or.inl ⟨by rfl,?_⟩) ?_ ?_
      rotate_left
      ·intro w'
       go_simp
       with_reducible rfl
      rotate_left
      ·simp only[Act.put,List.setIfInBounds_toArray,List.set_cons_zero,List.set_cons_succ,qaj,qak]
       rfl
      refine qar (i:=11) (N:=some 4) (v:=?_) (a':=?_) #[true,true,true,true,true,true,true,true,true,true,true,true] rfl rfl (qan HT_.out (by kernel_rfl)) (fun _ _ _ h=>h) (Or.inl ⟨by rfl,?_⟩) ?_ ?_
      rotate_left
      ·intro w'
       go_simp
       with_reducible rfl
      rotate_left
      ·simp only[Act.put,List.setIfInBounds_toArray,List.set_cons_zero,List.set_cons_succ,qaj,qak]
       rfl
      refine done_ (done_of HT_.out (by kernel_rfl)) ?_
      try go_wp2
      go_ret
      exact⟨by first|rfl|(simp[qam,qal]<;>rfl)|(simp only[←hji3];first|rfl|(simp[qam,qal]<;>rfl))|(simp[*,qam,qal]<;>rfl),za2 HB GE289 GE290⟩
     ·rw[if_neg c8] at H
      exact absurd H (by simp)
    ·rw[if_neg c7] at H
     have c7b0:(((rd_T46 l0_1 (ji3)).f1) == 0)=false:=beq_eq_false_iff_ne.mpr c7
     have c7b1:(((rd_T46 l0_1 (ji3)).f1) != 0)=true:=bne_iff_ne.mpr c7
     obtain rfl:=Option.some.inj H
     go_enter Try.func79,Try.ntmps79
     try go_wp2_with(first|((with_reducible refine qah (N:=2) rfl ?_);refine zX (N:=2) (cs:=#[.int .i64 a0_0,.slice A0_1 l0_1.length c0_1]) (t:=36) ?_;intro gb289 hg w17 hbox hb;have BK289:=Aside0.mk hbox;have GW289:=zH (w:=w) hg (za1 HB);have GE289:=GW289;replace HB:=Aside0.mk (qab (za1 HB) hb);clear hb hbox hg)|((with_reducible refine qah (N:=3) rfl ?_);refine zX (N:=3) (cs:=#[.int .i64 a1_0,.int .i64 a1_1,.slice A1_2 l1_2.length c1_2]) (t:=62) ?_;intro gb290 hg w18 hbox hb;have BK290:=Aside0.mk hbox;have GW290:=zH (w:=w) hg (za0 HB GE289);have GE290:=GW290;replace HB:=Aside0.mk (qab (za0 HB GE289) hb);have NB289_290:=zL BK289 hg;have NB290_289:=zG BK289 hg;replace BK289:=Aside0.mk (qaa (zB BK289) hb);clear hb hbox hg;have hnb19:=NB289_290.out;have hnc19:=NB290_289.out;obtain⟨hcz20_0,hcz20_1,hfz20_0,hfz20_1⟩:=zC2 BK289;obtain⟨hcz21_0,hcz21_1,hcz21_2,hfz21_0,hfz21_1,hfz21_2⟩:=zC3 BK290;have p291:0≤((ji3):Int):=of_decide_eq_true (za5);have q291:(ji3)<(l0_1.length:Int):=of_decide_eq_true (za5);obtain⟨ad291,e291,hx291_0,hx291_1⟩:=at_T46 HR0_1.out (ji3) p291 q291;cases e291;replace hx291_0:=(HB.out.cell (World.block_lt_of_cell? w _ hx291_0)).trans hx291_0;replace hx291_1:=(HB.out.cell (World.block_lt_of_cell? w _ hx291_1)).trans hx291_1;replace p291:=eq_true p291;replace q291:=eq_true q291))
     replace BK289:=Aside0.mk (blk_drew BK289.out)
     replace BK290:=Aside0.mk (blk_drew BK290.out)
     replace HB:=Aside0.mk (qae HB.out)
     refine start_ (n:=12) (S:=fun w'=>True) (ds:=[]) #[false,false,false,false,false,false,false,false,false,false,false,false] (by kernel_rfl) rfl rfl trivial (fun hHeld=>?_);refine with_tabW spec_l2May.tab4 spec_l2May.bits4 (fun HT_ HW_=>?_)
     generalize w18.drew=w22 at BK289 BK290 HB hHeld ⊢
     refine qar (i:=0) (N:=some 18) (v:=?_) (a':=?_) #[true,false,false,false,false,false,false,false,false,false,false,false] rfl rfl (qan HT_.out (by kernel_rfl)) (fun _ _ _ h=>h) (Or.inl ⟨by rfl,?_⟩) ?_ ?_
     rotate_left
     ·intro w'
      go_simp
      with_reducible rfl
     rotate_left
     ·simp only[Act.put,List.setIfInBounds_toArray,List.set_cons_zero,List.set_cons_succ,qaj,qak]
      rfl
     refine qar (i:=1) (N:=some 19) (v:=?_) (a':=?_) #[true,true,false,false,false,false,false,false,false,false,false,false] rfl rfl (qan HT_.out (by kernel_rfl)) (fun _ _ _ h=>h) (Or.inl ⟨by rfl,?_⟩) ?_ ?_
     rotate_left
     ·intro w'
      go_simp
      with_reducible rfl
     rotate_left
     ·simp only[Act.put,List.setIfInBounds_toArray,List.set_cons_zero,List.set_cons_succ,qaj,qak]
      rfl
     refine qar (i:=2) (N:=some 20) (v:=?_) (a':=?_) #[true,true,true,false,false,false,false,false,false,false,false,false] rfl rfl (qan HT_.out (by kernel_rfl)) (fun _ _ _ h=>h) (Or.inl ⟨by rfl,?_⟩) ?_ ?_
     rotate_left
     ·intro w'
      go_simp
      with_reducible rfl
     rotate_left
     ·simp only[Act.put,List.setIfInBounds_toArray,List.set_cons_zero,List.set_cons_succ,qaj,qak]
      rfl
     refine qar (i:=3) (N:=some 21) (v:=undef) (a':=?_) #[true,true,true,true,false,false,false,false,false,false,false,false] rfl rfl (qan HT_.out (by kernel_rfl)) (fun _ _ _ h=>h) (Or.inr ⟨by rfl,rfl⟩) ?_ ?_
     rotate_left
     ·simp only[Act.put,List.setIfInBounds_toArray,List.set_cons_zero,List.set_cons_succ,qaj,qak]
      rfl
     refine qar (i:=4) (N:=some 22) (v:=undef) (a':=?_) #[true,true,true,true,true,false,false,false,false,false,false,false] rfl rfl (qan HT_.out (by kernel_rfl)) (fun _ _ _ h=>h) (Or.inr ⟨by rfl,rfl⟩) ?_ ?_
     rotate_left
     ·simp only[Act.put,List.setIfInBounds_toArray,List.set_cons_zero,List.set_cons_succ,qaj,qak]
      rfl
     refine qar (i:=5) (N:=some 23) (v:=undef) (a':=?_) #[true,true,true,true,true,true,false,false,false,false,false,false] rfl rfl (qan HT_.out (by kernel_rfl)) (fun _ _ _ h=>h) (Or.inr ⟨by rfl,rfl⟩) ?_ ?_
     rotate_left
     ·simp only[Act.put,List.setIfInBounds_toArray,List.set_cons_zero,List.set_cons_succ,qaj,qak]
      rfl
     refine qar (i:=6) (N:=some 24) (v:=undef) (a':=?_) #[true,true,true,true,true,true,true,false,false,false,false,false] rfl rfl (qan HT_.out (by kernel_rfl)) (fun _ _ _ h=>h) (Or.inr ⟨by rfl,rfl⟩) ?_ ?_
     rotate_left
     ·simp only[Act.put,List.setIfInBounds_toArray,List.set_cons_zero,List.set_cons_succ,qaj,qak]
      rfl
     refine qar (i:=7) (N:=some 25) (v:=undef) (a':=?_) #[true,true,true,true,true,true,true,true,false,false,false,false] rfl rfl (qan HT_.out (by kernel_rfl)) (fun _ _ _ h=>h) (Or.inr ⟨by rfl,rfl⟩) ?_ ?_
     rotate_left
     ·simp only[Act.put,List.setIfInBounds_toArray,List.set_cons_zero,List.set_cons_succ,qaj,qak]
      rfl
     refine qar (i:=8) (N:=some 26) (v:=undef) (a':=?_) #[true,true,true,true,true,true,true,true,true,false,false,false] rfl rfl (qan HT_.out (by kernel_rfl)) (fun _ _ _ h=>h) (Or.inr ⟨by rfl,rfl⟩) ?_ ?_
     rotate_left
     ·simp only[Act.put,List.setIfInBounds_toArray,List.set_cons_zero,List.set_cons_succ,qaj,qak]
      rfl
     refine qar (i:=9) (N:=some 27) (v:=undef) (a':=?_) #[true,true,true,true,true,true,true,true,true,true,false,false] rfl rfl (qan HT_.out (by kernel_rfl)) (fun _ _ _ h=>h) (Or.inr ⟨by rfl,rfl⟩) ?_ ?_
     rotate_left
     ·simp only[Act.put,List.setIfInBounds_toArray,List.set_cons_zero,List.set_cons_succ,qaj,qak]
      rfl
     refine qar (i:=10) (N:=some 28) (v:=?_) (a':=?_) #[true,true,true,true,true,true,true,true,true,true,true,false] rfl rfl (qan HT_.out (by kernel_rfl)) (fun _ _ _ h=>h) (Or.inl ⟨by rfl,?_⟩) ?_ ?_
     rotate_left
     ·intro w'
      go_simp
      with_reducible rfl
     rotate_left
     ·simp only[Act.put,List.setIfInBounds_toArray,List.set_cons_zero,List.set_cons_succ,qaj,qak]
      rfl
     refine qar (i:=11) (N:=some 4) (v:=?_) (a':=?_) #[true,true,true,true,true,true,true,true,true,true,true,true] rfl rfl (qan HT_.out (by kernel_rfl)) (fun _ _ _ h=>h) (Or.inl ⟨by rfl,?_⟩) ?_ ?_
     rotate_left
     ·intro w'
      go_simp
      with_reducible rfl
     rotate_left
     ·simp only[Act.put,List.setIfInBounds_toArray,List.set_cons_zero,List.set_cons_succ,qaj,qak]
      rfl
     refine done_ (done_of HT_.out (by kernel_rfl)) ?_
     try go_wp2
     go_ret
     exact⟨by first|rfl|(simp[qam,qal]<;>rfl)|(simp only[←hji3];first|rfl|(simp[qam,qal]<;>rfl))|(simp[*,qam,qal]<;>rfl),za2 HB GE289 GE290⟩
   ·rw[if_neg c6] at H
    have c6b0:(a1_0 == 1)=false:=beq_eq_false_iff_ne.mpr c6
    have c6b1:(a1_0 != 1)=true:=bne_iff_ne.mpr c6
    by_cases c23:a1_0=2
    ·rw[if_pos c23] at H
     have c23b0:(a1_0 == 2)=true:=beq_iff_eq.mpr c23
     have c23b1:(a1_0 != 2)=false:=bne_eq_false_iff_eq.mpr c23
     clear c23
     obtain rfl:=Option.some.inj H
     go_enter Try.func79,Try.ntmps79
     go_wp2_with(first|((with_reducible refine qah (N:=2) rfl ?_);refine zX (N:=2) (cs:=#[.int .i64 a0_0,.slice A0_1 l0_1.length c0_1]) (t:=36) ?_;intro gb289 hg w24 hbox hb;have BK289:=Aside0.mk hbox;have GW289:=zH (w:=w) hg (za1 HB);have GE289:=GW289;replace HB:=Aside0.mk (qab (za1 HB) hb);clear hb hbox hg)|((with_reducible refine qah (N:=3) rfl ?_);refine zX (N:=3) (cs:=#[.int .i64 a1_0,.int .i64 a1_1,.slice A1_2 l1_2.length c1_2]) (t:=62) ?_;intro gb290 hg w25 hbox hb;have BK290:=Aside0.mk hbox;have GW290:=zH (w:=w) hg (za0 HB GE289);have GE290:=GW290;replace HB:=Aside0.mk (qab (za0 HB GE289) hb);have NB289_290:=zL BK289 hg;have NB290_289:=zG BK289 hg;replace BK289:=Aside0.mk (qaa (zB BK289) hb);clear hb hbox hg;have hnb26:=NB289_290.out;have hnc26:=NB290_289.out;obtain⟨hcz27_0,hcz27_1,hfz27_0,hfz27_1⟩:=zC2 BK289;obtain⟨hcz28_0,hcz28_1,hcz28_2,hfz28_0,hfz28_1,hfz28_2⟩:=zC3 BK290;have p291:0≤((ji3):Int):=of_decide_eq_true (za5);have q291:(ji3)<(l0_1.length:Int):=of_decide_eq_true (za5);obtain⟨ad291,e291,hx291_0,hx291_1⟩:=at_T46 HR0_1.out (ji3) p291 q291;cases e291;replace hx291_0:=(HB.out.cell (World.block_lt_of_cell? w _ hx291_0)).trans hx291_0;replace hx291_1:=(HB.out.cell (World.block_lt_of_cell? w _ hx291_1)).trans hx291_1;replace p291:=eq_true p291;replace q291:=eq_true q291))
     go_ret
     exact⟨by first|rfl|(simp[qam,qal]<;>rfl)|(simp only[←hji3];first|rfl|(simp[qam,qal]<;>rfl))|(simp[*,qam,qal]<;>rfl),za2 HB GE289 GE290⟩
    ·rw[if_neg c23] at H
     have c23b0:(a1_0 == 2)=false:=beq_eq_false_iff_ne.mpr c23
     have c23b1:(a1_0 != 2)=true:=bne_iff_ne.mpr c23
     by_cases c29:a1_0=3
     ·rw[if_pos c29] at H
      have c29b0:(a1_0 == 3)=true:=beq_iff_eq.mpr c29
      have c29b1:(a1_0 != 3)=false:=bne_eq_false_iff_eq.mpr c29
      clear c29
      by_cases c30:((rd_T46 l0_1 (ji3)).f1)=1
      ·rw[if_pos c30] at H
       have c30b0:(((rd_T46 l0_1 (ji3)).f1) == 1)=true:=beq_iff_eq.mpr c30
       have c30b1:(((rd_T46 l0_1 (ji3)).f1) != 1)=false:=bne_eq_false_iff_eq.mpr c30
       clear c30
       obtain rfl:=Option.some.inj H
       go_enter Try.func79,Try.ntmps79
       go_wp2_with(first|((with_reducible refine qah (N:=2) rfl ?_);refine zX (N:=2) (cs:=#[.int .i64 a0_0,.slice A0_1 l0_1.length c0_1]) (t:=36) ?_;intro gb289 hg w31 hbox hb;have BK289:=Aside0.mk hbox;have GW289:=zH (w:=w) hg (za1 HB);have GE289:=GW289;replace HB:=Aside0.mk (qab (za1 HB) hb);clear hb hbox hg)|((with_reducible refine qah (N:=3) rfl ?_);refine zX (N:=3) (cs:=#[.int .i64 a1_0,.int .i64 a1_1,.slice A1_2 l1_2.length c1_2]) (t:=62) ?_;intro gb290 hg w32 hbox hb;have BK290:=Aside0.mk hbox;have GW290:=zH (w:=w) hg (za0 HB GE289);have GE290:=GW290;replace HB:=Aside0.mk (qab (za0 HB GE289) hb);have NB289_290:=zL BK289 hg;have NB290_289:=zG BK289 hg;replace BK289:=Aside0.mk (qaa (zB BK289) hb);clear hb hbox hg;have hnb33:=NB289_290.out;have hnc33:=NB290_289.out;obtain⟨hcz34_0,hcz34_1,hfz34_0,hfz34_1⟩:=zC2 BK289;obtain⟨hcz35_0,hcz35_1,hcz35_2,hfz35_0,hfz35_1,hfz35_2⟩:=zC3 BK290;have p291:0≤((ji3):Int):=of_decide_eq_true (za5);have q291:(ji3)<(l0_1.length:Int):=of_decide_eq_true (za5);obtain⟨ad291,e291,hx291_0,hx291_1⟩:=at_T46 HR0_1.out (ji3) p291 q291;cases e291;replace hx291_0:=(HB.out.cell (World.block_lt_of_cell? w _ hx291_0)).trans hx291_0;replace hx291_1:=(HB.out.cell (World.block_lt_of_cell? w _ hx291_1)).trans hx291_1;replace p291:=eq_true p291;replace q291:=eq_true q291))
       go_ret
       exact⟨by first|rfl|(simp[qam,qal]<;>rfl)|(simp only[←hji3];first|rfl|(simp[qam,qal]<;>rfl))|(simp[*,qam,qal]<;>rfl),za2 HB GE289 GE290⟩
      ·rw[if_neg c30] at H
       have c30b0:(((rd_T46 l0_1 (ji3)).f1) == 1)=false:=beq_eq_false_iff_ne.mpr c30
       have c30b1:(((rd_T46 l0_1 (ji3)).f1) != 1)=true:=bne_iff_ne.mpr c30
       obtain rfl:=Option.some.inj H
       go_enter Try.func79,Try.ntmps79
       go_wp2_with(first|((with_reducible refine qah (N:=2) rfl ?_);refine zX (N:=2) (cs:=#[.int .i64 a0_0,.slice A0_1 l0_1.length c0_1]) (t:=36) ?_;intro gb289 hg w36 hbox hb;have BK289:=Aside0.mk hbox;have GW289:=zH (w:=w) hg (za1 HB);have GE289:=GW289;replace HB:=Aside0.mk (qab (za1 HB) hb);clear hb hbox hg)|((with_reducible refine qah (N:=3) rfl ?_);refine zX (N:=3) (cs:=#[.int .i64 a1_0,.int .i64 a1_1,.slice A1_2 l1_2.length c1_2]) (t:=62) ?_;intro gb290 hg w37 hbox hb;have BK290:=Aside0.mk hbox;have GW290:=zH (w:=w) hg (za0 HB GE289);have GE290:=GW290;replace HB:=Aside0.mk (qab (za0 HB GE289) hb);have NB289_290:=zL BK289 hg;have NB290_289:=zG BK289 hg;replace BK289:=Aside0.mk (qaa (zB BK289) hb);clear hb hbox hg;have hnb38:=NB289_290.out;have hnc38:=NB290_289.out;obtain⟨hcz39_0,hcz39_1,hfz39_0,hfz39_1⟩:=zC2 BK289;obtain⟨hcz40_0,hcz40_1,hcz40_2,hfz40_0,hfz40_1,hfz40_2⟩:=zC3 BK290;have p291:0≤((ji3):Int):=of_decide_eq_true (za5);have q291:(ji3)<(l0_1.length:Int):=of_decide_eq_true (za5);obtain⟨ad291,e291,hx291_0,hx291_1⟩:=at_T46 HR0_1.out (ji3) p291 q291;cases e291;replace hx291_0:=(HB.out.cell (World.block_lt_of_cell? w _ hx291_0)).trans hx291_0;replace hx291_1:=(HB.out.cell (World.block_lt_of_cell? w _ hx291_1)).trans hx291_1;replace p291:=eq_true p291;replace q291:=eq_true q291))
       go_ret
       exact⟨by first|rfl|(simp[qam,qal]<;>rfl)|(simp only[←hji3];first|rfl|(simp[qam,qal]<;>rfl))|(simp[*,qam,qal]<;>rfl),za2 HB GE289 GE290⟩
     ·rw[if_neg c29] at H
      have c29b0:(a1_0 == 3)=false:=beq_eq_false_iff_ne.mpr c29
      have c29b1:(a1_0 != 3)=true:=bne_iff_ne.mpr c29
      obtain rfl:=Option.some.inj H
      go_enter Try.func79,Try.ntmps79
      go_wp2_with(first|((with_reducible refine qah (N:=2) rfl ?_);refine zX (N:=2) (cs:=#[.int .i64 a0_0,.slice A0_1 l0_1.length c0_1]) (t:=36) ?_;intro gb289 hg w41 hbox hb;have BK289:=Aside0.mk hbox;have GW289:=zH (w:=w) hg (za1 HB);have GE289:=GW289;replace HB:=Aside0.mk (qab (za1 HB) hb);clear hb hbox hg)|((with_reducible refine qah (N:=3) rfl ?_);refine zX (N:=3) (cs:=#[.int .i64 a1_0,.int .i64 a1_1,.slice A1_2 l1_2.length c1_2]) (t:=62) ?_;intro gb290 hg w42 hbox hb;have BK290:=Aside0.mk hbox;have GW290:=zH (w:=w) hg (za0 HB GE289);have GE290:=GW290;replace HB:=Aside0.mk (qab (za0 HB GE289) hb);have NB289_290:=zL BK289 hg;have NB290_289:=zG BK289 hg;replace BK289:=Aside0.mk (qaa (zB BK289) hb);clear hb hbox hg;have hnb43:=NB289_290.out;have hnc43:=NB290_289.out;obtain⟨hcz44_0,hcz44_1,hfz44_0,hfz44_1⟩:=zC2 BK289;obtain⟨hcz45_0,hcz45_1,hcz45_2,hfz45_0,hfz45_1,hfz45_2⟩:=zC3 BK290;have p291:0≤((ji3):Int):=of_decide_eq_true (za5);have q291:(ji3)<(l0_1.length:Int):=of_decide_eq_true (za5);obtain⟨ad291,e291,hx291_0,hx291_1⟩:=at_T46 HR0_1.out (ji3) p291 q291;cases e291;replace hx291_0:=(HB.out.cell (World.block_lt_of_cell? w _ hx291_0)).trans hx291_0;replace hx291_1:=(HB.out.cell (World.block_lt_of_cell? w _ hx291_1)).trans hx291_1;replace p291:=eq_true p291;replace q291:=eq_true q291))
      go_ret
      exact⟨by first|rfl|(simp[qam,qal]<;>rfl)|(simp only[←hji3];first|rfl|(simp[qam,qal]<;>rfl))|(simp[*,qam,qal]<;>rfl),za2 HB GE289 GE290⟩
  ·rw[if_neg c5] at H
   exact absurd H (by simp)
 ·rw[if_neg c4] at H
  exact absurd H (by simp)
def spec_StockMay.f (k:Nat) (a0_0:Int) (l0_1:List (S46)) (a1_0:Int) (a1_1:Int) (l1_2:List Int):Option (Bool):=(spec_StockOk.f k a0_0 l0_1).bind fun t296=>(if t296=true then((spec_RecOk.f k a1_0 a1_1 l1_2).bind fun t297=>(if t297=true then((spec_l2May.f k a0_0 l0_1 a1_0 a1_1 l1_2).bind fun t298=>(some t298)) else(some false))) else(some false))
theorem spec_StockMay.mono:∀a0 a1 a2 a3 a4 k,LeO (spec_StockMay.f k a0 a1 a2 a3 a4) (spec_StockMay.f (k+1) a0 a1 a2 a3 a4):=by
 intro a0 a1 a2 a3 a4 k
 unfold spec_StockMay.f
 repeat' first
   |(with_reducible exact spec_RecOk.mono _ _ _ _)
   |(with_reducible exact spec_StockOk.mono _ _ _)
   |(with_reducible exact spec_l2May.mono _ _ _ _ _ _)
   |(with_reducible exact LeO.refl _)
   |(with_reducible exact LeO.none _)
   |(with_reducible refine LeO.ite ?_ ?_)
   |(with_reducible refine LeO.bind ?_ (fun _=>?_))
   |exact spec_RecOk.mono _ _ _ _
   |exact spec_StockOk.mono _ _ _
   |exact spec_l2May.mono _ _ _ _ _ _
   |exact LeO.none _
   |refine LeO.ite ?_ ?_
   |refine LeO.bind ?_ (fun _=>?_)
set_option maxHeartbeats 8000000 in
set_option maxRecDepth 100000 in
theorem spec_StockMay.calls (k:Nat) (a0_0:Int) (A0_1:Option Addr) (c0_1:Nat) (l0_1:List (S46)) (a1_0:Int) (a1_1:Int) (A1_2:Option Addr) (c1_2:Nat) (l1_2:List Int) (r:Bool) (w:World) (hr0_1:Kd.C k46 w A0_1 l0_1.length l0_1) (hc0_1:l0_1.length≤c0_1) (hr1_2:Kd.C (Kd.int .i64) w A1_2 l1_2.length l1_2) (hc1_2:l1_2.length≤c1_2) (h:spec_StockMay.f k a0_0 l0_1 a1_0 a1_1 l1_2=some r) :
  Calls Try.prog 37 #[.agg #[.int .i64 a0_0,.slice A0_1 l0_1.length c0_1],.agg #[.int .i64 a1_0,.int .i64 a1_1,.slice A1_2 l1_2.length c1_2]] w fun e w'=>e=.returned (.bool r)∧Below w.heap.size w w':=by
 have hu36:=Try.underlying36
 have hu62:=Try.underlying62
 have HR0_1:=Aside0.mk hr0_1
 have HC0_1:=Aside0.mk hc0_1
 clear hr0_1 hc0_1
 have HR1_2:=Aside0.mk hr1_2
 have HC1_2:=Aside0.mk hc1_2
 clear hr1_2 hc1_2
 have HB:=Aside0.mk (Below.refl w.heap.size w)
 have H:((spec_StockOk.f k a0_0 l0_1).bind fun t296=>(if t296=true then((spec_RecOk.f k a1_0 a1_1 l1_2).bind fun t297=>(if t297=true then((spec_l2May.f k a0_0 l0_1 a1_0 a1_1 l1_2).bind fun t298=>(some t298)) else(some false))) else(some false)))=some r:=h
 clear h
 replace H:=Option.bind_eq_some_iff.mp H
 obtain⟨t296,A30,H⟩:=H
 replace H:(if t296=true then((spec_RecOk.f k a1_0 a1_1 l1_2).bind fun t297=>(if t297=true then((spec_l2May.f k a0_0 l0_1 a1_0 a1_1 l1_2).bind fun t298=>(some t298)) else(some false))) else(some false))=some r:=H
 have A3:=Aside0.mk A30
 clear A30
 by_cases c4:t296=true
 ·subst c4
  have H1:((spec_RecOk.f k a1_0 a1_1 l1_2).bind fun t297=>(if t297=true then((spec_l2May.f k a0_0 l0_1 a1_0 a1_1 l1_2).bind fun t298=>(some t298)) else(some false)))=some r:=by rw[if_pos rfl] at H;exact H
  clear H
  have H:=H1
  clear H1
  replace H:=Option.bind_eq_some_iff.mp H
  obtain⟨t297,A50,H⟩:=H
  replace H:(if t297=true then((spec_l2May.f k a0_0 l0_1 a1_0 a1_1 l1_2).bind fun t298=>(some t298)) else(some false))=some r:=H
  have A5:=Aside0.mk A50
  clear A50
  by_cases c6:t297=true
  ·subst c6
   have H1:((spec_l2May.f k a0_0 l0_1 a1_0 a1_1 l1_2).bind fun t298=>(some t298))=some r:=by rw[if_pos rfl] at H;exact H
   clear H
   have H:=H1
   clear H1
   replace H:=Option.bind_eq_some_iff.mp H
   obtain⟨t298,A70,H⟩:=H
   replace H:(some t298)=some r:=H
   have A7:=Aside0.mk A70
   clear A70
   obtain rfl:=Option.some.inj H
   go_enter Try.func37,Try.ntmps37
   go_wp2_with(first|((with_reducible refine qah (N:=2) rfl ?_);refine zX (N:=2) (cs:=#[.int .i64 a0_0,.slice A0_1 l0_1.length c0_1]) (t:=36) ?_;intro gb294 hg w8 hbox hb;have BK294:=Aside0.mk hbox;have GW294:=zH (w:=w) hg (za1 HB);have GE294:=GW294;replace HB:=Aside0.mk (qab (za1 HB) hb);clear hb hbox hg)|((with_reducible refine qah (N:=3) rfl ?_);refine zX (N:=3) (cs:=#[.int .i64 a1_0,.int .i64 a1_1,.slice A1_2 l1_2.length c1_2]) (t:=62) ?_;intro gb295 hg w9 hbox hb;have BK295:=Aside0.mk hbox;have GW295:=zH (w:=w) hg (za0 HB GE294);have GE295:=GW295;replace HB:=Aside0.mk (qab (za0 HB GE294) hb);have NB294_295:=zL BK294 hg;have NB295_294:=zG BK294 hg;replace BK294:=Aside0.mk (qaa (zB BK294) hb);clear hb hbox hg;have hnb10:=NB294_295.out;have hnc10:=NB295_294.out;obtain⟨hcz11_0,hcz11_1,hfz11_0,hfz11_1⟩:=zC2 BK294)|((with_reducible refine qaf (f:=28) rfl ?_);refine zF (some 6) Try.func28 #[.agg #[.int .i64 a0_0,.slice A0_1 l0_1.length c0_1]] ?_;(with_reducible refine(spec_StockOk.calls k a0_0 _ _ l0_1 true _ ?side1 ?side2 A3.out).mono ?_);(case side1=>exact zR HR0_1 HB);(case side2=>exact HC0_1.out);rintro e w12 ⟨rfl,hb⟩;refine⟨_,rfl,?_⟩;replace BK294:=Aside0.mk (qaa (zB BK294) hb);replace BK295:=Aside0.mk (qaa (zB BK295) hb);replace HB:=Aside0.mk (qab (za2 HB GE294 GE295) hb);(try clear hb);obtain⟨hcz13_0,hcz13_1,hcz13_2,hfz13_0,hfz13_1,hfz13_2⟩:=zC3 BK295)|(go_at_call 44;(with_reducible refine(spec_RecOk.calls k a1_0 a1_1 _ _ l1_2 true _ ?side1 ?side2 A5.out).mono ?_);(case side1=>exact zR HR1_2 HB);(case side2=>exact HC1_2.out);rintro e w14 ⟨rfl,hb⟩;replace BK294:=Aside0.mk (qaa (zB BK294) hb);replace BK295:=Aside0.mk (qaa (zB BK295) hb);replace HB:=Aside0.mk (qab (za2 HB GE294 GE295) hb);(try clear hb);obtain⟨hcz15_0,hcz15_1,hfz15_0,hfz15_1⟩:=zC2 BK294;obtain⟨hcz16_0,hcz16_1,hcz16_2,hfz16_0,hfz16_1,hfz16_2⟩:=zC3 BK295)|(go_at_call 79;(with_reducible refine(spec_l2May.calls k a0_0 _ _ l0_1 a1_0 a1_1 _ _ l1_2 t298 _ ?side1 ?side2 ?side3 ?side4 A7.out).mono ?_);(case side1=>exact zR HR0_1 HB);(case side2=>exact HC0_1.out);(case side3=>exact zR HR1_2 HB);(case side4=>exact HC1_2.out);rintro e w17 ⟨rfl,hb⟩;replace BK294:=Aside0.mk (qaa (zB BK294) hb);replace BK295:=Aside0.mk (qaa (zB BK295) hb);replace HB:=Aside0.mk (qab (za2 HB GE294 GE295) hb);(try clear hb)))
   go_ret
   exact⟨za9,za2 HB GE294 GE295⟩
  ·replace c6:=Bool.eq_false_iff.mpr c6
   subst c6
   have H1:(some false)=some r:=by rw[if_neg (show ¬(false=true) by decide)] at H;exact H
   clear H
   have H:=H1
   clear H1
   obtain rfl:=Option.some.inj H
   go_enter Try.func37,Try.ntmps37
   go_wp2_with(first|((with_reducible refine qah (N:=2) rfl ?_);refine zX (N:=2) (cs:=#[.int .i64 a0_0,.slice A0_1 l0_1.length c0_1]) (t:=36) ?_;intro gb294 hg w18 hbox hb;have BK294:=Aside0.mk hbox;have GW294:=zH (w:=w) hg (za1 HB);have GE294:=GW294;replace HB:=Aside0.mk (qab (za1 HB) hb);clear hb hbox hg)|((with_reducible refine qah (N:=3) rfl ?_);refine zX (N:=3) (cs:=#[.int .i64 a1_0,.int .i64 a1_1,.slice A1_2 l1_2.length c1_2]) (t:=62) ?_;intro gb295 hg w19 hbox hb;have BK295:=Aside0.mk hbox;have GW295:=zH (w:=w) hg (za0 HB GE294);have GE295:=GW295;replace HB:=Aside0.mk (qab (za0 HB GE294) hb);have NB294_295:=zL BK294 hg;have NB295_294:=zG BK294 hg;replace BK294:=Aside0.mk (qaa (zB BK294) hb);clear hb hbox hg;have hnb20:=NB294_295.out;have hnc20:=NB295_294.out;obtain⟨hcz21_0,hcz21_1,hfz21_0,hfz21_1⟩:=zC2 BK294)|((with_reducible refine qaf (f:=28) rfl ?_);refine zF (some 6) Try.func28 #[.agg #[.int .i64 a0_0,.slice A0_1 l0_1.length c0_1]] ?_;(with_reducible refine(spec_StockOk.calls k a0_0 _ _ l0_1 true _ ?side1 ?side2 A3.out).mono ?_);(case side1=>exact zR HR0_1 HB);(case side2=>exact HC0_1.out);rintro e w22 ⟨rfl,hb⟩;refine⟨_,rfl,?_⟩;replace BK294:=Aside0.mk (qaa (zB BK294) hb);replace BK295:=Aside0.mk (qaa (zB BK295) hb);replace HB:=Aside0.mk (qab (za2 HB GE294 GE295) hb);(try clear hb);obtain⟨hcz23_0,hcz23_1,hcz23_2,hfz23_0,hfz23_1,hfz23_2⟩:=zC3 BK295)|(go_at_call 44;(with_reducible refine(spec_RecOk.calls k a1_0 a1_1 _ _ l1_2 false _ ?side1 ?side2 A5.out).mono ?_);(case side1=>exact zR HR1_2 HB);(case side2=>exact HC1_2.out);rintro e w24 ⟨rfl,hb⟩;replace BK294:=Aside0.mk (qaa (zB BK294) hb);replace BK295:=Aside0.mk (qaa (zB BK295) hb);replace HB:=Aside0.mk (qab (za2 HB GE294 GE295) hb);(try clear hb)))
   go_ret
   exact⟨za9,za2 HB GE294 GE295⟩
 ·replace c4:=Bool.eq_false_iff.mpr c4
  subst c4
  have H1:(some false)=some r:=by rw[if_neg (show ¬(false=true) by decide)] at H;exact H
  clear H
  have H:=H1
  clear H1
  obtain rfl:=Option.some.inj H
  go_enter Try.func37,Try.ntmps37
  go_wp2_with(first|((with_reducible refine qah (N:=2) rfl ?_);refine zX (N:=2) (cs:=#[.int .i64 a0_0,.slice A0_1 l0_1.length c0_1]) (t:=36) ?_;intro gb294 hg w25 hbox hb;have BK294:=Aside0.mk hbox;have GW294:=zH (w:=w) hg (za1 HB);have GE294:=GW294;replace HB:=Aside0.mk (qab (za1 HB) hb);clear hb hbox hg)|((with_reducible refine qah (N:=3) rfl ?_);refine zX (N:=3) (cs:=#[.int .i64 a1_0,.int .i64 a1_1,.slice A1_2 l1_2.length c1_2]) (t:=62) ?_;intro gb295 hg w26 hbox hb;have BK295:=Aside0.mk hbox;have GW295:=zH (w:=w) hg (za0 HB GE294);have GE295:=GW295;replace HB:=Aside0.mk (qab (za0 HB GE294) hb);have NB294_295:=zL BK294 hg;have NB295_294:=zG BK294 hg;replace BK294:=Aside0.mk (qaa (zB BK294) hb);clear hb hbox hg;have hnb27:=NB294_295.out;have hnc27:=NB295_294.out;obtain⟨hcz28_0,hcz28_1,hfz28_0,hfz28_1⟩:=zC2 BK294)|((with_reducible refine qaf (f:=28) rfl ?_);refine zF (some 6) Try.func28 #[.agg #[.int .i64 a0_0,.slice A0_1 l0_1.length c0_1]] ?_;(with_reducible refine(spec_StockOk.calls k a0_0 _ _ l0_1 false _ ?side1 ?side2 A3.out).mono ?_);(case side1=>exact zR HR0_1 HB);(case side2=>exact HC0_1.out);rintro e w29 ⟨rfl,hb⟩;refine⟨_,rfl,?_⟩;replace BK294:=Aside0.mk (qaa (zB BK294) hb);replace BK295:=Aside0.mk (qaa (zB BK295) hb);replace HB:=Aside0.mk (qab (za2 HB GE294 GE295) hb);(try clear hb)))
  go_ret
  exact⟨za9,za2 HB GE294 GE295⟩
end Go.Proofs.Ytjccnaklodbbfaa.Print
