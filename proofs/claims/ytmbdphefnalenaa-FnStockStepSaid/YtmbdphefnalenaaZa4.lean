-- Written by squeeze.py: not trusted, Lean checks it.
import Derived.Test.YtmbdphefnalenaaZK
import Derived.Test.YtmbdphefnalenaaZa0
import Derived.Test.YtmbdphefnalenaaZa3
namespace Go.Proofs.Ytmbdphefnalenaa.Print
open Go.RowKit Go.Proofs.YtmbdphefnalenaaW.PrintWords Go.Proofs.YtmbdphefnalenaaW.PrintLast Go.Proofs.YtmbdphefnalenaaW.PrintMore
attribute [local go_sem] max2_int min2_int max_two min_two max_three min_three max_four min_four
set_option linter.unusedVariables false
set_option linter.unusedSimpArgs false
def spec_l2May.f (k:Nat) (a0_0:Int) (l0_1:List (S49)) (a1_0:Int) (a1_1:Int) (l1_2:List Int):Option (Bool):=if 0≤(wrap64 (a1_1 - 1)) then(if(wrap64 (a1_1 - 1))<(l0_1.length:Int) then(if a1_0=1 then(if((rd_T49 l0_1 (wrap64 (a1_1 - 1))).f1)=0 then(if 0<(l1_2.length:Int) then((spec_l2Free.f k a0_0 l0_1).bind fun t401=>(some (decide ((rd l1_2 0)≤t401)))) else(none)) else(some false)) else(if a1_0=2 then(some (((rd_T49 l0_1 (wrap64 (a1_1 - 1))).f1) == 1)) else(if a1_0=3 then(if((rd_T49 l0_1 (wrap64 (a1_1 - 1))).f1)=1 then(some true) else(some (((rd_T49 l0_1 (wrap64 (a1_1 - 1))).f1) == 0))) else(some false)))) else(none)) else(none)
theorem spec_l2May.mono:∀a0 a1 a2 a3 a4 k,LeO (spec_l2May.f k a0 a1 a2 a3 a4) (spec_l2May.f (k+1) a0 a1 a2 a3 a4):=by
 intro a0 a1 a2 a3 a4 k;unfold spec_l2May.f
 repeat' first|(with_reducible exact spec_l2Free.mono _ _ _)|(with_reducible exact LeO.refl _)|(with_reducible exact LeO.none _)|(with_reducible refine LeO.ite ?_ ?_)|(with_reducible refine LeO.bind ?_ (fun _=>?_))|exact spec_l2Free.mono _ _ _|exact LeO.none _|refine LeO.ite ?_ ?_|refine LeO.bind ?_ (fun _=>?_)
def spec_l2May.T4:Bool × List (List Nat × List Nat):=(true,[([],[]),([0],[0]),([1],[1]),([2],[2]),([3,2],[2,3]),([4,2],[2,4]),([5,2],[2,5]),([2],[2]),([7,2,2],[2,7]),([6,8,2],[2,6,8]),([2,9],[2,9]),([10,8,0,1,2,3,4,5,6,7,8,9,10],[10])])
def spec_l2May.B4:List Nat:=[0,1,3,7,15,31,63,7,135,511,1023,2047]
theorem spec_l2May.tab4:rtab .any (opsOf Try.f90 4)=spec_l2May.T4:=by kernel_rfl
theorem spec_l2May.bits4:waitsOk spec_l2May.T4.2 spec_l2May.B4=true:=by kernel_rfl
set_option maxHeartbeats 8000000 in
set_option maxRecDepth 100000 in
theorem spec_l2May.calls (k:Nat) (a0_0:Int) (A0_1:Option Addr) (c0_1:Nat) (l0_1:List (S49)) (a1_0:Int) (a1_1:Int) (A1_2:Option Addr) (c1_2:Nat) (l1_2:List Int) (r:Bool) (w:World) (hr0_1:Kd.C k49 w A0_1 l0_1.length l0_1) (hc0_1:l0_1.length≤c0_1) (hr1_2:Kd.C (Kd.int .i64) w A1_2 l1_2.length l1_2) (hc1_2:l1_2.length≤c1_2) (h:spec_l2May.f k a0_0 l0_1 a1_0 a1_1 l1_2=some r) :
  Calls Try.prog 90 #[.agg #[.int .i64 a0_0,.slice A0_1 l0_1.length c0_1],.agg #[.int .i64 a1_0,.int .i64 a1_1,.slice A1_2 l1_2.length c1_2]] w fun e w'=>e=.returned (.bool r)∧Below w.heap.size w w':=by
 have hu38:=Try.underlying38;have hu32:=Try.underlying32;have HR0_1:=qae.mk hr0_1;have HC0_1:=qae.mk hc0_1;clear hr0_1 hc0_1;have HR1_2:=qae.mk hr1_2;have HC1_2:=qae.mk hc1_2;clear hr1_2 hc1_2;have HB:=qae.mk (Below.refl w.heap.size w);have H:(if 0≤(wrap64 (a1_1 - 1)) then(if(wrap64 (a1_1 - 1))<(l0_1.length:Int) then(if a1_0=1 then(if((rd_T49 l0_1 (wrap64 (a1_1 - 1))).f1)=0 then(if 0<(l1_2.length:Int) then((spec_l2Free.f k a0_0 l0_1).bind fun t401=>(some (decide ((rd l1_2 0)≤t401)))) else(none)) else(some false)) else(if a1_0=2 then(some (((rd_T49 l0_1 (wrap64 (a1_1 - 1))).f1) == 1)) else(if a1_0=3 then(if((rd_T49 l0_1 (wrap64 (a1_1 - 1))).f1)=1 then(some true) else(some (((rd_T49 l0_1 (wrap64 (a1_1 - 1))).f1) == 0))) else(some false)))) else(none)) else(none))=some r:=h;clear h;obtain⟨ji3,hji3⟩:∃j_:Int,(wrap64 (a1_1 - 1))=j_:=⟨_,rfl⟩
 replace H:(if 0≤(ji3) then(if(ji3)<(l0_1.length:Int) then(if a1_0=1 then(if((rd_T49 l0_1 (ji3)).f1)=0 then(if 0<(l1_2.length:Int) then((spec_l2Free.f k a0_0 l0_1).bind fun t401=>(some (decide ((rd l1_2 0)≤t401)))) else(none)) else(some false)) else(if a1_0=2 then(some (((rd_T49 l0_1 (ji3)).f1) == 1)) else(if a1_0=3 then(if((rd_T49 l0_1 (ji3)).f1)=1 then(some true) else(some (((rd_T49 l0_1 (ji3)).f1) == 0))) else(some false)))) else(none)) else(none))=some r:=by first|(rw[hji3] at H;exact H)|(simp only[hji3] at H ⊢;exact H)
 have hji3w:(IntKind.i64.wrap (a1_1 - 1))=ji3:=(qaj _).trans hji3;by_cases c4:0≤(ji3)
 ·rw[if_pos c4] at H;have c4b0:decide (0≤(ji3))=true:=decide_eq_true c4;clear c4;by_cases c5:(ji3)<(l0_1.length:Int)
  ·rw[if_pos c5] at H;have c5b0:decide ((ji3)<(l0_1.length:Int))=true:=decide_eq_true c5;clear c5;by_cases c6:a1_0=1
   ·rw[if_pos c6] at H;have c6b0:(a1_0 == 1)=true:=beq_iff_eq.mpr c6;have c6b1:(a1_0 != 1)=false:=bne_eq_false_iff_eq.mpr c6;clear c6;by_cases c7:((rd_T49 l0_1 (ji3)).f1)=0
    ·rw[if_pos c7] at H;have c7b0:(((rd_T49 l0_1 (ji3)).f1) == 0)=true:=beq_iff_eq.mpr c7;have c7b1:(((rd_T49 l0_1 (ji3)).f1) != 0)=false:=bne_eq_false_iff_eq.mpr c7;clear c7;by_cases c8:0<(l1_2.length:Int)
     ·rw[if_pos c8] at H;have c8b0:decide (0<(l1_2.length:Int))=true:=decide_eq_true c8;have c8b1:decide (0<l1_2.length)=true:=decide_eq_true (by omega);clear c8;replace H:=Option.bind_eq_some_iff.mp H;obtain⟨t401,A90,H⟩:=H;replace H:(some (decide ((rd l1_2 0)≤t401)))=some r:=H;have A9:=qae.mk A90;clear A90;obtain rfl:=Option.some.inj H;go_enter Try.func90,Try.ntmps90
      try go_wp2_with(first|((with_reducible refine qai (N:=2) rfl ?_);refine zX (N:=2) (cs:=#[.int .i64 a0_0,.slice A0_1 l0_1.length c0_1]) (t:=38) ?_;intro gb397 hg w10 hbox hb;have BK397:=qae.mk hbox;have GW397:=zH (w:=w) hg (za3 HB);have GE397:=GW397;replace HB:=qae.mk (qad (za3 HB) hb);clear hb hbox hg)|((with_reducible refine qai (N:=3) rfl ?_);refine zX (N:=3) (cs:=#[.int .i64 a1_0,.int .i64 a1_1,.slice A1_2 l1_2.length c1_2]) (t:=32) ?_;intro gb398 hg w11 hbox hb;have BK398:=qae.mk hbox;have GW398:=zH (w:=w) hg (za1 HB GE397);have GE398:=GW398;replace HB:=qae.mk (qad (za1 HB GE397) hb);have NB397_398:=zL BK397 hg;have NB398_397:=zG BK397 hg;replace BK397:=zY BK397 hb;clear hb hbox hg;have hnb12:=NB397_398.out;have hnc12:=NB398_397.out;obtain⟨hcz13_0,hcz13_1,hfz13_0,hfz13_1⟩:=zC2 BK397;obtain⟨hcz14_0,hcz14_1,hcz14_2,hfz14_0,hfz14_1,hfz14_2⟩:=zC3 BK398;have p399:0≤((ji3):Int):=of_decide_eq_true (za6);have q399:(ji3)<(l0_1.length:Int):=of_decide_eq_true (za6);obtain⟨ad399,e399,hx399_0,hx399_1⟩:=at_T49 HR0_1.out (ji3) p399 q399;cases e399;replace hx399_0:=(HB.out.cell (World.block_lt_of_cell? w _ hx399_0)).trans hx399_0;replace hx399_1:=(HB.out.cell (World.block_lt_of_cell? w _ hx399_1)).trans hx399_1;replace p399:=eq_true p399;replace q399:=eq_true q399))
      replace BK397:=qae.mk (qaa BK397.out);replace BK398:=qae.mk (qaa BK398.out);replace HB:=qae.mk (qar HB.out);have p400:0≤(0:Int):=(by omega);have q400:0<(l1_2.length:Int):=of_decide_eq_true (za6);obtain⟨ad400,e400,hx400_0⟩:=Kd.at_int HR1_2.out 0 p400 q400;have hw400_0:=hx400_0;(try rw[show((0:Int)).toNat=0 from rfl] at hw400_0);(try rw[show 0*1=0 from rfl] at hw400_0);(try rw[Addr.add_zero'] at hw400_0)
      cases e400
      have qi400:(0<l1_2.length)=True:=eq_true (by omega);(try rw[show((0:Int)).toNat=0 from rfl] at hx400_0);(try rw[Addr.add_zero'] at hx400_0);replace hx400_0:=(HB.out.cell (World.block_lt_of_cell? w _ hx400_0)).trans hx400_0;replace p400:=eq_true p400;replace q400:=eq_true q400
      refine start_ (n:=12) (S:=fun w'=>w'.cell? ⟨gb398,0,none⟩=some (.int .i64 a1_0)∧w'.cell? ⟨gb398,1,none⟩=some (.int .i64 a1_1)∧w'.cell? ⟨gb398,2,none⟩=some (.slice (some ad400) l1_2.length c1_2)∧w'.cell? ⟨gb397,0,none⟩=some (.int .i64 a0_0)∧w'.cell? ⟨gb397,1,none⟩=some (.slice (some ad399) l0_1.length c0_1)∧w'.cell? ad400=some (.int .i64 (rd l1_2 0))) (ds:=[]) #[false,false,false,false,false,false,false,false,false,false,false,false] (by kernel_rfl) rfl rfl ⟨(qaf BK398.out 0).trans rfl,(qaf BK398.out 1).trans rfl,(qaf BK398.out 2).trans rfl,(qaf BK397.out 0).trans rfl,(qaf BK397.out 1).trans rfl,((HB.out.cell (World.block_lt_of_cell? w _ hw400_0)).trans hw400_0)⟩ (fun hHeld=>?_);refine with_tabW spec_l2May.tab4 spec_l2May.bits4 (fun HT_ HW_=>?_)
      generalize w11.drew=w15 at BK397 BK398 HB hx400_0 hHeld ⊢;refine qaq (i:=0) (N:=some 18) (v:=?_) (a':=?_) #[true,false,false,false,false,false,false,false,false,false,false,false] rfl rfl (qam HT_.out (by kernel_rfl)) (fun _ _ _ h=>h) (Or.inl ⟨by rfl,?_⟩) ?_ ?_;rotate_left
      ·intro w';go_simp
       with_reducible rfl
      rotate_left
      ·simp only[Act.put,List.setIfInBounds_toArray,List.set_cons_zero,List.set_cons_succ,qaj,qak];rfl
      refine qaq (i:=1) (N:=some 19) (v:=?_) (a':=?_) #[true,true,false,false,false,false,false,false,false,false,false,false] rfl rfl (qam HT_.out (by kernel_rfl)) (fun _ _ _ h=>h) (Or.inl ⟨by rfl,?_⟩) ?_ ?_;rotate_left
      ·intro w';go_simp
       with_reducible rfl
      rotate_left
      ·simp only[Act.put,List.setIfInBounds_toArray,List.set_cons_zero,List.set_cons_succ,qaj,qak];rfl
      refine qaq (i:=2) (N:=some 20) (v:=?_) (a':=?_) #[true,true,true,false,false,false,false,false,false,false,false,false] rfl rfl (qam HT_.out (by kernel_rfl)) (fun _ _ _ h=>h) (Or.inl ⟨by rfl,?_⟩) ?_ ?_;rotate_left
      ·intro w';go_simp
       with_reducible rfl
      rotate_left
      ·simp only[Act.put,List.setIfInBounds_toArray,List.set_cons_zero,List.set_cons_succ,qaj,qak];rfl
      refine qaq (i:=3) (N:=some 21) (v:=?_) (a':=?_) #[true,true,true,true,false,false,false,false,false,false,false,false] rfl rfl (qam HT_.out (by kernel_rfl)) (fun _ _ _ h=>h) (Or.inl ⟨by rfl,?_⟩) ?_ ?_;rotate_left
      ·intro w';go_simp
       with_reducible rfl
      rotate_left
      ·simp only[Act.put,List.setIfInBounds_toArray,List.set_cons_zero,List.set_cons_succ,qaj,qak];rfl
      refine take_ (i:=4) (N:=some 22) (v:=?_) (a':=?_) #[true,true,true,true,true,false,false,false,false,false,false,false] rfl rfl (take_ofW HT_.out HW_.out (by kernel_rfl)) (fun _ _ _ h=>h) (Or.inl ⟨by rfl,?_⟩) hHeld ?_ ?_;rotate_left
      ·rintro w' ⟨s0,s1,s2,s3,s4,s5⟩;go_simp
       with_reducible rfl
      rotate_left
      ·simp only[Act.put,List.setIfInBounds_toArray,List.set_cons_zero,List.set_cons_succ,qaj,qak];rfl
      refine qaq (i:=5) (N:=some 23) (v:=?_) (a':=?_) #[true,true,true,true,true,true,false,false,false,false,false,false] rfl rfl (qam HT_.out (by kernel_rfl)) (fun _ _ _ h=>h) (Or.inl ⟨by rfl,?_⟩) ?_ ?_;rotate_left
      ·intro w';go_simp
       with_reducible rfl
      rotate_left
      ·simp only[Act.put,List.setIfInBounds_toArray,List.set_cons_zero,List.set_cons_succ,qaj,qak];rfl
      refine take_ (i:=6) (N:=some 24) (v:=?_) (a':=?_) #[true,true,true,true,true,true,true,false,false,false,false,false] rfl rfl (take_ofW HT_.out HW_.out (by kernel_rfl)) (fun _ _ _ h=>h) (Or.inl ⟨by rfl,?_⟩) hHeld ?_ ?_;rotate_left
      ·rintro w' ⟨s0,s1,s2,s3,s4,s5⟩;go_simp
       with_reducible rfl
      rotate_left
      ·simp only[Act.put,List.setIfInBounds_toArray,List.set_cons_zero,List.set_cons_succ,qaj,qak];rfl
      refine take_ (i:=7) (N:=some 25) (v:=?_) (a':=?_) #[true,true,true,true,true,true,true,true,false,false,false,false] rfl rfl (take_ofW HT_.out HW_.out (by kernel_rfl)) (fun _ _ _ h=>h) (Or.inl ⟨by rfl,?_⟩) hHeld ?_ ?_;rotate_left
      ·rintro w' ⟨s0,s1,s2,s3,s4,s5⟩;go_simp
       with_reducible rfl
      rotate_left
      ·simp only[Act.put,List.setIfInBounds_toArray,List.set_cons_zero,List.set_cons_succ,qaj,qak];rfl
      refine one_ (i:=8) (N:=some 26) #[true,true,true,true,true,true,true,true,true,false,false,false] rfl rfl (one_of HT_.out (by kernel_rfl)) (by decide) (fun K hK=>?_);refine goes_ Try.func105 (by kernel_rfl) rfl #[.agg #[.int .i64 a0_0,.slice (some ad399) l0_1.length c0_1]] (by rfl) rfl rfl (by(try simp only[List.map_toArray,List.map_cons,List.map_nil]);first|done|rfl|(simp only[List.length_drop,List.length_take];rfl)) ?_
      with_reducible refine(spec_l2Free.calls k a0_0 _ _ l0_1 t401 _ ?side1 ?side2 A9.out).mono ?_
      (case side1=>exact zR HR0_1 HB);(case side2=>exact HC0_1.out);rintro e w16 ⟨rfl,hb⟩;refine⟨_,rfl,?_⟩;replace BK397:=zY BK397 hb;replace BK398:=zY BK398 hb;replace HB:=qae.mk (qad (za4 HB GE397 GE398) hb);(try clear hb);(try clear hb2);(try clear hk);(try clear hi);refine hK.out _ _ ⟨(qaf BK398.out 0).trans rfl,(qaf BK398.out 1).trans rfl,(qaf BK398.out 2).trans rfl,(qaf BK397.out 0).trans rfl,(qaf BK397.out 1).trans rfl,((HB.out.cell (World.block_lt_of_cell? w _ hw400_0)).trans hw400_0)⟩ (fun hHeld=>?_);clear hK K;refine norm_ (a':=?_) ?_ ?_;rotate_left
      ·show Act.put _ (some 26) _=_;simp only[Act.put,List.setIfInBounds_toArray,List.set_cons_zero,List.set_cons_succ,qaj,qak];rfl
      refine qaq (i:=9) (N:=some 27) (v:=?_) (a':=?_) #[true,true,true,true,true,true,true,true,true,true,false,false] rfl rfl (qam HT_.out (by kernel_rfl)) (fun _ _ _ h=>h) (Or.inl ⟨by rfl,?_⟩) ?_ ?_;rotate_left
      ·intro w';go_simp
       with_reducible rfl
      rotate_left
      ·simp only[Act.put,List.setIfInBounds_toArray,List.set_cons_zero,List.set_cons_succ,qaj,qak];rfl
      refine qaq (i:=10) (N:=some 28) (v:=?_) (a':=?_) #[true,true,true,true,true,true,true,true,true,true,true,false] rfl rfl (qam HT_.out (by kernel_rfl)) (fun _ _ _ h=>h) (Or.inl ⟨by rfl,?_⟩) ?_ ?_;rotate_left
      ·intro w';go_simp
       with_reducible rfl
      rotate_left
      ·simp only[Act.put,List.setIfInBounds_toArray,List.set_cons_zero,List.set_cons_succ,qaj,qak];rfl
      refine qaq (i:=11) (N:=some 4) (v:=?_) (a':=?_) #[true,true,true,true,true,true,true,true,true,true,true,true] rfl rfl (qam HT_.out (by kernel_rfl)) (fun _ _ _ h=>h) (Or.inl ⟨by rfl,?_⟩) ?_ ?_;rotate_left
      ·intro w';go_simp
       with_reducible rfl
      rotate_left
      ·simp only[Act.put,List.setIfInBounds_toArray,List.set_cons_zero,List.set_cons_succ,qaj,qak];rfl
      refine done_ (done_of HT_.out (by kernel_rfl)) ?_
      try go_wp2
      go_ret;exact⟨by first|rfl|(simp[qan,qao]<;>rfl)|(simp only[←hji3];first|rfl|(simp[qan,qao]<;>rfl))|(simp[*,qan,qao]<;>rfl),za4 HB GE397 GE398⟩
     ·rw[if_neg c8] at H;exact absurd H (by simp)
    ·rw[if_neg c7] at H;have c7b0:(((rd_T49 l0_1 (ji3)).f1) == 0)=false:=beq_eq_false_iff_ne.mpr c7;have c7b1:(((rd_T49 l0_1 (ji3)).f1) != 0)=true:=bne_iff_ne.mpr c7;obtain rfl:=Option.some.inj H;go_enter Try.func90,Try.ntmps90
     try go_wp2_with(first|((with_reducible refine qai (N:=2) rfl ?_);refine zX (N:=2) (cs:=#[.int .i64 a0_0,.slice A0_1 l0_1.length c0_1]) (t:=38) ?_;intro gb397 hg w17 hbox hb;have BK397:=qae.mk hbox;have GW397:=zH (w:=w) hg (za3 HB);have GE397:=GW397;replace HB:=qae.mk (qad (za3 HB) hb);clear hb hbox hg)|((with_reducible refine qai (N:=3) rfl ?_);refine zX (N:=3) (cs:=#[.int .i64 a1_0,.int .i64 a1_1,.slice A1_2 l1_2.length c1_2]) (t:=32) ?_;intro gb398 hg w18 hbox hb;have BK398:=qae.mk hbox;have GW398:=zH (w:=w) hg (za1 HB GE397);have GE398:=GW398;replace HB:=qae.mk (qad (za1 HB GE397) hb);have NB397_398:=zL BK397 hg;have NB398_397:=zG BK397 hg;replace BK397:=zY BK397 hb;clear hb hbox hg;have hnb19:=NB397_398.out;have hnc19:=NB398_397.out;obtain⟨hcz20_0,hcz20_1,hfz20_0,hfz20_1⟩:=zC2 BK397;obtain⟨hcz21_0,hcz21_1,hcz21_2,hfz21_0,hfz21_1,hfz21_2⟩:=zC3 BK398;have p399:0≤((ji3):Int):=of_decide_eq_true (za6);have q399:(ji3)<(l0_1.length:Int):=of_decide_eq_true (za6);obtain⟨ad399,e399,hx399_0,hx399_1⟩:=at_T49 HR0_1.out (ji3) p399 q399;cases e399;replace hx399_0:=(HB.out.cell (World.block_lt_of_cell? w _ hx399_0)).trans hx399_0;replace hx399_1:=(HB.out.cell (World.block_lt_of_cell? w _ hx399_1)).trans hx399_1;replace p399:=eq_true p399;replace q399:=eq_true q399))
     replace BK397:=qae.mk (qaa BK397.out);replace BK398:=qae.mk (qaa BK398.out);replace HB:=qae.mk (qar HB.out);refine start_ (n:=12) (S:=fun w'=>True) (ds:=[]) #[false,false,false,false,false,false,false,false,false,false,false,false] (by kernel_rfl) rfl rfl trivial (fun hHeld=>?_);refine with_tabW spec_l2May.tab4 spec_l2May.bits4 (fun HT_ HW_=>?_);generalize w18.drew=w22 at BK397 BK398 HB hHeld ⊢;refine qaq (i:=0) (N:=some 18) (v:=?_) (a':=?_) #[true,false,false,false,false,false,false,false,false,false,false,false] rfl rfl (qam HT_.out (by kernel_rfl)) (fun _ _ _ h=>h) (Or.inl ⟨by rfl,?_⟩) ?_ ?_;rotate_left
     ·intro w';go_simp
      with_reducible rfl
     rotate_left
     ·simp only[Act.put,List.setIfInBounds_toArray,List.set_cons_zero,List.set_cons_succ,qaj,qak];rfl
     refine qaq (i:=1) (N:=some 19) (v:=?_) (a':=?_) #[true,true,false,false,false,false,false,false,false,false,false,false] rfl rfl (qam HT_.out (by kernel_rfl)) (fun _ _ _ h=>h) (Or.inl ⟨by rfl,?_⟩) ?_ ?_;rotate_left
     ·intro w';go_simp
      with_reducible rfl
     rotate_left
     ·simp only[Act.put,List.setIfInBounds_toArray,List.set_cons_zero,List.set_cons_succ,qaj,qak];rfl
     refine qaq (i:=2) (N:=some 20) (v:=?_) (a':=?_) #[true,true,true,false,false,false,false,false,false,false,false,false] rfl rfl (qam HT_.out (by kernel_rfl)) (fun _ _ _ h=>h) (Or.inl ⟨by rfl,?_⟩) ?_ ?_;rotate_left
     ·intro w';go_simp
      with_reducible rfl
     rotate_left
     ·simp only[Act.put,List.setIfInBounds_toArray,List.set_cons_zero,List.set_cons_succ,qaj,qak];rfl
     refine qaq (i:=3) (N:=some 21) (v:=undef) (a':=?_) #[true,true,true,true,false,false,false,false,false,false,false,false] rfl rfl (qam HT_.out (by kernel_rfl)) (fun _ _ _ h=>h) (Or.inr ⟨by rfl,rfl⟩) ?_ ?_;rotate_left
     ·simp only[Act.put,List.setIfInBounds_toArray,List.set_cons_zero,List.set_cons_succ,qaj,qak];rfl
     refine qaq (i:=4) (N:=some 22) (v:=undef) (a':=?_) #[true,true,true,true,true,false,false,false,false,false,false,false] rfl rfl (qam HT_.out (by kernel_rfl)) (fun _ _ _ h=>h) (Or.inr ⟨by rfl,rfl⟩) ?_ ?_;rotate_left
     ·simp only[Act.put,List.setIfInBounds_toArray,List.set_cons_zero,List.set_cons_succ,qaj,qak];rfl
     refine qaq (i:=5) (N:=some 23) (v:=undef) (a':=?_) #[true,true,true,true,true,true,false,false,false,false,false,false] rfl rfl (qam HT_.out (by kernel_rfl)) (fun _ _ _ h=>h) (Or.inr ⟨by rfl,rfl⟩) ?_ ?_;rotate_left
     ·simp only[Act.put,List.setIfInBounds_toArray,List.set_cons_zero,List.set_cons_succ,qaj,qak];rfl
     refine qaq (i:=6) (N:=some 24) (v:=undef) (a':=?_) #[true,true,true,true,true,true,true,false,false,false,false,false] rfl rfl (qam HT_.out (by kernel_rfl)) (fun _ _ _ h=>h) (Or.inr ⟨by rfl,rfl⟩) ?_ ?_;rotate_left
     ·simp only[Act.put,List.setIfInBounds_toArray,List.set_cons_zero,List.set_cons_succ,qaj,qak];rfl
     refine qaq (i:=7) (N:=some 25) (v:=undef) (a':=?_) #[true,true,true,true,true,true,true,true,false,false,false,false] rfl rfl (qam HT_.out (by kernel_rfl)) (fun _ _ _ h=>h) (Or.inr ⟨by rfl,rfl⟩) ?_ ?_;rotate_left
     ·simp only[Act.put,List.setIfInBounds_toArray,List.set_cons_zero,List.set_cons_succ,qaj,qak];rfl
     refine qaq (i:=8) (N:=some 26) (v:=undef) (a':=?_) #[true,true,true,true,true,true,true,true,true,false,false,false] rfl rfl (qam HT_.out (by kernel_rfl)) (fun _ _ _ h=>h) (Or.inr ⟨by rfl,rfl⟩) ?_ ?_;rotate_left
     ·simp only[Act.put,List.setIfInBounds_toArray,List.set_cons_zero,List.set_cons_succ,qaj,qak];rfl
     refine qaq (i:=9) (N:=some 27) (v:=undef) (a':=?_) #[true,true,true,true,true,true,true,true,true,true,false,false] rfl rfl (qam HT_.out (by kernel_rfl)) (fun _ _ _ h=>h) (Or.inr ⟨by rfl,rfl⟩) ?_ ?_;rotate_left
     ·simp only[Act.put,List.setIfInBounds_toArray,List.set_cons_zero,List.set_cons_succ,qaj,qak];rfl
     refine qaq (i:=10) (N:=some 28) (v:=?_) (a':=?_) #[true,true,true,true,true,true,true,true,true,true,true,false] rfl rfl (qam HT_.out (by kernel_rfl)) (fun _ _ _ h=>h) (Or.inl ⟨by rfl,?_⟩) ?_ ?_;rotate_left
     ·intro w';go_simp
      with_reducible rfl
     rotate_left
     ·simp only[Act.put,List.setIfInBounds_toArray,List.set_cons_zero,List.set_cons_succ,qaj,qak];rfl
     refine qaq (i:=11) (N:=some 4) (v:=?_) (a':=?_) #[true,true,true,true,true,true,true,true,true,true,true,true] rfl rfl (qam HT_.out (by kernel_rfl)) (fun _ _ _ h=>h) (Or.inl ⟨by rfl,?_⟩) ?_ ?_;rotate_left
     ·intro w';go_simp
      with_reducible rfl
     rotate_left
     ·simp only[Act.put,List.setIfInBounds_toArray,List.set_cons_zero,List.set_cons_succ,qaj,qak];rfl
     refine done_ (done_of HT_.out (by kernel_rfl)) ?_
     try go_wp2
     go_ret;exact⟨by first|rfl|(simp[qan,qao]<;>rfl)|(simp only[←hji3];first|rfl|(simp[qan,qao]<;>rfl))|(simp[*,qan,qao]<;>rfl),za4 HB GE397 GE398⟩
   ·rw[if_neg c6] at H;have c6b0:(a1_0 == 1)=false:=beq_eq_false_iff_ne.mpr c6;have c6b1:(a1_0 != 1)=true:=bne_iff_ne.mpr c6;by_cases c23:a1_0=2
    ·rw[if_pos c23] at H;have c23b0:(a1_0 == 2)=true:=beq_iff_eq.mpr c23;have c23b1:(a1_0 != 2)=false:=bne_eq_false_iff_eq.mpr c23;clear c23;obtain rfl:=Option.some.inj H;go_enter Try.func90,Try.ntmps90
     go_wp2_with(first|((with_reducible refine qai (N:=2) rfl ?_);refine zX (N:=2) (cs:=#[.int .i64 a0_0,.slice A0_1 l0_1.length c0_1]) (t:=38) ?_;intro gb397 hg w24 hbox hb;have BK397:=qae.mk hbox;have GW397:=zH (w:=w) hg (za3 HB);have GE397:=GW397;replace HB:=qae.mk (qad (za3 HB) hb);clear hb hbox hg)|((with_reducible refine qai (N:=3) rfl ?_);refine zX (N:=3) (cs:=#[.int .i64 a1_0,.int .i64 a1_1,.slice A1_2 l1_2.length c1_2]) (t:=32) ?_;intro gb398 hg w25 hbox hb;have BK398:=qae.mk hbox;have GW398:=zH (w:=w) hg (za1 HB GE397);have GE398:=GW398;replace HB:=qae.mk (qad (za1 HB GE397) hb);have NB397_398:=zL BK397 hg;have NB398_397:=zG BK397 hg;replace BK397:=zY BK397 hb;clear hb hbox hg;have hnb26:=NB397_398.out;have hnc26:=NB398_397.out;obtain⟨hcz27_0,hcz27_1,hfz27_0,hfz27_1⟩:=zC2 BK397;obtain⟨hcz28_0,hcz28_1,hcz28_2,hfz28_0,hfz28_1,hfz28_2⟩:=zC3 BK398;have p399:0≤((ji3):Int):=of_decide_eq_true (za6);have q399:(ji3)<(l0_1.length:Int):=of_decide_eq_true (za6);obtain⟨ad399,e399,hx399_0,hx399_1⟩:=at_T49 HR0_1.out (ji3) p399 q399;cases e399;replace hx399_0:=(HB.out.cell (World.block_lt_of_cell? w _ hx399_0)).trans hx399_0;replace hx399_1:=(HB.out.cell (World.block_lt_of_cell? w _ hx399_1)).trans hx399_1;replace p399:=eq_true p399;replace q399:=eq_true q399))
     go_ret;exact⟨by first|rfl|(simp[qan,qao]<;>rfl)|(simp only[←hji3];first|rfl|(simp[qan,qao]<;>rfl))|(simp[*,qan,qao]<;>rfl),za4 HB GE397 GE398⟩
    ·rw[if_neg c23] at H;have c23b0:(a1_0 == 2)=false:=beq_eq_false_iff_ne.mpr c23;have c23b1:(a1_0 != 2)=true:=bne_iff_ne.mpr c23;by_cases c29:a1_0=3
     ·rw[if_pos c29] at H;have c29b0:(a1_0 == 3)=true:=beq_iff_eq.mpr c29;have c29b1:(a1_0 != 3)=false:=bne_eq_false_iff_eq.mpr c29;clear c29;by_cases c30:((rd_T49 l0_1 (ji3)).f1)=1
      ·rw[if_pos c30] at H;have c30b0:(((rd_T49 l0_1 (ji3)).f1) == 1)=true:=beq_iff_eq.mpr c30;have c30b1:(((rd_T49 l0_1 (ji3)).f1) != 1)=false:=bne_eq_false_iff_eq.mpr c30;clear c30;obtain rfl:=Option.some.inj H;go_enter Try.func90,Try.ntmps90
       go_wp2_with(first|((with_reducible refine qai (N:=2) rfl ?_);refine zX (N:=2) (cs:=#[.int .i64 a0_0,.slice A0_1 l0_1.length c0_1]) (t:=38) ?_;intro gb397 hg w31 hbox hb;have BK397:=qae.mk hbox;have GW397:=zH (w:=w) hg (za3 HB);have GE397:=GW397;replace HB:=qae.mk (qad (za3 HB) hb);clear hb hbox hg)|((with_reducible refine qai (N:=3) rfl ?_);refine zX (N:=3) (cs:=#[.int .i64 a1_0,.int .i64 a1_1,.slice A1_2 l1_2.length c1_2]) (t:=32) ?_;intro gb398 hg w32 hbox hb;have BK398:=qae.mk hbox;have GW398:=zH (w:=w) hg (za1 HB GE397);have GE398:=GW398;replace HB:=qae.mk (qad (za1 HB GE397) hb);have NB397_398:=zL BK397 hg;have NB398_397:=zG BK397 hg;replace BK397:=zY BK397 hb;clear hb hbox hg;have hnb33:=NB397_398.out;have hnc33:=NB398_397.out;obtain⟨hcz34_0,hcz34_1,hfz34_0,hfz34_1⟩:=zC2 BK397;obtain⟨hcz35_0,hcz35_1,hcz35_2,hfz35_0,hfz35_1,hfz35_2⟩:=zC3 BK398;have p399:0≤((ji3):Int):=of_decide_eq_true (za6);have q399:(ji3)<(l0_1.length:Int):=of_decide_eq_true (za6);obtain⟨ad399,e399,hx399_0,hx399_1⟩:=at_T49 HR0_1.out (ji3) p399 q399;cases e399;replace hx399_0:=(HB.out.cell (World.block_lt_of_cell? w _ hx399_0)).trans hx399_0;replace hx399_1:=(HB.out.cell (World.block_lt_of_cell? w _ hx399_1)).trans hx399_1;replace p399:=eq_true p399;replace q399:=eq_true q399))
       go_ret;exact⟨by first|rfl|(simp[qan,qao]<;>rfl)|(simp only[←hji3];first|rfl|(simp[qan,qao]<;>rfl))|(simp[*,qan,qao]<;>rfl),za4 HB GE397 GE398⟩
      ·rw[if_neg c30] at H;have c30b0:(((rd_T49 l0_1 (ji3)).f1) == 1)=false:=beq_eq_false_iff_ne.mpr c30;have c30b1:(((rd_T49 l0_1 (ji3)).f1) != 1)=true:=bne_iff_ne.mpr c30;obtain rfl:=Option.some.inj H;go_enter Try.func90,Try.ntmps90
       go_wp2_with(first|((with_reducible refine qai (N:=2) rfl ?_);refine zX (N:=2) (cs:=#[.int .i64 a0_0,.slice A0_1 l0_1.length c0_1]) (t:=38) ?_;intro gb397 hg w36 hbox hb;have BK397:=qae.mk hbox;have GW397:=zH (w:=w) hg (za3 HB);have GE397:=GW397;replace HB:=qae.mk (qad (za3 HB) hb);clear hb hbox hg)|((with_reducible refine qai (N:=3) rfl ?_);refine zX (N:=3) (cs:=#[.int .i64 a1_0,.int .i64 a1_1,.slice A1_2 l1_2.length c1_2]) (t:=32) ?_;intro gb398 hg w37 hbox hb;have BK398:=qae.mk hbox;have GW398:=zH (w:=w) hg (za1 HB GE397);have GE398:=GW398;replace HB:=qae.mk (qad (za1 HB GE397) hb);have NB397_398:=zL BK397 hg;have NB398_397:=zG BK397 hg;replace BK397:=zY BK397 hb;clear hb hbox hg;have hnb38:=NB397_398.out;have hnc38:=NB398_397.out;obtain⟨hcz39_0,hcz39_1,hfz39_0,hfz39_1⟩:=zC2 BK397;obtain⟨hcz40_0,hcz40_1,hcz40_2,hfz40_0,hfz40_1,hfz40_2⟩:=zC3 BK398;have p399:0≤((ji3):Int):=of_decide_eq_true (za6);have q399:(ji3)<(l0_1.length:Int):=of_decide_eq_true (za6);obtain⟨ad399,e399,hx399_0,hx399_1⟩:=at_T49 HR0_1.out (ji3) p399 q399;cases e399;replace hx399_0:=(HB.out.cell (World.block_lt_of_cell? w _ hx399_0)).trans hx399_0;replace hx399_1:=(HB.out.cell (World.block_lt_of_cell? w _ hx399_1)).trans hx399_1;replace p399:=eq_true p399;replace q399:=eq_true q399))
       go_ret;exact⟨by first|rfl|(simp[qan,qao]<;>rfl)|(simp only[←hji3];first|rfl|(simp[qan,qao]<;>rfl))|(simp[*,qan,qao]<;>rfl),za4 HB GE397 GE398⟩
     ·rw[if_neg c29] at H;have c29b0:(a1_0 == 3)=false:=beq_eq_false_iff_ne.mpr c29;have c29b1:(a1_0 != 3)=true:=bne_iff_ne.mpr c29;obtain rfl:=Option.some.inj H;go_enter Try.func90,Try.ntmps90
      go_wp2_with(first|((with_reducible refine qai (N:=2) rfl ?_);refine zX (N:=2) (cs:=#[.int .i64 a0_0,.slice A0_1 l0_1.length c0_1]) (t:=38) ?_;intro gb397 hg w41 hbox hb;have BK397:=qae.mk hbox;have GW397:=zH (w:=w) hg (za3 HB);have GE397:=GW397;replace HB:=qae.mk (qad (za3 HB) hb);clear hb hbox hg)|((with_reducible refine qai (N:=3) rfl ?_);refine zX (N:=3) (cs:=#[.int .i64 a1_0,.int .i64 a1_1,.slice A1_2 l1_2.length c1_2]) (t:=32) ?_;intro gb398 hg w42 hbox hb;have BK398:=qae.mk hbox;have GW398:=zH (w:=w) hg (za1 HB GE397);have GE398:=GW398;replace HB:=qae.mk (qad (za1 HB GE397) hb);have NB397_398:=zL BK397 hg;have NB398_397:=zG BK397 hg;replace BK397:=zY BK397 hb;clear hb hbox hg;have hnb43:=NB397_398.out;have hnc43:=NB398_397.out;obtain⟨hcz44_0,hcz44_1,hfz44_0,hfz44_1⟩:=zC2 BK397;obtain⟨hcz45_0,hcz45_1,hcz45_2,hfz45_0,hfz45_1,hfz45_2⟩:=zC3 BK398;have p399:0≤((ji3):Int):=of_decide_eq_true (za6);have q399:(ji3)<(l0_1.length:Int):=of_decide_eq_true (za6);obtain⟨ad399,e399,hx399_0,hx399_1⟩:=at_T49 HR0_1.out (ji3) p399 q399;cases e399;replace hx399_0:=(HB.out.cell (World.block_lt_of_cell? w _ hx399_0)).trans hx399_0;replace hx399_1:=(HB.out.cell (World.block_lt_of_cell? w _ hx399_1)).trans hx399_1;replace p399:=eq_true p399;replace q399:=eq_true q399))
      go_ret;exact⟨by first|rfl|(simp[qan,qao]<;>rfl)|(simp only[←hji3];first|rfl|(simp[qan,qao]<;>rfl))|(simp[*,qan,qao]<;>rfl),za4 HB GE397 GE398⟩
  ·rw[if_neg c5] at H;exact absurd H (by simp)
 ·rw[if_neg c4] at H;exact absurd H (by simp)
def spec_l2Hold.j0:Nat→Int→Bool→Int→Int→Option (Bool)
 |0,_,_,_,_=>none
 |k+1,x4,x10,x403000,x403001=>if x10=true then((spec_l6In.f x403000 1 3).bind fun t403=>(some t403)) else(if x4=3 then((spec_l6In.f x403000 0 3).bind fun t404=>(some t404)) else(some false))
def spec_l2Hold.f (k:Nat) (a0_0:Int) (a0_1:Int):Option (Bool):=if a0_1=0 then(some (a0_0 == 0)) else(if a0_1=1 then(spec_l2Hold.j0 k a0_1 (a0_1 == 1) a0_0 a0_1) else(spec_l2Hold.j0 k a0_1 (a0_1 == 2) a0_0 a0_1))
theorem spec_l2Hold.mono_l:∀k,(∀y0 y1 y2 y3,LeO (spec_l2Hold.j0 k y0 y1 y2 y3) (spec_l2Hold.j0 (k+1) y0 y1 y2 y3))
 |0=>fun _ _ _ _ r h=>by simp[spec_l2Hold.j0] at h
 |k+1=>by
  have ih0:=spec_l2Hold.mono_l k
  ·intro y0 y1 y2 y3;unfold spec_l2Hold.j0
   repeat' first|(with_reducible exact ih0 _ _ _ _)|(with_reducible exact LeO.refl _)|(with_reducible exact LeO.none _)|(with_reducible refine LeO.ite ?_ ?_)|(with_reducible refine LeO.bind ?_ (fun _=>?_))|exact ih0 _ _ _ _|exact LeO.none _|refine LeO.ite ?_ ?_|refine LeO.bind ?_ (fun _=>?_)
theorem spec_l2Hold.mono:∀a0 a1 k,LeO (spec_l2Hold.f k a0 a1) (spec_l2Hold.f (k+1) a0 a1):=by
 intro a0 a1 k;have ih0:=spec_l2Hold.mono_l k;unfold spec_l2Hold.f
 repeat' first|(with_reducible exact ih0 _ _ _ _)|(with_reducible exact LeO.refl _)|(with_reducible exact LeO.none _)|(with_reducible refine LeO.ite ?_ ?_)|(with_reducible refine LeO.bind ?_ (fun _=>?_))|exact ih0 _ _ _ _|exact LeO.none _|refine LeO.ite ?_ ?_|refine LeO.bind ?_ (fun _=>?_)
set_option maxHeartbeats 8000000 in
set_option maxRecDepth 100000 in
theorem spec_l2Hold.calls (k:Nat) (a0_0:Int) (a0_1:Int) (r:Bool) (w:World) (h:spec_l2Hold.f k a0_0 a0_1=some r) :
  Calls Try.prog 106 #[.agg #[.int .i64 a0_0,.int .i64 a0_1]] w fun e w'=>e=.returned (.bool r)∧Below w.heap.size w w':=by
 have hu49:=Try.underlying49;have HB:=qae.mk (Below.refl w.heap.size w);have H:(if a0_1=0 then(some (a0_0 == 0)) else(if a0_1=1 then(spec_l2Hold.j0 k a0_1 (a0_1 == 1) a0_0 a0_1) else(spec_l2Hold.j0 k a0_1 (a0_1 == 2) a0_0 a0_1)))=some r:=h;clear h;by_cases c2:a0_1=0
 ·rw[if_pos c2] at H;have c2b0:(a0_1 == 0)=true:=beq_iff_eq.mpr c2;have c2b1:(a0_1 != 0)=false:=bne_eq_false_iff_eq.mpr c2;clear c2;obtain rfl:=Option.some.inj H;go_enter Try.func106,Try.ntmps106
  go_wp2_with(first|((with_reducible refine qai (N:=1) rfl ?_);refine zX (N:=1) (cs:=#[.int .i64 a0_0,.int .i64 a0_1]) (t:=49) ?_;intro gb402 hg w3 hbox hb;have BK402:=qae.mk hbox;have GW402:=zH (w:=w) hg (za3 HB);have GE402:=GW402;replace HB:=qae.mk (qad (za3 HB) hb);clear hb hbox hg;obtain⟨hcz4_0,hcz4_1,hfz4_0,hfz4_1⟩:=zC2 BK402))
  go_ret;exact⟨za27,za1 HB GE402⟩
 ·rw[if_neg c2] at H;have c2b0:(a0_1 == 0)=false:=beq_eq_false_iff_ne.mpr c2;have c2b1:(a0_1 != 0)=true:=bne_iff_ne.mpr c2;have HC5:=qae.mk H;clear H;go_enter Try.func106,Try.ntmps106
  go_upto_if 10 with(first|((with_reducible refine qai (N:=1) rfl ?_);refine zX (N:=1) (cs:=#[.int .i64 a0_0,.int .i64 a0_1]) (t:=49) ?_;intro gb402 hg w6 hbox hb;have BK402:=qae.mk hbox;have GW402:=zH (w:=w) hg (za3 HB);have GE402:=GW402;replace HB:=qae.mk (qad (za3 HB) hb);clear hb hbox hg;obtain⟨hcz7_0,hcz7_1,hfz7_0,hfz7_1⟩:=zC2 BK402))
  (try simp only[Act.put,List.setIfInBounds_toArray,List.set_cons_zero,List.set_cons_succ])
  go_cut [10] (fun v10 wc=>∃(kq:Nat) (x10_4:Bool),v10=.bool x10_4∧qae (spec_l2Hold.j0 kq a0_1 x10_4 a0_0 a0_1=some r)∧qae (kq≤k)∧qae (wc.heap[gb402]?=some (.cells #[.int .i64 a0_0,.int .i64 a0_1] 49 (0,0)))∧qae (Below w.heap.size w wc))
  case first=>
   have H:=HC5.out;clear HC5;by_cases c8:a0_1=1
   ·rw[if_pos c8] at H;have c8b0:(a0_1 == 1)=true:=beq_iff_eq.mpr c8;have c8b1:(a0_1 != 1)=false:=bne_eq_false_iff_eq.mpr c8;clear c8;(first|rw[c8b0]|(simp only[qaj,qak];rw[c8b0])|skip);have H':=qae.mk H;clear H;go_wp2
    go_meet
    case rel=>exact⟨_,((a0_1 == 1)),(za46),H',⟨za48⟩,⟨za21 BK402⟩,⟨za1 HB GE402⟩⟩
   ·rw[if_neg c8] at H;have c8b0:(a0_1 == 1)=false:=beq_eq_false_iff_ne.mpr c8;have c8b1:(a0_1 != 1)=true:=bne_iff_ne.mpr c8;(first|rw[c8b0]|(simp only[qaj,qak];rw[c8b0])|skip);have H':=qae.mk H;clear H;go_wp2
    go_meet
    case rel=>exact⟨_,((a0_1 == 2)),(za46),H',⟨za48⟩,⟨za21 BK402⟩,⟨za1 HB GE402⟩⟩
  case rest=>
   clear HC5
   try clear c1
   try clear c2
   try clear c2b0
   try clear c2b1
   try clear p2
   try clear c8
   try clear c8b0
   try clear c8b1
   try clear hcz4_0
   try clear hcz4_1
   try clear hcz7_0
   try clear hcz7_1
   try clear hfz4_0
   try clear hfz4_1
   try clear hfz7_0
   try clear hfz7_1
   obtain⟨kq,x10_4,rfl,HA,HJ4,BK402,HB⟩:=hcut
   cases kq with
   |zero=>exact absurd HA.out (by simp[spec_l2Hold.j0])
   |succ kj4=>
    have H:=HA.out;clear HA;simp only[spec_l2Hold.j0] at H;by_cases c9:x10_4=true
    ·subst c9
     have H1:((spec_l6In.f a0_0 1 3).bind fun t403=>(some t403))=some r:=by rw[if_pos rfl] at H;exact H
     clear H;have H:=H1;clear H1;replace H:=Option.bind_eq_some_iff.mp H;obtain⟨t403,A100,H⟩:=H;replace H:(some t403)=some r:=H;have A10:=qae.mk A100;clear A100;obtain rfl:=Option.some.inj H;obtain⟨hcz11_0,hcz11_1,hfz11_0,hfz11_1⟩:=zC2 BK402
     go_wp2_with(first|((with_reducible refine qag (f:=80) rfl ?_);refine zF (some 15) Try.func80 #[.int .i64 a0_0,.int .i64 1,.int .i64 3] ?_;(with_reducible refine(spec_l6In.calls a0_0 1 3 t403 _ A10.out).mono ?_);rintro e w' ⟨rfl,⟨nd,rfl⟩⟩;refine⟨_,rfl,?_⟩))
     go_ret;exact⟨za27,za1 HB GE402⟩
    ·replace c9:=Bool.eq_false_iff.mpr c9;subst c9
     have H1:(if a0_1=3 then((spec_l6In.f a0_0 0 3).bind fun t404=>(some t404)) else(some false))=some r:=by rw[if_neg (show ¬(false=true) by decide)] at H;exact H
     clear H;have H:=H1;clear H1;by_cases c12:a0_1=3
     ·rw[if_pos c12] at H;have c12b0:(a0_1 == 3)=true:=beq_iff_eq.mpr c12;have c12b1:(a0_1 != 3)=false:=bne_eq_false_iff_eq.mpr c12;clear c12;replace H:=Option.bind_eq_some_iff.mp H;obtain⟨t404,A130,H⟩:=H;replace H:(some t404)=some r:=H;have A13:=qae.mk A130;clear A130;obtain rfl:=Option.some.inj H;obtain⟨hcz14_0,hcz14_1,hfz14_0,hfz14_1⟩:=zC2 BK402
      go_wp2_with(first|((with_reducible refine qag (f:=80) rfl ?_);refine zF (some 20) Try.func80 #[.int .i64 a0_0,.int .i64 0,.int .i64 3] ?_;(with_reducible refine(spec_l6In.calls a0_0 0 3 t404 _ A13.out).mono ?_);rintro e w' ⟨rfl,⟨nd,rfl⟩⟩;refine⟨_,rfl,?_⟩))
      go_ret;exact⟨za27,za1 HB GE402⟩
     ·rw[if_neg c12] at H;have c12b0:(a0_1 == 3)=false:=beq_eq_false_iff_ne.mpr c12;have c12b1:(a0_1 != 3)=true:=bne_iff_ne.mpr c12;obtain rfl:=Option.some.inj H;go_wp2;go_ret;exact⟨za27,za1 HB GE402⟩
def spec_StockOk.l0:Nat→Int→Int→List (S49)→Option (Bool)
 |0,_,_,_=>none
 |k+1,x3,x406000,x406001=>if x3<(x406001.length:Int) then(if 0≤x3 then((spec_l2Hold.f k ((rd_T49 x406001 x3).f0) ((rd_T49 x406001 x3).f1)).bind fun t407=>(if t407=true then(spec_StockOk.l0 k (wrap64 (x3+1)) x406000 x406001) else(some false))) else(none)) else((spec_l6In.f x406000 0 9).bind fun t408=>(if t408=true then(if(x406001.length:Int)=6 then((spec_l2Free.f k x406000 x406001).bind fun t409=>(some (decide (t409≥0)))) else(some false)) else(some false)))
def spec_StockOk.f (k:Nat) (a0_0:Int) (l0_1:List (S49)):Option (Bool):=spec_StockOk.l0 k 0 a0_0 l0_1
theorem spec_StockOk.mono_l:∀k,(∀y0 y1 y2,LeO (spec_StockOk.l0 k y0 y1 y2) (spec_StockOk.l0 (k+1) y0 y1 y2))
 |0=>fun _ _ _ r h=>by simp[spec_StockOk.l0] at h
 |k+1=>by
  have ih0:=spec_StockOk.mono_l k
  ·intro y0 y1 y2;unfold spec_StockOk.l0
   repeat' first|(with_reducible exact ih0 _ _ _)|(with_reducible exact spec_l2Free.mono _ _ _)|(with_reducible exact spec_l2Hold.mono _ _ _)|(with_reducible exact LeO.refl _)|(with_reducible exact LeO.none _)|(with_reducible refine LeO.ite ?_ ?_)|(with_reducible refine LeO.bind ?_ (fun _=>?_))|exact ih0 _ _ _|exact spec_l2Free.mono _ _ _|exact spec_l2Hold.mono _ _ _|exact LeO.none _|refine LeO.ite ?_ ?_|refine LeO.bind ?_ (fun _=>?_)
theorem spec_StockOk.mono:∀a0 a1 k,LeO (spec_StockOk.f k a0 a1) (spec_StockOk.f (k+1) a0 a1):=by
 intro a0 a1 k;have ih0:=spec_StockOk.mono_l k;unfold spec_StockOk.f
 repeat' first|(with_reducible exact ih0 _ _ _)|(with_reducible exact spec_l2Free.mono _ _ _)|(with_reducible exact spec_l2Hold.mono _ _ _)|(with_reducible exact LeO.refl _)|(with_reducible exact LeO.none _)|(with_reducible refine LeO.ite ?_ ?_)|(with_reducible refine LeO.bind ?_ (fun _=>?_))|exact ih0 _ _ _|exact spec_l2Free.mono _ _ _|exact spec_l2Hold.mono _ _ _|exact LeO.none _|refine LeO.ite ?_ ?_|refine LeO.bind ?_ (fun _=>?_)
set_option maxHeartbeats 8000000 in
set_option maxRecDepth 100000 in
theorem spec_StockOk.calls (k:Nat) (a0_0:Int) (A0_1:Option Addr) (c0_1:Nat) (l0_1:List (S49)) (r:Bool) (w:World) (hr0_1:Kd.C k49 w A0_1 l0_1.length l0_1) (hc0_1:l0_1.length≤c0_1) (h:spec_StockOk.f k a0_0 l0_1=some r) :
  Calls Try.prog 92 #[.agg #[.int .i64 a0_0,.slice A0_1 l0_1.length c0_1]] w fun e w'=>e=.returned (.bool r)∧Below w.heap.size w w':=by
 have hu38:=Try.underlying38;have hu49:=Try.underlying49;have HR0_1:=qae.mk hr0_1;have HC0_1:=qae.mk hc0_1;clear hr0_1 hc0_1;have HB:=qae.mk (Below.refl w.heap.size w);have H:(spec_StockOk.l0 k 0 a0_0 l0_1)=some r:=h;clear h;have H':=qae.mk H;clear H;go_enter Try.func92,Try.ntmps92
 go_wp2_with(first|((with_reducible refine qai (N:=1) rfl ?_);(try(refine gate_guard (by rfl) ?_;dsimp only));refine zX (N:=1) (cs:=#[.int .i64 a0_0,.slice A0_1 l0_1.length c0_1]) (t:=38) ?_;intro gb405 hg w2 hbox hb;have BK405:=qae.mk hbox;have GW405:=zH (w:=w) hg (za3 HB);have GE405:=GW405;replace HB:=qae.mk (qad (za3 HB) hb);clear hb hbox hg))
 go_loopg [3] k (fun kq v3 w'=>∃(x3_1:Int),v3=.int .i64 x3_1∧qae (spec_StockOk.l0 kq x3_1 a0_0 l0_1=some r)∧qae (kq≤k)∧qae (w'.heap[gb405]?=some (.cells #[.int .i64 a0_0,(.slice A0_1 l0_1.length c0_1)] 38 (0,0)))∧qae (Below w.heap.size w w'))
 case atStart=>exact⟨(0),(za46),H',⟨Nat.le_refl _⟩,⟨za21 BK405⟩,⟨za1 HB GE405⟩⟩
 case round=>
  clear H'
  try clear p2
  obtain⟨x3_1,rfl,HA,HK1,BK405,HB⟩:=hrel
  cases gk with
  |zero=>exact absurd HA.out (by simp[spec_StockOk.l0])
  |succ k1=>
   have H:=HA.out;clear HA;simp only[spec_StockOk.l0] at H;by_cases c3:x3_1<(l0_1.length:Int)
   ·rw[if_pos c3] at H;have c3b0:decide (x3_1<(l0_1.length:Int))=true:=decide_eq_true c3;clear c3;by_cases c4:0≤x3_1
    ·rw[if_pos c4] at H;have c4b0:decide (0≤x3_1)=true:=decide_eq_true c4;clear c4;replace H:=Option.bind_eq_some_iff.mp H;obtain⟨t407,A50,H⟩:=H;replace H:(if t407=true then(spec_StockOk.l0 k1 (wrap64 (x3_1+1)) a0_0 l0_1) else(some false))=some r:=H;have A5:=qae.mk A50;clear A50;by_cases c6:t407=true
     ·subst c6
      have H1:(spec_StockOk.l0 k1 (wrap64 (x3_1+1)) a0_0 l0_1)=some r:=by rw[if_pos rfl] at H;exact H
      clear H;have H:=H1;clear H1;have H':=qae.mk H;clear H;obtain⟨hcz7_0,hcz7_1,hfz7_0,hfz7_1⟩:=zC2 BK405;have p406:0≤(x3_1:Int):=of_decide_eq_true (za6);have q406:x3_1<(l0_1.length:Int):=of_decide_eq_true (za6);obtain⟨ad406,e406,hx406_0,hx406_1⟩:=at_T49 HR0_1.out x3_1 p406 q406
      cases e406
      replace hx406_0:=(HB.out.cell (World.block_lt_of_cell? w _ hx406_0)).trans hx406_0;replace hx406_1:=(HB.out.cell (World.block_lt_of_cell? w _ hx406_1)).trans hx406_1;replace p406:=eq_true p406;replace q406:=eq_true q406
      go_wp2_with(first|((with_reducible refine qag (f:=106) rfl ?_);refine zF (some 16) Try.func106 #[.agg #[.int .i64 ((rd_T49 l0_1 x3_1).f0),.int .i64 ((rd_T49 l0_1 x3_1).f1)]] ?_;(with_reducible refine(spec_l2Hold.calls k1 ((rd_T49 l0_1 x3_1).f0) ((rd_T49 l0_1 x3_1).f1) true _ A5.out).mono ?_);rintro e w8 ⟨rfl,hb⟩;refine⟨_,rfl,?_⟩;replace BK405:=zY BK405 hb;replace HB:=qae.mk (qad (za1 HB GE405) hb);(try clear hb)))
      go_roundg k1
      case measure=>have:=HK1.out;omega
      case rel=>exact⟨(wrap64 (x3_1+1)),(za46),H',⟨by have:=HK1.out;omega⟩,⟨za21 BK405⟩,⟨za1 HB GE405⟩⟩
     ·replace c6:=Bool.eq_false_iff.mpr c6;subst c6
      have H1:(some false)=some r:=by rw[if_neg (show ¬(false=true) by decide)] at H;exact H
      clear H;have H:=H1;clear H1;obtain rfl:=Option.some.inj H;obtain⟨hcz9_0,hcz9_1,hfz9_0,hfz9_1⟩:=zC2 BK405;have p406:0≤(x3_1:Int):=of_decide_eq_true (za6);have q406:x3_1<(l0_1.length:Int):=of_decide_eq_true (za6);obtain⟨ad406,e406,hx406_0,hx406_1⟩:=at_T49 HR0_1.out x3_1 p406 q406
      cases e406
      replace hx406_0:=(HB.out.cell (World.block_lt_of_cell? w _ hx406_0)).trans hx406_0;replace hx406_1:=(HB.out.cell (World.block_lt_of_cell? w _ hx406_1)).trans hx406_1;replace p406:=eq_true p406;replace q406:=eq_true q406
      go_wp2_with(first|((with_reducible refine qag (f:=106) rfl ?_);refine zF (some 16) Try.func106 #[.agg #[.int .i64 ((rd_T49 l0_1 x3_1).f0),.int .i64 ((rd_T49 l0_1 x3_1).f1)]] ?_;(with_reducible refine(spec_l2Hold.calls k1 ((rd_T49 l0_1 x3_1).f0) ((rd_T49 l0_1 x3_1).f1) false _ A5.out).mono ?_);rintro e w10 ⟨rfl,hb⟩;refine⟨_,rfl,?_⟩;replace BK405:=zY BK405 hb;replace HB:=qae.mk (qad (za1 HB GE405) hb);(try clear hb)))
      go_ret;exact⟨za27,za1 HB GE405⟩
    ·rw[if_neg c4] at H;exact absurd H (by simp)
   ·rw[if_neg c3] at H;have c3b0:decide (x3_1<(l0_1.length:Int))=false:=decide_eq_false c3;clear c3;replace H:=Option.bind_eq_some_iff.mp H;obtain⟨t408,A110,H⟩:=H;replace H:(if t408=true then(if(l0_1.length:Int)=6 then((spec_l2Free.f k1 a0_0 l0_1).bind fun t409=>(some (decide (t409≥0)))) else(some false)) else(some false))=some r:=H;have A11:=qae.mk A110;clear A110;by_cases c12:t408=true
    ·subst c12
     have H1:(if(l0_1.length:Int)=6 then((spec_l2Free.f k1 a0_0 l0_1).bind fun t409=>(some (decide (t409≥0)))) else(some false))=some r:=by rw[if_pos rfl] at H;exact H
     clear H;have H:=H1;clear H1;by_cases c13:(l0_1.length:Int)=6
     ·rw[if_pos c13] at H;have c13b0:((l0_1.length:Int) == 6)=true:=beq_iff_eq.mpr c13;have c13b1:((l0_1.length:Int) != 6)=false:=bne_eq_false_iff_eq.mpr c13;clear c13;replace H:=Option.bind_eq_some_iff.mp H;obtain⟨t409,A140,H⟩:=H;replace H:(some (decide (t409≥0)))=some r:=H;have A14:=qae.mk A140;clear A140;obtain rfl:=Option.some.inj H;obtain⟨hcz15_0,hcz15_1,hfz15_0,hfz15_1⟩:=zC2 BK405
      go_wp2_with(first|((with_reducible refine qag (f:=80) rfl ?_);refine zF (some 20) Try.func80 #[.int .i64 a0_0,.int .i64 0,.int .i64 9] ?_;(with_reducible refine(spec_l6In.calls a0_0 0 9 true _ A11.out).mono ?_);rintro e w' ⟨rfl,⟨nd,rfl⟩⟩;refine⟨_,rfl,?_⟩)|(go_at_call 105;(with_reducible refine(spec_l2Free.calls k1 a0_0 _ _ l0_1 t409 _ ?side1 ?side2 A14.out).mono ?_);(case side1=>repeat(first|exact(Kd.C_below HR0_1.out (za1 HB GE405))|(with_reducible refine Kd.C_alloc ?_ _)|(with_reducible refine Kd.C_drewN ?_ _)|(with_reducible refine Kd.C_drew ?_)));(case side2=>exact HC0_1.out);rintro e w16 ⟨rfl,hb⟩;replace BK405:=zY BK405 hb;replace HB:=qae.mk (qad (za1 HB GE405) hb);(try clear hb)))
      go_ret;exact⟨za27,za1 HB GE405⟩
     ·rw[if_neg c13] at H;have c13b0:((l0_1.length:Int) == 6)=false:=beq_eq_false_iff_ne.mpr c13;have c13b1:((l0_1.length:Int) != 6)=true:=bne_iff_ne.mpr c13;obtain rfl:=Option.some.inj H;obtain⟨hcz17_0,hcz17_1,hfz17_0,hfz17_1⟩:=zC2 BK405
      go_wp2_with(first|((with_reducible refine qag (f:=80) rfl ?_);refine zF (some 20) Try.func80 #[.int .i64 a0_0,.int .i64 0,.int .i64 9] ?_;(with_reducible refine(spec_l6In.calls a0_0 0 9 true _ A11.out).mono ?_);rintro e w' ⟨rfl,⟨nd,rfl⟩⟩;refine⟨_,rfl,?_⟩))
      go_ret;exact⟨za27,za1 HB GE405⟩
    ·replace c12:=Bool.eq_false_iff.mpr c12;subst c12
     have H1:(some false)=some r:=by rw[if_neg (show ¬(false=true) by decide)] at H;exact H
     clear H;have H:=H1;clear H1;obtain rfl:=Option.some.inj H;obtain⟨hcz18_0,hcz18_1,hfz18_0,hfz18_1⟩:=zC2 BK405
     go_wp2_with(first|((with_reducible refine qag (f:=80) rfl ?_);refine zF (some 20) Try.func80 #[.int .i64 a0_0,.int .i64 0,.int .i64 9] ?_;(with_reducible refine(spec_l6In.calls a0_0 0 9 false _ A11.out).mono ?_);rintro e w' ⟨rfl,⟨nd,rfl⟩⟩;refine⟨_,rfl,?_⟩))
     go_ret;exact⟨za27,za1 HB GE405⟩
end Go.Proofs.Ytmbdphefnalenaa.Print
