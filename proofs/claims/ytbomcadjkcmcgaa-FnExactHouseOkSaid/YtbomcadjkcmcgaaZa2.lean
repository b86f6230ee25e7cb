-- Written by squeeze.py, a program of this session, out of what print.sh and myprint.py had printed: cut to what is used, narrowed. Not trusted, Lean checks it.
import Derived.Test.YtbomcadjkcmcgaaZK
import Derived.Test.YtbomcadjkcmcgaaZa1
namespace Go.Proofs.Ytbomcadjkcmcgaa.Print
open Go.RowKit Go.Proofs.YtbomcadjkcmcgaaW.PrintWords Go.Proofs.YtbomcadjkcmcgaaW.PrintLast Go.Proofs.YtbomcadjkcmcgaaW.PrintMore
attribute [local go_sem] max2_int min2_int max_two min_two max_three min_three max_four min_four
set_option linter.unusedVariables false
set_option linter.unusedSimpArgs false
def spec_l2May.f (k:Nat) (a0_0:Int) (l0_1:List (S72)) (a1_0:Int) (a1_1:Int) (l1_2:List Int):Option (Bool):=if 0≤(wrap64 (a1_1 - 1)) then(if(wrap64 (a1_1 - 1))<(l0_1.length:Int) then(if a1_0=1 then(if((rd_T72 l0_1 (wrap64 (a1_1 - 1))).f1)=0 then(if 0<(l1_2.length:Int) then((spec_l2Free.f k a0_0 l0_1).bind fun t132=>(some (decide ((rd l1_2 0)≤t132)))) else(none)) else(some false)) else(if a1_0=2 then(some (((rd_T72 l0_1 (wrap64 (a1_1 - 1))).f1) == 1)) else(if a1_0=3 then(if((rd_T72 l0_1 (wrap64 (a1_1 - 1))).f1)=1 then(some true) else(some (((rd_T72 l0_1 (wrap64 (a1_1 - 1))).f1) == 0))) else(some false)))) else(none)) else(none)
theorem spec_l2May.mono:∀a0 a1 a2 a3 a4 k,LeO (spec_l2May.f k a0 a1 a2 a3 a4) (spec_l2May.f (k+1) a0 a1 a2 a3 a4):=by
 intro a0 a1 a2 a3 a4 k
 unfold spec_l2May.f
 repeat' first
   |(with_reducible exact spec_l2Free.mono _ _ _)
   |(with_reducible exact LeO.refl _)
   |(with_reducible exact LeO.none _)
   |(with_reducible refine LeO.ite ?_ ?_)
   |(with_reducible refine LeO.bind ?_ (fun _=>?_))
   |exact spec_l2Free.mono _ _ _
   |exact LeO.none _
   |refine LeO.ite ?_ ?_
   |refine LeO.bind ?_ (fun _=>?_)
def spec_l2May.T4:Bool × List (List Nat × List Nat):=(true,[([],[]),([0],[0]),([1],[1]),([2],[2]),([3,2],[2,3]),([4,2],[2,4]),([5,2],[2,5]),([2],[2]),([7,2,2],[2,7]),([6,8,2],[2,6,8]),([2,9],[2,9]),([10,8,0,1,2,3,4,5,6,7,8,9,10],[10])])
def spec_l2May.B4:List Nat:=[0,1,3,7,15,31,63,7,135,511,1023,2047]
theorem spec_l2May.tab4:rtab .any (opsOf Try.f34 4)=spec_l2May.T4:=by kernel_rfl
theorem spec_l2May.bits4:waitsOk spec_l2May.T4.2 spec_l2May.B4=true:=by kernel_rfl
set_option maxHeartbeats 8000000 in
set_option maxRecDepth 100000 in
theorem spec_l2May.calls (k:Nat) (a0_0:Int) (A0_1:Option Addr) (c0_1:Nat) (l0_1:List (S72)) (a1_0:Int) (a1_1:Int) (A1_2:Option Addr) (c1_2:Nat) (l1_2:List Int) (r:Bool) (w:World) (hr0_1:Kd.C k72 w A0_1 l0_1.length l0_1) (hc0_1:l0_1.length≤c0_1) (hr1_2:Kd.C (Kd.int .i64) w A1_2 l1_2.length l1_2) (hc1_2:l1_2.length≤c1_2) (h:spec_l2May.f k a0_0 l0_1 a1_0 a1_1 l1_2=some r) :
  Calls Try.prog 34 #[.agg #[.int .i64 a0_0,.slice A0_1 l0_1.length c0_1],.agg #[.int .i64 a1_0,.int .i64 a1_1,.slice A1_2 l1_2.length c1_2]] w fun e w'=>e=.returned (.bool r)∧Below w.heap.size w w':=by
 have hu39:=Try.underlying39
 have hu62:=Try.underlying62
 have HR0_1:=qam.mk hr0_1
 have HC0_1:=qam.mk hc0_1
 clear hr0_1 hc0_1
 have HR1_2:=qam.mk hr1_2
 have HC1_2:=qam.mk hc1_2
 clear hr1_2 hc1_2
 have HB:=qam.mk (Below.refl w.heap.size w)
 have H:(if 0≤(wrap64 (a1_1 - 1)) then(if(wrap64 (a1_1 - 1))<(l0_1.length:Int) then(if a1_0=1 then(if((rd_T72 l0_1 (wrap64 (a1_1 - 1))).f1)=0 then(if 0<(l1_2.length:Int) then((spec_l2Free.f k a0_0 l0_1).bind fun t132=>(some (decide ((rd l1_2 0)≤t132)))) else(none)) else(some false)) else(if a1_0=2 then(some (((rd_T72 l0_1 (wrap64 (a1_1 - 1))).f1) == 1)) else(if a1_0=3 then(if((rd_T72 l0_1 (wrap64 (a1_1 - 1))).f1)=1 then(some true) else(some (((rd_T72 l0_1 (wrap64 (a1_1 - 1))).f1) == 0))) else(some false)))) else(none)) else(none))=some r:=h
 clear h
 obtain⟨ji3,hji3⟩:∃j_:Int,(wrap64 (a1_1 - 1))=j_:=⟨_,rfl⟩
 replace H:(if 0≤(ji3) then(if(ji3)<(l0_1.length:Int) then(if a1_0=1 then(if((rd_T72 l0_1 (ji3)).f1)=0 then(if 0<(l1_2.length:Int) then((spec_l2Free.f k a0_0 l0_1).bind fun t132=>(some (decide ((rd l1_2 0)≤t132)))) else(none)) else(some false)) else(if a1_0=2 then(some (((rd_T72 l0_1 (ji3)).f1) == 1)) else(if a1_0=3 then(if((rd_T72 l0_1 (ji3)).f1)=1 then(some true) else(some (((rd_T72 l0_1 (ji3)).f1) == 0))) else(some false)))) else(none)) else(none))=some r:=by first|(rw[hji3] at H;exact H)|(simp only[hji3] at H ⊢;exact H)
 have hji3w:(IntKind.i64.wrap (a1_1 - 1))=ji3:=(qao _).trans hji3
 by_cases c4:0≤(ji3)
 ·rw[if_pos c4] at H
  have c4b0:decide (0≤(ji3))=true:=decide_eq_true c4
  clear c4
  by_cases c5:(ji3)<(l0_1.length:Int)
  ·rw[if_pos c5] at H
   have c5b0:decide ((ji3)<(l0_1.length:Int))=true:=decide_eq_true c5
   clear c5
   by_cases c6:a1_0=1
   ·rw[if_pos c6] at H
    have c6b0:(a1_0 == 1)=true:=beq_iff_eq.mpr c6
    have c6b1:(a1_0 != 1)=false:=bne_eq_false_iff_eq.mpr c6
    clear c6
    by_cases c7:((rd_T72 l0_1 (ji3)).f1)=0
    ·rw[if_pos c7] at H
     have c7b0:(((rd_T72 l0_1 (ji3)).f1) == 0)=true:=beq_iff_eq.mpr c7
     have c7b1:(((rd_T72 l0_1 (ji3)).f1) != 0)=false:=bne_eq_false_iff_eq.mpr c7
     clear c7
     by_cases c8:0<(l1_2.length:Int)
     ·rw[if_pos c8] at H
      have c8b0:decide (0<(l1_2.length:Int))=true:=decide_eq_true c8
      have c8b1:decide (0<l1_2.length)=true:=decide_eq_true (by omega)
      clear c8
      replace H:=Option.bind_eq_some_iff.mp H
      obtain⟨t132,A90,H⟩:=H
      replace H:(some (decide ((rd l1_2 0)≤t132)))=some r:=H
      have A9:=qam.mk A90
      clear A90
      obtain rfl:=Option.some.inj H
      go_enter Try.func34,Try.ntmps34
      try go_wp2_with(first|((with_reducible refine qak (N:=2) rfl ?_);refine qai ?hg (N:=2) ?hd (cs:=#[.int .i64 a0_0,.slice A0_1 l0_1.length c0_1]) (t:=39) ?hr ?_;(case hd=>rfl);(case hg=>rfl);(case hr=>first|(go_simp;done)|(go_simp;rfl));intro gb128 hg w10 hbox hb;have n0_:=qam.mk (qad (za2 HB) hb);have n1_:=qam.mk (hbox);have n2_:=qam.mk ((by rw[hg];exact(qac (za2 HB)):w.heap.size≤gb128));have n3_:=qam.mk ((by rw[hg];exact(qac (za2 HB)):w.heap.size≤gb128));clear HB;have HB:=n0_;have BK128:=n1_;have GW128:=n2_;have GE128:=n3_;clear n0_ n1_ n2_ n3_;clear hb hbox hg)|((with_reducible refine qak (N:=3) rfl ?_);refine qai ?hg (N:=3) ?hd (cs:=#[.int .i64 a1_0,.int .i64 a1_1,.slice A1_2 l1_2.length c1_2]) (t:=62) ?hr ?_;(case hd=>rfl);(case hg=>rfl);(case hr=>first|(go_simp;done)|(go_simp;rfl));intro gb129 hg w11 hbox hb;have n0_:=qam.mk (qae (g:=gb128) (o:=.cells #[.int .i64 a0_0,.slice A0_1 l0_1.length c0_1] 39 (0,0)) (za0 BK128) hb);have n1_:=qam.mk (qad (za1 HB GE128) hb);have n2_:=qam.mk (hbox);have n3_:=qam.mk ((by rw[hg];exact(qac (za1 HB GE128)):w.heap.size≤gb129));have n4_:=qam.mk ((by rw[hg];exact(qac (za1 HB GE128)):w.heap.size≤gb129));have n5_:=qam.mk ((by rw[hg];exact Nat.ne_of_lt (qal (g:=gb128) (o:=.cells #[.int .i64 a0_0,.slice A0_1 l0_1.length c0_1] 39 (0,0)) (za0 BK128)):gb128≠gb129));have n6_:=qam.mk ((by rw[hg];exact Nat.ne_of_gt (qal (g:=gb128) (o:=.cells #[.int .i64 a0_0,.slice A0_1 l0_1.length c0_1] 39 (0,0)) (za0 BK128)):gb129≠gb128));clear BK128;clear HB;have BK128:=n0_;have HB:=n1_;have BK129:=n2_;have GW129:=n3_;have GE129:=n4_;have NB128_129:=n5_;have NB129_128:=n6_;clear n0_ n1_ n2_ n3_ n4_ n5_ n6_;clear hb hbox hg;have hnb12:=NB128_129.out;have hnc12:=NB129_128.out;have hcz13_0:w11.cell? ⟨gb128,0,none⟩=some (.int .i64 a0_0):=(qab BK128.out 0).trans rfl;have hcz13_1:w11.cell? ⟨gb128,1,none⟩=some (.slice A0_1 l0_1.length c0_1):=(qab BK128.out 1).trans rfl;have hfz13_0:=qaa BK128.out 0;have hfz13_1:=qaa BK128.out 1;have hcz14_0:w11.cell? ⟨gb129,0,none⟩=some (.int .i64 a1_0):=(qab BK129.out 0).trans rfl;have hcz14_1:w11.cell? ⟨gb129,1,none⟩=some (.int .i64 a1_1):=(qab BK129.out 1).trans rfl;have hcz14_2:w11.cell? ⟨gb129,2,none⟩=some (.slice A1_2 l1_2.length c1_2):=(qab BK129.out 2).trans rfl;have hfz14_0:=qaa BK129.out 0;have hfz14_1:=qaa BK129.out 1;have hfz14_2:=qaa BK129.out 2;have p130:0≤((ji3):Int):=of_decide_eq_true (za6);have q130:(ji3)<(l0_1.length:Int):=of_decide_eq_true (za6);obtain⟨ad130,e130,hx130_0,hx130_1⟩:=at_T72 HR0_1.out (ji3) p130 q130;cases e130;replace hx130_0:=(HB.out.cell (World.block_lt_of_cell? w _ hx130_0)).trans hx130_0;replace hx130_1:=(HB.out.cell (World.block_lt_of_cell? w _ hx130_1)).trans hx130_1;replace p130:=eq_true p130;replace q130:=eq_true q130))
      have n0_:=qam.mk (qaf BK128.out)
      have n1_:=qam.mk (qaf BK129.out)
      have n2_:=qam.mk (below_drew1 HB.out)
      clear BK128
      clear BK129
      clear HB
      have BK128:=n0_
      have BK129:=n1_
      have HB:=n2_
      clear n0_ n1_ n2_
      have p131:0≤(0:Int):=(by omega)
      have q131:0<(l1_2.length:Int):=of_decide_eq_true (za6)
      obtain⟨ad131,e131,hx131_0⟩:=Kd.at_int HR1_2.out 0 p131 q131
      have hw131_0:=hx131_0
      (try rw[show((0:Int)).toNat=0 from rfl] at hw131_0)
      (try rw[show 0*1=0 from rfl] at hw131_0)
      (try rw[Addr.add_zero'] at hw131_0)
      cases e131
      have qi131:(0<l1_2.length)=True:=eq_true (by omega)
      (try rw[show((0:Int)).toNat=0 from rfl] at hx131_0)
      (try rw[Addr.add_zero'] at hx131_0)
      replace hx131_0:=(HB.out.cell (World.block_lt_of_cell? w _ hx131_0)).trans hx131_0
      replace p131:=eq_true p131
      replace q131:=eq_true q131
      refine start_ (n:=12) (S:=fun w'=>w'.cell? ⟨gb129,0,none⟩=some (.int .i64 a1_0)∧w'.cell? ⟨gb129,1,none⟩=some (.int .i64 a1_1)∧w'.cell? ⟨gb129,2,none⟩=some (.slice (some ad131) l1_2.length c1_2)∧w'.cell? ⟨gb128,0,none⟩=some (.int .i64 a0_0)∧w'.cell? ⟨gb128,1,none⟩=some (.slice (some ad130) l0_1.length c0_1)∧w'.cell? ad131=some (.int .i64 (rd l1_2 0))) (ds:=[]) #[false,false,false,false,false,false,false,false,false,false,false,false] (by kernel_rfl) rfl rfl ⟨(qab BK129.out 0).trans rfl,(qab BK129.out 1).trans rfl,(qab BK129.out 2).trans rfl,(qab BK128.out 0).trans rfl,(qab BK128.out 1).trans rfl,((HB.out.cell (World.block_lt_of_cell? w _ hw131_0)).trans hw131_0)⟩ (fun hHeld=>?_);refine with_tabW spec_l2May.tab4 spec_l2May.bits4 (fun HT_ HW_=>?_)
      generalize w11.drew=w15 at BK128 BK129 HB hx131_0 hHeld ⊢
      refine pure_ (i:=0) (N:=some 18) (v:=?_) (a':=?_) #[true,false,false,false,false,false,false,false,false,false,false,false] rfl rfl (qas HT_.out (by kernel_rfl)) (fun _ _ _ h=>h) (Or.inl ⟨by rfl,?_⟩) ?_ ?_
      rotate_left
      ·intro w'
       go_simp
       with_reducible rfl
      rotate_left
      ·simp only[Act.put,List.setIfInBounds_toArray,List.set_cons_zero,List.set_cons_succ,qao,qap]
       rfl
      refine pure_ (i:=1) (N:=some 19) (v:=?_) (a':=?_) #[true,true,false,false,false,false,false,false,false,false,false,false] rfl rfl (qas HT_.out (by kernel_rfl)) (fun _ _ _ h=>h) (Or.inl ⟨by rfl,?_⟩) ?_ ?_
      rotate_left
      ·intro w'
       go_simp
       with_reducible rfl
      rotate_left
      ·simp only[Act.put,List.setIfInBounds_toArray,List.set_cons_zero,List.set_cons_succ,qao,qap]
       rfl
      refine pure_ (i:=2) (N:=some 20) (v:=?_) (a':=?_) #[true,true,true,false,false,false,false,false,false,false,false,false] rfl rfl (qas HT_.out (by kernel_rfl)) (fun _ _ _ h=>h) (Or.inl ⟨by rfl,?_⟩) ?_ ?_
      rotate_left
      ·intro w'
       go_simp
       with_reducible rfl
      rotate_left
      ·simp only[Act.put,List.setIfInBounds_toArray,List.set_cons_zero,List.set_cons_succ,qao,qap]
       rfl
      refine pure_ (i:=3) (N:=some 21) (v:=?_) (a':=?_) #[true,true,true,true,false,false,false,false,false,false,false,false] rfl rfl (qas HT_.out (by kernel_rfl)) (fun _ _ _ h=>h) (Or.inl ⟨by rfl,?_⟩) ?_ ?_
      rotate_left
      ·intro w'
       go_simp
       with_reducible rfl
      rotate_left
      ·simp only[Act.put,List.setIfInBounds_toArray,List.set_cons_zero,List.set_cons_succ,qao,qap]
       rfl
      refine take_ (i:=4) (N:=some 22) (v:=?_) (a':=?_) #[true,true,true,true,true,false,false,false,false,false,false,false] rfl rfl (take_ofW HT_.out HW_.out (by kernel_rfl)) (fun _ _ _ h=>h) (Or.inl ⟨by rfl,?_⟩) hHeld ?_ ?_
      rotate_left
      ·rintro w' ⟨s0,s1,s2,s3,s4,s5⟩
       go_simp
       with_reducible rfl
      rotate_left
      ·simp only[Act.put,List.setIfInBounds_toArray,List.set_cons_zero,List.set_cons_succ,qao,qap]
       rfl
      refine pure_ (i:=5) (N:=some 23) (v:=?_) (a':=?_) #[true,true,true,true,true,true,false,false,false,false,false,false] rfl rfl (qas HT_.out (by kernel_rfl)) (fun _ _ _ h=>h) (Or.inl ⟨by rfl,?_⟩) ?_ ?_
      rotate_left
      ·intro w'
       go_simp
       with_reducible rfl
      rotate_left
      ·simp only[Act.put,List.setIfInBounds_toArray,List.set_cons_zero,List.set_cons_succ,qao,qap]
       rfl
      refine take_ (i:=6) (N:=some 24) (v:=?_) (a':=?_) #[true,true,true,true,true,true,true,false,false,false,false,false] rfl rfl (take_ofW HT_.out HW_.out (by kernel_rfl)) (fun _ _ _ h=>h) (Or.inl ⟨by rfl,?_⟩) hHeld ?_ ?_
      rotate_left
      ·rintro w' ⟨s0,s1,s2,s3,s4,s5⟩
       go_simp
       with_reducible rfl
      rotate_left
      ·simp only[Act.put,List.setIfInBounds_toArray,List.set_cons_zero,List.set_cons_succ,qao,qap]
       rfl
      refine take_ (i:=7) (N:=some 25) (v:=?_) (a':=?_) #[true,true,true,true,true,true,true,true,false,false,false,false] rfl rfl (take_ofW HT_.out HW_.out (by kernel_rfl)) (fun _ _ _ h=>h) (Or.inl ⟨by rfl,?_⟩) hHeld ?_ ?_
      rotate_left
      ·rintro w' ⟨s0,s1,s2,s3,s4,s5⟩
       go_simp
       with_reducible rfl
      rotate_left
      ·simp only[Act.put,List.setIfInBounds_toArray,List.set_cons_zero,List.set_cons_succ,qao,qap]
       rfl
      refine one_ (i:=8) (N:=some 26) #[true,true,true,true,true,true,true,true,true,false,false,false] rfl rfl (one_of HT_.out (by kernel_rfl)) (by decide) (fun K hK=>?_)
      refine goes_ Try.func49 (by kernel_rfl) rfl #[.agg #[.int .i64 a0_0,.slice (some ad130) l0_1.length c0_1]] (by rfl) rfl rfl (by(try simp only[List.map_toArray,List.map_cons,List.map_nil]);first|done|rfl|(simp only[List.length_drop,List.length_take];rfl)) ?_
      with_reducible refine(spec_l2Free.calls k a0_0 _ _ l0_1 t132 _ ?side1 ?side2 A9.out).mono ?_
      (case side1=>repeat(first|exact(Kd.C_below HR0_1.out HB.out)|(with_reducible refine Kd.C_alloc ?_ _)|(with_reducible refine Kd.C_drewN ?_ _)|(with_reducible refine Kd.C_drew ?_)))
      (case side2=>exact HC0_1.out)
      rintro e w16 ⟨rfl,hb⟩
      refine⟨_,rfl,?_⟩
      have n0_:=qam.mk (qae (g:=gb128) (o:=.cells #[.int .i64 a0_0,.slice (some ad130) l0_1.length c0_1] 39 (0,0)) (za0 BK128) hb)
      have n1_:=qam.mk (qae (g:=gb129) (o:=.cells #[.int .i64 a1_0,.int .i64 a1_1,.slice (some ad131) l1_2.length c1_2] 62 (0,0)) (za0 BK129) hb)
      have n2_:=qam.mk (qad (za3 HB GE128 GE129) hb)
      clear BK128
      clear BK129
      clear HB
      have BK128:=n0_
      have BK129:=n1_
      have HB:=n2_
      clear n0_ n1_ n2_
      (try clear hb)
      (try clear hb2)
      (try clear hk)
      (try clear hi)
      refine hK.out _ _ ⟨(qab BK129.out 0).trans rfl,(qab BK129.out 1).trans rfl,(qab BK129.out 2).trans rfl,(qab BK128.out 0).trans rfl,(qab BK128.out 1).trans rfl,((HB.out.cell (World.block_lt_of_cell? w _ hw131_0)).trans hw131_0)⟩ (fun hHeld=>?_)
      clear hK K
      refine norm_ (a':=?_) ?_ ?_
      rotate_left
      ·show Act.put _ (some 26) _=_
       simp only[Act.put,List.setIfInBounds_toArray,List.set_cons_zero,List.set_cons_succ,qao,qap]
       rfl
      refine pure_ (i:=9) (N:=some 27) (v:=?_) (a':=?_) #[true,true,true,true,true,true,true,true,true,true,false,false] rfl rfl (qas HT_.out (by kernel_rfl)) (fun _ _ _ h=>h) (Or.inl ⟨by rfl,?_⟩) ?_ ?_
      rotate_left
      ·intro w'
       go_simp
       with_reducible rfl
      rotate_left
      ·simp only[Act.put,List.setIfInBounds_toArray,List.set_cons_zero,List.set_cons_succ,qao,qap]
       rfl
      refine pure_ (i:=10) (N:=some 28) (v:=?_) (a':=?_) #[true,true,true,true,true,true,true,true,true,true,true,false] rfl rfl (qas HT_.out (by kernel_rfl)) (fun _ _ _ h=>h) (Or.inl ⟨by rfl,?_⟩) ?_ ?_
      rotate_left
      ·intro w'
       go_simp
       with_reducible rfl
      rotate_left
      ·simp only[Act.put,List.setIfInBounds_toArray,List.set_cons_zero,List.set_cons_succ,qao,qap]
       rfl
      refine pure_ (i:=11) (N:=some 4) (v:=?_) (a':=?_) #[true,true,true,true,true,true,true,true,true,true,true,true] rfl rfl (qas HT_.out (by kernel_rfl)) (fun _ _ _ h=>h) (Or.inl ⟨by rfl,?_⟩) ?_ ?_
      rotate_left
      ·intro w'
       go_simp
       with_reducible rfl
      rotate_left
      ·simp only[Act.put,List.setIfInBounds_toArray,List.set_cons_zero,List.set_cons_succ,qao,qap]
       rfl
      refine done_ (done_of HT_.out (by kernel_rfl)) ?_
      try go_wp2
      go_ret
      exact⟨by first|rfl|(simp[qaq,qar]<;>rfl)|(simp only[←hji3];first|rfl|(simp[qaq,qar]<;>rfl))|(simp[*,qaq,qar]<;>rfl),za3 HB GE128 GE129⟩
     ·rw[if_neg c8] at H
      exact absurd H (by simp)
    ·rw[if_neg c7] at H
     have c7b0:(((rd_T72 l0_1 (ji3)).f1) == 0)=false:=beq_eq_false_iff_ne.mpr c7
     have c7b1:(((rd_T72 l0_1 (ji3)).f1) != 0)=true:=bne_iff_ne.mpr c7
     obtain rfl:=Option.some.inj H
     go_enter Try.func34,Try.ntmps34
     try go_wp2_with(first|((with_reducible refine qak (N:=2) rfl ?_);refine qai ?hg (N:=2) ?hd (cs:=#[.int .i64 a0_0,.slice A0_1 l0_1.length c0_1]) (t:=39) ?hr ?_;(case hd=>rfl);(case hg=>rfl);(case hr=>first|(go_simp;done)|(go_simp;rfl));intro gb128 hg w17 hbox hb;have n0_:=qam.mk (qad (za2 HB) hb);have n1_:=qam.mk (hbox);have n2_:=qam.mk ((by rw[hg];exact(qac (za2 HB)):w.heap.size≤gb128));have n3_:=qam.mk ((by rw[hg];exact(qac (za2 HB)):w.heap.size≤gb128));clear HB;have HB:=n0_;have BK128:=n1_;have GW128:=n2_;have GE128:=n3_;clear n0_ n1_ n2_ n3_;clear hb hbox hg)|((with_reducible refine qak (N:=3) rfl ?_);refine qai ?hg (N:=3) ?hd (cs:=#[.int .i64 a1_0,.int .i64 a1_1,.slice A1_2 l1_2.length c1_2]) (t:=62) ?hr ?_;(case hd=>rfl);(case hg=>rfl);(case hr=>first|(go_simp;done)|(go_simp;rfl));intro gb129 hg w18 hbox hb;have n0_:=qam.mk (qae (g:=gb128) (o:=.cells #[.int .i64 a0_0,.slice A0_1 l0_1.length c0_1] 39 (0,0)) (za0 BK128) hb);have n1_:=qam.mk (qad (za1 HB GE128) hb);have n2_:=qam.mk (hbox);have n3_:=qam.mk ((by rw[hg];exact(qac (za1 HB GE128)):w.heap.size≤gb129));have n4_:=qam.mk ((by rw[hg];exact(qac (za1 HB GE128)):w.heap.size≤gb129));have n5_:=qam.mk ((by rw[hg];exact Nat.ne_of_lt (qal (g:=gb128) (o:=.cells #[.int .i64 a0_0,.slice A0_1 l0_1.length c0_1] 39 (0,0)) (za0 BK128)):gb128≠gb129));have n6_:=qam.mk ((by rw[hg];exact Nat.ne_of_gt (qal (g:=gb128) (o:=.cells #[.int .i64 a0_0,.slice A0_1 l0_1.length c0_1] 39 (0,0)) (za0 BK128)):gb129≠gb128));clear BK128;clear HB;have BK128:=n0_;have HB:=n1_;have BK129:=n2_;have GW129:=n3_;have GE129:=n4_;have NB128_129:=n5_;have NB129_128:=n6_;clear n0_ n1_ n2_ n3_ n4_ n5_ n6_;clear hb hbox hg;have hnb19:=NB128_129.out;have hnc19:=NB129_128.out;have hcz20_0:w18.cell? ⟨gb128,0,none⟩=some (.int .i64 a0_0):=(qab BK128.out 0).trans rfl;have hcz20_1:w18.cell? ⟨gb128,1,none⟩=some (.slice A0_1 l0_1.length c0_1):=(qab BK128.out 1).trans rfl;have hfz20_0:=qaa BK128.out 0;have hfz20_1:=qaa BK128.out 1;have hcz21_0:w18.cell? ⟨gb129,0,none⟩=some (.int .i64 a1_0):=(qab BK129.out 0).trans rfl;have hcz21_1:w18.cell? ⟨gb129,1,none⟩=some (.int .i64 a1_1):=(qab BK129.out 1).trans rfl;have hcz21_2:w18.cell? ⟨gb129,2,none⟩=some (.slice A1_2 l1_2.length c1_2):=(qab BK129.out 2).trans rfl;have hfz21_0:=qaa BK129.out 0;have hfz21_1:=qaa BK129.out 1;have hfz21_2:=qaa BK129.out 2;have p130:0≤((ji3):Int):=of_decide_eq_true (za6);have q130:(ji3)<(l0_1.length:Int):=of_decide_eq_true (za6);obtain⟨ad130,e130,hx130_0,hx130_1⟩:=at_T72 HR0_1.out (ji3) p130 q130;cases e130;replace hx130_0:=(HB.out.cell (World.block_lt_of_cell? w _ hx130_0)).trans hx130_0;replace hx130_1:=(HB.out.cell (World.block_lt_of_cell? w _ hx130_1)).trans hx130_1;replace p130:=eq_true p130;replace q130:=eq_true q130))
     have n0_:=qam.mk (qaf BK128.out)
     have n1_:=qam.mk (qaf BK129.out)
     have n2_:=qam.mk (below_drew1 HB.out)
     clear BK128
     clear BK129
     clear HB
     have BK128:=n0_
     have BK129:=n1_
     have HB:=n2_
     clear n0_ n1_ n2_
     refine start_ (n:=12) (S:=fun w'=>True) (ds:=[]) #[false,false,false,false,false,false,false,false,false,false,false,false] (by kernel_rfl) rfl rfl trivial (fun hHeld=>?_);refine with_tabW spec_l2May.tab4 spec_l2May.bits4 (fun HT_ HW_=>?_)
     generalize w18.drew=w22 at BK128 BK129 HB hHeld ⊢
     refine pure_ (i:=0) (N:=some 18) (v:=?_) (a':=?_) #[true,false,false,false,false,false,false,false,false,false,false,false] rfl rfl (qas HT_.out (by kernel_rfl)) (fun _ _ _ h=>h) (Or.inl ⟨by rfl,?_⟩) ?_ ?_
     rotate_left
     ·intro w'
      go_simp
      with_reducible rfl
     rotate_left
     ·simp only[Act.put,List.setIfInBounds_toArray,List.set_cons_zero,List.set_cons_succ,qao,qap]
      rfl
     refine pure_ (i:=1) (N:=some 19) (v:=?_) (a':=?_) #[true,true,false,false,false,false,false,false,false,false,false,false] rfl rfl (qas HT_.out (by kernel_rfl)) (fun _ _ _ h=>h) (Or.inl ⟨by rfl,?_⟩) ?_ ?_
     rotate_left
     ·intro w'
      go_simp
      with_reducible rfl
     rotate_left
     ·simp only[Act.put,List.setIfInBounds_toArray,List.set_cons_zero,List.set_cons_succ,qao,qap]
      rfl
     refine pure_ (i:=2) (N:=some 20) (v:=?_) (a':=?_) #[true,true,true,false,false,false,false,false,false,false,false,false] rfl rfl (qas HT_.out (by kernel_rfl)) (fun _ _ _ h=>h) (Or.inl ⟨by rfl,?_⟩) ?_ ?_
     rotate_left
     ·intro w'
      go_simp
      with_reducible rfl
     rotate_left
     ·simp only[Act.put,List.setIfInBounds_toArray,List.set_cons_zero,List.set_cons_succ,qao,qap]
      rfl
     refine pure_ (i:=3) (N:=some 21) (v:=undef) (a':=?_) #[true,true,true,true,false,false,false,false,false,false,false,false] rfl rfl (qas HT_.out (by kernel_rfl)) (fun _ _ _ h=>h) (Or.inr ⟨by rfl,rfl⟩) ?_ ?_
     rotate_left
     ·simp only[Act.put,List.setIfInBounds_toArray,List.set_cons_zero,List.set_cons_succ,qao,qap]
      rfl
     refine pure_ (i:=4) (N:=some 22) (v:=undef) (a':=?_) #[true,true,true,true,true,false,false,false,false,false,false,false] rfl rfl (qas HT_.out (by kernel_rfl)) (fun _ _ _ h=>h) (Or.inr ⟨by rfl,rfl⟩) ?_ ?_
     rotate_left
     ·simp only[Act.put,List.setIfInBounds_toArray,List.set_cons_zero,List.set_cons_succ,qao,qap]
      rfl
     refine pure_ (i:=5) (N:=some 23) (v:=undef) (a':=?_) #[true,true,true,true,true,true,false,false,false,false,false,false] rfl rfl (qas HT_.out (by kernel_rfl)) (fun _ _ _ h=>h) (Or.inr ⟨by rfl,rfl⟩) ?_ ?_
     rotate_left
     ·simp only[Act.put,List.setIfInBounds_toArray,List.set_cons_zero,List.set_cons_succ,qao,qap]
      rfl
     refine pure_ (i:=6) (N:=some 24) (v:=undef) (a':=?_) #[true,true,true,true,true,true,true,false,false,false,false,false] rfl rfl (qas HT_.out (by kernel_rfl)) (fun _ _ _ h=>h) (Or.inr ⟨by rfl,rfl⟩) ?_ ?_
     rotate_left
     ·simp only[Act.put,List.setIfInBounds_toArray,List.set_cons_zero,List.set_cons_succ,qao,qap]
      rfl
     refine pure_ (i:=7) (N:=some 25) (v:=undef) (a':=?_) #[true,true,true,true,true,true,true,true,false,false,false,false] rfl rfl (qas HT_.out (by kernel_rfl)) (fun _ _ _ h=>h) (Or.inr ⟨by rfl,rfl⟩) ?_ ?_
     rotate_left
     ·simp only[Act.put,List.setIfInBounds_toArray,List.set_cons_zero,List.set_cons_succ,qao,qap]
      rfl
     refine pure_ (i:=8) (N:=some 26) (v:=undef) (a':=?_) #[true,true,true,true,true,true,true,true,true,false,false,false] rfl rfl (qas HT_.out (by kernel_rfl)) (fun _ _ _ h=>h) (Or.inr ⟨by rfl,rfl⟩) ?_ ?_
     rotate_left
     ·simp only[Act.put,List.setIfInBounds_toArray,List.set_cons_zero,List.set_cons_succ,qao,qap]
      rfl
     refine pure_ (i:=9) (N:=some 27) (v:=undef) (a':=?_) #[true,true,true,true,true,true,true,true,true,true,false,false] rfl rfl (qas HT_.out (by kernel_rfl)) (fun _ _ _ h=>h) (Or.inr ⟨by rfl,rfl⟩) ?_ ?_
     rotate_left
     ·simp only[Act.put,List.setIfInBounds_toArray,List.set_cons_zero,List.set_cons_succ,qao,qap]
      rfl
     refine pure_ (i:=10) (N:=some 28) (v:=?_) (a':=?_) #[true,true,true,true,true,true,true,true,true,true,true,false] rfl rfl (qas HT_.out (by kernel_rfl)) (fun _ _ _ h=>h) (Or.inl ⟨by rfl,?_⟩) ?_ ?_
     rotate_left
     ·intro w'
      go_simp
      with_reducible rfl
     rotate_left
     ·simp only[Act.put,List.setIfInBounds_toArray,List.set_cons_zero,List.set_cons_succ,qao,qap]
      rfl
     refine pure_ (i:=11) (N:=some 4) (v:=?_) (a':=?_) #[true,true,true,true,true,true,true,true,true,true,true,true] rfl rfl (qas HT_.out (by kernel_rfl)) (fun _ _ _ h=>h) (Or.inl ⟨by rfl,?_⟩) ?_ ?_
     rotate_left
     ·intro w'
      go_simp
      with_reducible rfl
     rotate_left
     ·simp only[Act.put,List.setIfInBounds_toArray,List.set_cons_zero,List.set_cons_succ,qao,qap]
      rfl
     refine done_ (done_of HT_.out (by kernel_rfl)) ?_
     try go_wp2
     go_ret
     exact⟨by first|rfl|(simp[qaq,qar]<;>rfl)|(simp only[←hji3];first|rfl|(simp[qaq,qar]<;>rfl))|(simp[*,qaq,qar]<;>rfl),za3 HB GE128 GE129⟩
   ·rw[if_neg c6] at H
    have c6b0:(a1_0 == 1)=false:=beq_eq_false_iff_ne.mpr c6
    have c6b1:(a1_0 != 1)=true:=bne_iff_ne.mpr c6
    by_cases c23:a1_0=2
    ·rw[if_pos c23] at H
     have c23b0:(a1_0 == 2)=true:=beq_iff_eq.mpr c23
     have c23b1:(a1_0 != 2)=false:=bne_eq_false_iff_eq.mpr c23
     clear c23
     obtain rfl:=Option.some.inj H
     go_enter Try.func34,Try.ntmps34
     go_wp2_with(first|((with_reducible refine qak (N:=2) rfl ?_);refine qai ?hg (N:=2) ?hd (cs:=#[.int .i64 a0_0,.slice A0_1 l0_1.length c0_1]) (t:=39) ?hr ?_;(case hd=>rfl);(case hg=>rfl);(case hr=>first|(go_simp;done)|(go_simp;rfl));intro gb128 hg w24 hbox hb;have n0_:=qam.mk (qad (za2 HB) hb);have n1_:=qam.mk (hbox);have n2_:=qam.mk ((by rw[hg];exact(qac (za2 HB)):w.heap.size≤gb128));have n3_:=qam.mk ((by rw[hg];exact(qac (za2 HB)):w.heap.size≤gb128));clear HB;have HB:=n0_;have BK128:=n1_;have GW128:=n2_;have GE128:=n3_;clear n0_ n1_ n2_ n3_;clear hb hbox hg)|((with_reducible refine qak (N:=3) rfl ?_);refine qai ?hg (N:=3) ?hd (cs:=#[.int .i64 a1_0,.int .i64 a1_1,.slice A1_2 l1_2.length c1_2]) (t:=62) ?hr ?_;(case hd=>rfl);(case hg=>rfl);(case hr=>first|(go_simp;done)|(go_simp;rfl));intro gb129 hg w25 hbox hb;have n0_:=qam.mk (qae (g:=gb128) (o:=.cells #[.int .i64 a0_0,.slice A0_1 l0_1.length c0_1] 39 (0,0)) (za0 BK128) hb);have n1_:=qam.mk (qad (za1 HB GE128) hb);have n2_:=qam.mk (hbox);have n3_:=qam.mk ((by rw[hg];exact(qac (za1 HB GE128)):w.heap.size≤gb129));have n4_:=qam.mk ((by rw[hg];exact(qac (za1 HB GE128)):w.heap.size≤gb129));have n5_:=qam.mk ((by rw[hg];exact Nat.ne_of_lt (qal (g:=gb128) (o:=.cells #[.int .i64 a0_0,.slice A0_1 l0_1.length c0_1] 39 (0,0)) (za0 BK128)):gb128≠gb129));have n6_:=qam.mk ((by rw[hg];exact Nat.ne_of_gt (qal (g:=gb128) (o:=.cells #[.int .i64 a0_0,.slice A0_1 l0_1.length c0_1] 39 (0,0)) (za0 BK128)):gb129≠gb128));clear BK128;clear HB;have BK128:=n0_;have HB:=n1_;have BK129:=n2_;have GW129:=n3_;have GE129:=n4_;have NB128_129:=n5_;have NB129_128:=n6_;clear n0_ n1_ n2_ n3_ n4_ n5_ n6_;clear hb hbox hg;have hnb26:=NB128_129.out;have hnc26:=NB129_128.out;have hcz27_0:w25.cell? ⟨gb128,0,none⟩=some (.int .i64 a0_0):=(qab BK128.out 0).trans rfl;have hcz27_1:w25.cell? ⟨gb128,1,none⟩=some (.slice A0_1 l0_1.length c0_1):=(qab BK128.out 1).trans rfl;have hfz27_0:=qaa BK128.out 0;have hfz27_1:=qaa BK128.out 1;have hcz28_0:w25.cell? ⟨gb129,0,none⟩=some (.int .i64 a1_0):=(qab BK129.out 0).trans rfl;have hcz28_1:w25.cell? ⟨gb129,1,none⟩=some (.int .i64 a1_1):=(qab BK129.out 1).trans rfl;have hcz28_2:w25.cell? ⟨gb129,2,none⟩=some (.slice A1_2 l1_2.length c1_2):=(qab BK129.out 2).trans rfl;have hfz28_0:=qaa BK129.out 0;have hfz28_1:=qaa BK129.out 1;have hfz28_2:=qaa BK129.out 2;have p130:0≤((ji3):Int):=of_decide_eq_true (za6);have q130:(ji3)<(l0_1.length:Int):=of_decide_eq_true (za6);obtain⟨ad130,e130,hx130_0,hx130_1⟩:=at_T72 HR0_1.out (ji3) p130 q130;cases e130;replace hx130_0:=(HB.out.cell (World.block_lt_of_cell? w _ hx130_0)).trans hx130_0;replace hx130_1:=(HB.out.cell (World.block_lt_of_cell? w _ hx130_1)).trans hx130_1;replace p130:=eq_true p130;replace q130:=eq_true q130))
     go_ret
     exact⟨by first|rfl|(simp[qaq,qar]<;>rfl)|(simp only[←hji3];first|rfl|(simp[qaq,qar]<;>rfl))|(simp[*,qaq,qar]<;>rfl),za3 HB GE128 GE129⟩
    ·rw[if_neg c23] at H
     have c23b0:(a1_0 == 2)=false:=beq_eq_false_iff_ne.mpr c23
     have c23b1:(a1_0 != 2)=true:=bne_iff_ne.mpr c23
     by_cases c29:a1_0=3
     ·rw[if_pos c29] at H
      have c29b0:(a1_0 == 3)=true:=beq_iff_eq.mpr c29
      have c29b1:(a1_0 != 3)=false:=bne_eq_false_iff_eq.mpr c29
      clear c29
      by_cases c30:((rd_T72 l0_1 (ji3)).f1)=1
      ·rw[if_pos c30] at H
       have c30b0:(((rd_T72 l0_1 (ji3)).f1) == 1)=true:=beq_iff_eq.mpr c30
       have c30b1:(((rd_T72 l0_1 (ji3)).f1) != 1)=false:=bne_eq_false_iff_eq.mpr c30
       clear c30
       obtain rfl:=Option.some.inj H
       go_enter Try.func34,Try.ntmps34
       go_wp2_with(first|((with_reducible refine qak (N:=2) rfl ?_);refine qai ?hg (N:=2) ?hd (cs:=#[.int .i64 a0_0,.slice A0_1 l0_1.length c0_1]) (t:=39) ?hr ?_;(case hd=>rfl);(case hg=>rfl);(case hr=>first|(go_simp;done)|(go_simp;rfl));intro gb128 hg w31 hbox hb;have n0_:=qam.mk (qad (za2 HB) hb);have n1_:=qam.mk (hbox);have n2_:=qam.mk ((by rw[hg];exact(qac (za2 HB)):w.heap.size≤gb128));have n3_:=qam.mk ((by rw[hg];exact(qac (za2 HB)):w.heap.size≤gb128));clear HB;have HB:=n0_;have BK128:=n1_;have GW128:=n2_;have GE128:=n3_;clear n0_ n1_ n2_ n3_;clear hb hbox hg)|((with_reducible refine qak (N:=3) rfl ?_);refine qai ?hg (N:=3) ?hd (cs:=#[.int .i64 a1_0,.int .i64 a1_1,.slice A1_2 l1_2.length c1_2]) (t:=62) ?hr ?_;(case hd=>rfl);(case hg=>rfl);(case hr=>first|(go_simp;done)|(go_simp;rfl));intro gb129 hg w32 hbox hb;have n0_:=qam.mk (qae (g:=gb128) (o:=.cells #[.int .i64 a0_0,.slice A0_1 l0_1.length c0_1] 39 (0,0)) (za0 BK128) hb);have n1_:=qam.mk (qad (za1 HB GE128) hb);have n2_:=qam.mk (hbox);have n3_:=qam.mk ((by rw[hg];exact(qac (za1 HB GE128)):w.heap.size≤gb129));have n4_:=qam.mk ((by rw[hg];exact(qac (za1 HB GE128)):w.heap.size≤gb129));have n5_:=qam.mk ((by rw[hg];exact Nat.ne_of_lt (qal (g:=gb128) (o:=.cells #[.int .i64 a0_0,.slice A0_1 l0_1.length c0_1] 39 (0,0)) (za0 BK128)):gb128≠gb129));have n6_:=qam.mk ((by rw[hg];exact Nat.ne_of_gt (qal (g:=gb128) (o:=.cells #[.int .i64 a0_0,.slice A0_1 l0_1.length c0_1] 39 (0,0)) (za0 BK128)):gb129≠gb128));clear BK128;clear HB;have BK128:=n0_;have HB:=n1_;have BK129:=n2_;have GW129:=n3_;have GE129:=n4_;have NB128_129:=n5_;have NB129_128:=n6_;clear n0_ n1_ n2_ n3_ n4_ n5_ n6_;clear hb hbox hg;have hnb33:=NB128_129.out;have hnc33:=NB129_128.out;have hcz34_0:w32.cell? ⟨gb128,0,none⟩=some (.int .i64 a0_0):=(qab BK128.out 0).trans rfl;have hcz34_1:w32.cell? ⟨gb128,1,none⟩=some (.slice A0_1 l0_1.length c0_1):=(qab BK128.out 1).trans rfl;have hfz34_0:=qaa BK128.out 0;have hfz34_1:=qaa BK128.out 1;have hcz35_0:w32.cell? ⟨gb129,0,none⟩=some (.int .i64 a1_0):=(qab BK129.out 0).trans rfl;have hcz35_1:w32.cell? ⟨gb129,1,none⟩=some (.int .i64 a1_1):=(qab BK129.out 1).trans rfl;have hcz35_2:w32.cell? ⟨gb129,2,none⟩=some (.slice A1_2 l1_2.length c1_2):=(qab BK129.out 2).trans rfl;have hfz35_0:=qaa BK129.out 0;have hfz35_1:=qaa BK129.out 1;have hfz35_2:=qaa BK129.out 2;have p130:0≤((ji3):Int):=of_decide_eq_true (za6);have q130:(ji3)<(l0_1.length:Int):=of_decide_eq_true (za6);obtain⟨ad130,e130,hx130_0,hx130_1⟩:=at_T72 HR0_1.out (ji3) p130 q130;cases e130;replace hx130_0:=(HB.out.cell (World.block_lt_of_cell? w _ hx130_0)).trans hx130_0;replace hx130_1:=(HB.out.cell (World.block_lt_of_cell? w _ hx130_1)).trans hx130_1;replace p130:=eq_true p130;replace q130:=eq_true q130))
       go_ret
       exact⟨by first|rfl|(simp[qaq,qar]<;>rfl)|(simp only[←hji3];first|rfl|(simp[qaq,qar]<;>rfl))|(simp[*,qaq,qar]<;>rfl),za3 HB GE128 GE129⟩
      ·rw[if_neg c30] at H
       have c30b0:(((rd_T72 l0_1 (ji3)).f1) == 1)=false:=beq_eq_false_iff_ne.mpr c30
       have c30b1:(((rd_T72 l0_1 (ji3)).f1) != 1)=true:=bne_iff_ne.mpr c30
       obtain rfl:=Option.some.inj H
       go_enter Try.func34,Try.ntmps34
       go_wp2_with(first|((with_reducible refine qak (N:=2) rfl ?_);refine qai ?hg (N:=2) ?hd (cs:=#[.int .i64 a0_0,.slice A0_1 l0_1.length c0_1]) (t:=39) ?hr ?_;(case hd=>rfl);(case hg=>rfl);(case hr=>first|(go_simp;done)|(go_simp;rfl));intro gb128 hg w36 hbox hb;have n0_:=qam.mk (qad (za2 HB) hb);have n1_:=qam.mk (hbox);have n2_:=qam.mk ((by rw[hg];exact(qac (za2 HB)):w.heap.size≤gb128));have n3_:=qam.mk ((by rw[hg];exact(qac (za2 HB)):w.heap.size≤gb128));clear HB;have HB:=n0_;have BK128:=n1_;have GW128:=n2_;have GE128:=n3_;clear n0_ n1_ n2_ n3_;clear hb hbox hg)|((with_reducible refine qak (N:=3) rfl ?_);refine qai ?hg (N:=3) ?hd (cs:=#[.int .i64 a1_0,.int .i64 a1_1,.slice A1_2 l1_2.length c1_2]) (t:=62) ?hr ?_;(case hd=>rfl);(case hg=>rfl);(case hr=>first|(go_simp;done)|(go_simp;rfl));intro gb129 hg w37 hbox hb;have n0_:=qam.mk (qae (g:=gb128) (o:=.cells #[.int .i64 a0_0,.slice A0_1 l0_1.length c0_1] 39 (0,0)) (za0 BK128) hb);have n1_:=qam.mk (qad (za1 HB GE128) hb);have n2_:=qam.mk (hbox);have n3_:=qam.mk ((by rw[hg];exact(qac (za1 HB GE128)):w.heap.size≤gb129));have n4_:=qam.mk ((by rw[hg];exact(qac (za1 HB GE128)):w.heap.size≤gb129));have n5_:=qam.mk ((by rw[hg];exact Nat.ne_of_lt (qal (g:=gb128) (o:=.cells #[.int .i64 a0_0,.slice A0_1 l0_1.length c0_1] 39 (0,0)) (za0 BK128)):gb128≠gb129));have n6_:=qam.mk ((by rw[hg];exact Nat.ne_of_gt (qal (g:=gb128) (o:=.cells #[.int .i64 a0_0,.slice A0_1 l0_1.length c0_1] 39 (0,0)) (za0 BK128)):gb129≠gb128));clear BK128;clear HB;have BK128:=n0_;have HB:=n1_;have BK129:=n2_;have GW129:=n3_;have GE129:=n4_;have NB128_129:=n5_;have NB129_128:=n6_;clear n0_ n1_ n2_ n3_ n4_ n5_ n6_;clear hb hbox hg;have hnb38:=NB128_129.out;have hnc38:=NB129_128.out;have hcz39_0:w37.cell? ⟨gb128,0,none⟩=some (.int .i64 a0_0):=(qab BK128.out 0).trans rfl;have hcz39_1:w37.cell? ⟨gb128,1,none⟩=some (.slice A0_1 l0_1.length c0_1):=(qab BK128.out 1).trans rfl;have hfz39_0:=qaa BK128.out 0;have hfz39_1:=qaa BK128.out 1;have hcz40_0:w37.cell? ⟨gb129,0,none⟩=some (.int .i64 a1_0):=(qab BK129.out 0).trans rfl;have hcz40_1:w37.cell? ⟨gb129,1,none⟩=some (.int .i64 a1_1):=(qab BK129.out 1).trans rfl;have hcz40_2:w37.cell? ⟨gb129,2,none⟩=some (.slice A1_2 l1_2.length c1_2):=(qab BK129.out 2).trans rfl;have hfz40_0:=qaa BK129.out 0;have hfz40_1:=qaa BK129.out 1;have hfz40_2:=qaa BK129.out 2;have p130:0≤((ji3):Int):=of_decide_eq_true (za6);have q130:(ji3)<(l0_1.length:Int):=of_decide_eq_true (za6);obtain⟨ad130,e130,hx130_0,hx130_1⟩:=at_T72 HR0_1.out (ji3) p130 q130;cases e130;replace hx130_0:=(HB.out.cell (World.block_lt_of_cell? w _ hx130_0)).trans hx130_0;replace hx130_1:=(HB.out.cell (World.block_lt_of_cell? w _ hx130_1)).trans hx130_1;replace p130:=eq_true p130;replace q130:=eq_true q130))
       go_ret
       exact⟨by first|rfl|(simp[qaq,qar]<;>rfl)|(simp only[←hji3];first|rfl|(simp[qaq,qar]<;>rfl))|(simp[*,qaq,qar]<;>rfl),za3 HB GE128 GE129⟩
     ·rw[if_neg c29] at H
      have c29b0:(a1_0 == 3)=false:=beq_eq_false_iff_ne.mpr c29
      have c29b1:(a1_0 != 3)=true:=bne_iff_ne.mpr c29
      obtain rfl:=Option.some.inj H
      go_enter Try.func34,Try.ntmps34
      go_wp2_with(first|((with_reducible refine qak (N:=2) rfl ?_);refine qai ?hg (N:=2) ?hd (cs:=#[.int .i64 a0_0,.slice A0_1 l0_1.length c0_1]) (t:=39) ?hr ?_;(case hd=>rfl);(case hg=>rfl);(case hr=>first|(go_simp;done)|(go_simp;rfl));intro gb128 hg w41 hbox hb;have n0_:=qam.mk (qad (za2 HB) hb);have n1_:=qam.mk (hbox);have n2_:=qam.mk ((by rw[hg];exact(qac (za2 HB)):w.heap.size≤gb128));have n3_:=qam.mk ((by rw[hg];exact(qac (za2 HB)):w.heap.size≤gb128));clear HB;have HB:=n0_;have BK128:=n1_;have GW128:=n2_;have GE128:=n3_;clear n0_ n1_ n2_ n3_;clear hb hbox hg)|((with_reducible refine qak (N:=3) rfl ?_);refine qai ?hg (N:=3) ?hd (cs:=#[.int .i64 a1_0,.int .i64 a1_1,.slice A1_2 l1_2.length c1_2]) (t:=62) ?hr ?_;(case hd=>rfl);(case hg=>rfl);(case hr=>first|(go_simp;done)|(go_simp;rfl));intro gb129 hg w42 hbox hb;have n0_:=qam.mk (qae (g:=gb128) (o:=.cells #[.int .i64 a0_0,.slice A0_1 l0_1.length c0_1] 39 (0,0)) (za0 BK128) hb);have n1_:=qam.mk (qad (za1 HB GE128) hb);have n2_:=qam.mk (hbox);have n3_:=qam.mk ((by rw[hg];exact(qac (za1 HB GE128)):w.heap.size≤gb129));have n4_:=qam.mk ((by rw[hg];exact(qac (za1 HB GE128)):w.heap.size≤gb129));have n5_:=qam.mk ((by rw[hg];exact Nat.ne_of_lt (qal (g:=gb128) (o:=.cells #[.int .i64 a0_0,.slice A0_1 l0_1.length c0_1] 39 (0,0)) (za0 BK128)):gb128≠gb129));have n6_:=qam.mk ((by rw[hg];exact Nat.ne_of_gt (qal (g:=gb128) (o:=.cells #[.int .i64 a0_0,.slice A0_1 l0_1.length c0_1] 39 (0,0)) (za0 BK128)):gb129≠gb128));clear BK128;clear HB;have BK128:=n0_;have HB:=n1_;have BK129:=n2_;have GW129:=n3_;have GE129:=n4_;have NB128_129:=n5_;have NB129_128:=n6_;clear n0_ n1_ n2_ n3_ n4_ n5_ n6_;clear hb hbox hg;have hnb43:=NB128_129.out;have hnc43:=NB129_128.out;have hcz44_0:w42.cell? ⟨gb128,0,none⟩=some (.int .i64 a0_0):=(qab BK128.out 0).trans rfl;have hcz44_1:w42.cell? ⟨gb128,1,none⟩=some (.slice A0_1 l0_1.length c0_1):=(qab BK128.out 1).trans rfl;have hfz44_0:=qaa BK128.out 0;have hfz44_1:=qaa BK128.out 1;have hcz45_0:w42.cell? ⟨gb129,0,none⟩=some (.int .i64 a1_0):=(qab BK129.out 0).trans rfl;have hcz45_1:w42.cell? ⟨gb129,1,none⟩=some (.int .i64 a1_1):=(qab BK129.out 1).trans rfl;have hcz45_2:w42.cell? ⟨gb129,2,none⟩=some (.slice A1_2 l1_2.length c1_2):=(qab BK129.out 2).trans rfl;have hfz45_0:=qaa BK129.out 0;have hfz45_1:=qaa BK129.out 1;have hfz45_2:=qaa BK129.out 2;have p130:0≤((ji3):Int):=of_decide_eq_true (za6);have q130:(ji3)<(l0_1.length:Int):=of_decide_eq_true (za6);obtain⟨ad130,e130,hx130_0,hx130_1⟩:=at_T72 HR0_1.out (ji3) p130 q130;cases e130;replace hx130_0:=(HB.out.cell (World.block_lt_of_cell? w _ hx130_0)).trans hx130_0;replace hx130_1:=(HB.out.cell (World.block_lt_of_cell? w _ hx130_1)).trans hx130_1;replace p130:=eq_true p130;replace q130:=eq_true q130))
      go_ret
      exact⟨by first|rfl|(simp[qaq,qar]<;>rfl)|(simp only[←hji3];first|rfl|(simp[qaq,qar]<;>rfl))|(simp[*,qaq,qar]<;>rfl),za3 HB GE128 GE129⟩
  ·rw[if_neg c5] at H
   exact absurd H (by simp)
 ·rw[if_neg c4] at H
  exact absurd H (by simp)
end Go.Proofs.Ytbomcadjkcmcgaa.Print
