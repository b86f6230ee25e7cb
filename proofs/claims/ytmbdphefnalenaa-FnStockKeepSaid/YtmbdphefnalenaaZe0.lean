-- Written by squeeze.py: not trusted, Lean checks it.
import Derived.Test.YtmbdphefnalenaaZK
namespace Go.Proofs.Ytmbdphefnalenaa.Print
open Go.RowKit Go.Proofs.YtmbdphefnalenaaW.PrintWords Go.Proofs.YtmbdphefnalenaaW.PrintLast Go.Proofs.YtmbdphefnalenaaW.PrintMore
attribute [local go_sem] max2_int min2_int max_two min_two max_three min_three max_four min_four
set_option linter.unusedVariables false
set_option linter.unusedSimpArgs false
def spec_l2Free.l0:Nat→Int→Int→Int→List (S49)→Option (Int)
 |0,_,_,_,_=>none
 |k+1,x3,x4,x393000,x393001=>if x4<(x393001.length:Int) then(if 0≤x4 then(if((rd_T49 x393001 x4).f1)=1 then(spec_l2Free.l0 k (wrap64 (x3 - ((rd_T49 x393001 x4).f0))) (wrap64 (x4+1)) x393000 x393001) else(if((rd_T49 x393001 x4).f1)=2 then(spec_l2Free.l0 k (wrap64 (x3 - ((rd_T49 x393001 x4).f0))) (wrap64 (x4+1)) x393000 x393001) else(spec_l2Free.l0 k x3 (wrap64 (x4+1)) x393000 x393001))) else(none)) else(some x3)
def spec_l2Free.f (k:Nat) (a0_0:Int) (l0_1:List (S49)):Option (Int):=spec_l2Free.l0 k a0_0 0 a0_0 l0_1
theorem spec_l2Free.mono_l:∀k,(∀y0 y1 y2 y3,LeO (spec_l2Free.l0 k y0 y1 y2 y3) (spec_l2Free.l0 (k+1) y0 y1 y2 y3))
 |0=>fun _ _ _ _ r h=>by simp[spec_l2Free.l0] at h
 |k+1=>by
  have ih0:=spec_l2Free.mono_l k
  ·intro y0 y1 y2 y3;unfold spec_l2Free.l0
   repeat' first|(with_reducible exact ih0 _ _ _ _)|(with_reducible exact LeO.refl _)|(with_reducible exact LeO.none _)|(with_reducible refine LeO.ite ?_ ?_)|(with_reducible refine LeO.bind ?_ (fun _=>?_))|exact ih0 _ _ _ _|exact LeO.none _|refine LeO.ite ?_ ?_|refine LeO.bind ?_ (fun _=>?_)
theorem spec_l2Free.mono:∀a0 a1 k,LeO (spec_l2Free.f k a0 a1) (spec_l2Free.f (k+1) a0 a1):=by
 intro a0 a1 k;have ih0:=spec_l2Free.mono_l k;unfold spec_l2Free.f
 repeat' first|(with_reducible exact ih0 _ _ _ _)|(with_reducible exact LeO.refl _)|(with_reducible exact LeO.none _)|(with_reducible refine LeO.ite ?_ ?_)|(with_reducible refine LeO.bind ?_ (fun _=>?_))|exact ih0 _ _ _ _|exact LeO.none _|refine LeO.ite ?_ ?_|refine LeO.bind ?_ (fun _=>?_)
set_option maxHeartbeats 8000000 in
set_option maxRecDepth 100000 in
theorem spec_l2Free.calls (k:Nat) (a0_0:Int) (A0_1:Option Addr) (c0_1:Nat) (l0_1:List (S49)) (r:Int) (w:World) (hr0_1:Kd.C k49 w A0_1 l0_1.length l0_1) (hc0_1:l0_1.length≤c0_1) (h:spec_l2Free.f k a0_0 l0_1=some r) :
  Calls Try.prog 105 #[.agg #[.int .i64 a0_0,.slice A0_1 l0_1.length c0_1]] w fun e w'=>e=.returned (.int .i64 r)∧Below w.heap.size w w':=by
 have hu38:=Try.underlying38;have HR0_1:=qaf.mk hr0_1;have HC0_1:=qaf.mk hc0_1;clear hr0_1 hc0_1;have HB:=qaf.mk (Below.refl w.heap.size w);have H:(spec_l2Free.l0 k a0_0 0 a0_0 l0_1)=some r:=h;clear h;have H':=qaf.mk H;clear H;go_enter Try.func105,Try.ntmps105
 go_wp2_with(first|((with_reducible refine qam (N:=1) rfl ?_);refine zX (N:=1) (cs:=#[.int .i64 a0_0,.slice A0_1 l0_1.length c0_1]) (t:=38) ?_;intro gb392 hg w2 hbox hb;have BK392:=qaf.mk hbox;have GW392:=zH (w:=w) hg (za2 HB);have GE392:=GW392;replace HB:=qaf.mk (qad (za2 HB) hb);clear hb hbox hg;obtain⟨hcz3_0,hcz3_1,hfz3_0,hfz3_1⟩:=zC2 BK392))
 go_loopg [3,4] k (fun kq v3 v4 w'=>∃(x3_1:Int) (x4_1:Int),v3=.int .i64 x3_1∧v4=.int .i64 x4_1∧qaf (spec_l2Free.l0 kq x3_1 x4_1 a0_0 l0_1=some r)∧qaf (kq≤k)∧qaf (w'.heap[gb392]?=some (.cells #[.int .i64 a0_0,(.slice A0_1 l0_1.length c0_1)] 38 (0,0)))∧qaf (Below w.heap.size w w'))
 case atStart=>exact⟨(a0_0),(0),(za38),(za38),H',⟨Nat.le_refl _⟩,⟨za11 BK392⟩,⟨za3 HB GE392⟩⟩
 case round=>
  clear H'
  try clear c1
  try clear p2
  try clear hcz3_0
  try clear hcz3_1
  try clear hfz3_0
  try clear hfz3_1
  obtain⟨x3_1,x4_1,rfl,rfl,HA,HK1,BK392,HB⟩:=hrel
  cases gk with
  |zero=>exact absurd HA.out (by simp[spec_l2Free.l0])
  |succ k1=>
   have H:=HA.out;clear HA;simp only[spec_l2Free.l0] at H;by_cases c4:x4_1<(l0_1.length:Int)
   ·rw[if_pos c4] at H;have c4b0:decide (x4_1<(l0_1.length:Int))=true:=decide_eq_true c4;clear c4;by_cases c5:0≤x4_1
    ·rw[if_pos c5] at H;have c5b0:decide (0≤x4_1)=true:=decide_eq_true c5;clear c5;by_cases c6:((rd_T49 l0_1 x4_1).f1)=1
     ·rw[if_pos c6] at H;have c6b0:(((rd_T49 l0_1 x4_1).f1) == 1)=true:=beq_iff_eq.mpr c6;have c6b1:(((rd_T49 l0_1 x4_1).f1) != 1)=false:=bne_eq_false_iff_eq.mpr c6;clear c6;have H':=qaf.mk H;clear H;obtain⟨hcz7_0,hcz7_1,hfz7_0,hfz7_1⟩:=zC2 BK392;have p393:0≤(x4_1:Int):=of_decide_eq_true (za10);have q393:x4_1<(l0_1.length:Int):=of_decide_eq_true (za10);obtain⟨ad393,e393,hx393_0,hx393_1⟩:=at_T49 HR0_1.out x4_1 p393 q393
      cases e393
      replace hx393_0:=(HB.out.cell (World.block_lt_of_cell? w _ hx393_0)).trans hx393_0;replace hx393_1:=(HB.out.cell (World.block_lt_of_cell? w _ hx393_1)).trans hx393_1;replace p393:=eq_true p393;replace q393:=eq_true q393;have p394:0≤(x4_1:Int):=of_decide_eq_true (za10);have q394:x4_1<(l0_1.length:Int):=of_decide_eq_true (za10);obtain⟨ad394,e394,hx394_0,hx394_1⟩:=at_T49 HR0_1.out x4_1 p394 q394;obtain rfl:ad393=ad394:=(by injection e394);replace hx394_0:=(HB.out.cell (World.block_lt_of_cell? w _ hx394_0)).trans hx394_0;replace hx394_1:=(HB.out.cell (World.block_lt_of_cell? w _ hx394_1)).trans hx394_1;replace p394:=eq_true p394;replace q394:=eq_true q394;go_wp2
      go_roundg k1
      case measure=>have:=HK1.out;omega
      case rel=>exact⟨(wrap64 (x3_1 - ((rd_T49 l0_1 x4_1).f0))),(wrap64 (x4_1+1)),(za38),(za38),H',⟨by have:=HK1.out;omega⟩,⟨za11 BK392⟩,⟨za3 HB GE392⟩⟩
     ·rw[if_neg c6] at H;have c6b0:(((rd_T49 l0_1 x4_1).f1) == 1)=false:=beq_eq_false_iff_ne.mpr c6;have c6b1:(((rd_T49 l0_1 x4_1).f1) != 1)=true:=bne_iff_ne.mpr c6;by_cases c8:((rd_T49 l0_1 x4_1).f1)=2
      ·rw[if_pos c8] at H;have c8b0:(((rd_T49 l0_1 x4_1).f1) == 2)=true:=beq_iff_eq.mpr c8;have c8b1:(((rd_T49 l0_1 x4_1).f1) != 2)=false:=bne_eq_false_iff_eq.mpr c8;clear c8;have H':=qaf.mk H;clear H;obtain⟨hcz9_0,hcz9_1,hfz9_0,hfz9_1⟩:=zC2 BK392;have p393:0≤(x4_1:Int):=of_decide_eq_true (za10);have q393:x4_1<(l0_1.length:Int):=of_decide_eq_true (za10);obtain⟨ad393,e393,hx393_0,hx393_1⟩:=at_T49 HR0_1.out x4_1 p393 q393
       cases e393
       replace hx393_0:=(HB.out.cell (World.block_lt_of_cell? w _ hx393_0)).trans hx393_0;replace hx393_1:=(HB.out.cell (World.block_lt_of_cell? w _ hx393_1)).trans hx393_1;replace p393:=eq_true p393;replace q393:=eq_true q393;have p395:0≤(x4_1:Int):=of_decide_eq_true (za10);have q395:x4_1<(l0_1.length:Int):=of_decide_eq_true (za10);obtain⟨ad395,e395,hx395_0,hx395_1⟩:=at_T49 HR0_1.out x4_1 p395 q395;obtain rfl:ad393=ad395:=(by injection e395);replace hx395_0:=(HB.out.cell (World.block_lt_of_cell? w _ hx395_0)).trans hx395_0;replace hx395_1:=(HB.out.cell (World.block_lt_of_cell? w _ hx395_1)).trans hx395_1;replace p395:=eq_true p395;replace q395:=eq_true q395;have p396:0≤(x4_1:Int):=of_decide_eq_true (za10);have q396:x4_1<(l0_1.length:Int):=of_decide_eq_true (za10);obtain⟨ad396,e396,hx396_0,hx396_1⟩:=at_T49 HR0_1.out x4_1 p396 q396;obtain rfl:ad393=ad396:=(by injection e396);replace hx396_0:=(HB.out.cell (World.block_lt_of_cell? w _ hx396_0)).trans hx396_0;replace hx396_1:=(HB.out.cell (World.block_lt_of_cell? w _ hx396_1)).trans hx396_1;replace p396:=eq_true p396;replace q396:=eq_true q396;go_wp2
       go_roundg k1
       case measure=>have:=HK1.out;omega
       case rel=>exact⟨(wrap64 (x3_1 - ((rd_T49 l0_1 x4_1).f0))),(wrap64 (x4_1+1)),(za38),(za38),H',⟨by have:=HK1.out;omega⟩,⟨za11 BK392⟩,⟨za3 HB GE392⟩⟩
      ·rw[if_neg c8] at H;have c8b0:(((rd_T49 l0_1 x4_1).f1) == 2)=false:=beq_eq_false_iff_ne.mpr c8;have c8b1:(((rd_T49 l0_1 x4_1).f1) != 2)=true:=bne_iff_ne.mpr c8;have H':=qaf.mk H;clear H;obtain⟨hcz10_0,hcz10_1,hfz10_0,hfz10_1⟩:=zC2 BK392;have p393:0≤(x4_1:Int):=of_decide_eq_true (za10);have q393:x4_1<(l0_1.length:Int):=of_decide_eq_true (za10);obtain⟨ad393,e393,hx393_0,hx393_1⟩:=at_T49 HR0_1.out x4_1 p393 q393
       cases e393
       replace hx393_0:=(HB.out.cell (World.block_lt_of_cell? w _ hx393_0)).trans hx393_0;replace hx393_1:=(HB.out.cell (World.block_lt_of_cell? w _ hx393_1)).trans hx393_1;replace p393:=eq_true p393;replace q393:=eq_true q393;have p395:0≤(x4_1:Int):=of_decide_eq_true (za10);have q395:x4_1<(l0_1.length:Int):=of_decide_eq_true (za10);obtain⟨ad395,e395,hx395_0,hx395_1⟩:=at_T49 HR0_1.out x4_1 p395 q395;obtain rfl:ad393=ad395:=(by injection e395);replace hx395_0:=(HB.out.cell (World.block_lt_of_cell? w _ hx395_0)).trans hx395_0;replace hx395_1:=(HB.out.cell (World.block_lt_of_cell? w _ hx395_1)).trans hx395_1;replace p395:=eq_true p395;replace q395:=eq_true q395;go_wp2
       go_roundg k1
       case measure=>have:=HK1.out;omega
       case rel=>exact⟨(x3_1),(wrap64 (x4_1+1)),(za38),(za38),H',⟨by have:=HK1.out;omega⟩,⟨za11 BK392⟩,⟨za3 HB GE392⟩⟩
    ·rw[if_neg c5] at H;exact absurd H (by simp)
   ·rw[if_neg c4] at H;have c4b0:decide (x4_1<(l0_1.length:Int))=false:=decide_eq_false c4;clear c4;obtain rfl:=Option.some.inj H;obtain⟨hcz11_0,hcz11_1,hfz11_0,hfz11_1⟩:=zC2 BK392;go_wp2;go_ret;exact⟨za12,za3 HB GE392⟩
def spec_l2May.f (k:Nat) (a0_0:Int) (l0_1:List (S49)) (a1_0:Int) (a1_1:Int) (l1_2:List Int):Option (Bool):=if 0≤(wrap64 (a1_1 - 1)) then(if(wrap64 (a1_1 - 1))<(l0_1.length:Int) then(if a1_0=1 then(if((rd_T49 l0_1 (wrap64 (a1_1 - 1))).f1)=0 then(if 0<(l1_2.length:Int) then((spec_l2Free.f k a0_0 l0_1).bind fun t401=>(some (decide ((rd l1_2 0)≤t401)))) else(none)) else(some false)) else(if a1_0=2 then(some (((rd_T49 l0_1 (wrap64 (a1_1 - 1))).f1) == 1)) else(if a1_0=3 then(if((rd_T49 l0_1 (wrap64 (a1_1 - 1))).f1)=1 then(some true) else(some (((rd_T49 l0_1 (wrap64 (a1_1 - 1))).f1) == 0))) else(some false)))) else(none)) else(none)
theorem spec_l2May.mono:∀a0 a1 a2 a3 a4 k,LeO (spec_l2May.f k a0 a1 a2 a3 a4) (spec_l2May.f (k+1) a0 a1 a2 a3 a4):=by
 intro a0 a1 a2 a3 a4 k;unfold spec_l2May.f
 repeat' first|(with_reducible exact spec_l2Free.mono _ _ _)|(with_reducible exact LeO.refl _)|(with_reducible exact LeO.none _)|(with_reducible refine LeO.ite ?_ ?_)|(with_reducible refine LeO.bind ?_ (fun _=>?_))|exact spec_l2Free.mono _ _ _|exact LeO.none _|refine LeO.ite ?_ ?_|refine LeO.bind ?_ (fun _=>?_)
def spec_l2May.T4:Bool × List (List Nat × List Nat):=(true,[([],[]),([0],[0]),([1],[1]),([2],[2]),([3,2],[2,3]),([4,2],[2,4]),([5,2],[2,5]),([2],[2]),([7,2,2],[2,7]),([6,8,2],[2,6,8]),([2,9],[2,9]),([10,8,0,1,2,3,4,5,6,7,8,9,10],[10])])
def spec_l2May.B4:List Nat:=[0,1,3,7,15,31,63,7,135,511,1023,2047]
theorem spec_l2May.tab4:rtab .any (opsOf Try.f90 4)=spec_l2May.T4:=by kernel_rfl
theorem spec_l2May.bits4:waitsOk spec_l2May.T4.2 spec_l2May.B4=true:=by kernel_rfl
set_option maxHeartbeats 8000000 in
set_option maxRecDepth 100000 in
theorem spec_l2May.calls (k:Nat) (a0_0:Int) (A0_1:Option Addr) (c0_1:Nat) (l0_1:List (S49)) (a1_0:Int) (a1_1:Int) (A1_2:Option Addr) (c1_2:Nat) (l1_2:List Int) (r:Bool) (w:World) (hr0_1:Kd.C k49 w A0_1 l0_1.length l0_1) (hc0_1:l0_1.length≤c0_1) (hr1_2:Kd.C (Kd.int .i64) w A1_2 l1_2.length l1_2) (hc1_2:l1_2.length≤c1_2) (h:spec_l2May.f k a0_0 l0_1 a1_0 a1_1 l1_2=some r) :
  Calls Try.prog 90 #[.agg #[.int .i64 a0_0,.slice A0_1 l0_1.length c0_1],.agg #[.int .i64 a1_0,.int .i64 a1_1,.slice A1_2 l1_2.length c1_2]] w fun e w'=>e=.returned (.bool r)∧Below w.heap.size w w':=by
 have hu38:=Try.underlying38;have hu32:=Try.underlying32;have HR0_1:=qaf.mk hr0_1;have HC0_1:=qaf.mk hc0_1;clear hr0_1 hc0_1;have HR1_2:=qaf.mk hr1_2;have HC1_2:=qaf.mk hc1_2;clear hr1_2 hc1_2;have HB:=qaf.mk (Below.refl w.heap.size w);have H:(if 0≤(wrap64 (a1_1 - 1)) then(if(wrap64 (a1_1 - 1))<(l0_1.length:Int) then(if a1_0=1 then(if((rd_T49 l0_1 (wrap64 (a1_1 - 1))).f1)=0 then(if 0<(l1_2.length:Int) then((spec_l2Free.f k a0_0 l0_1).bind fun t401=>(some (decide ((rd l1_2 0)≤t401)))) else(none)) else(some false)) else(if a1_0=2 then(some (((rd_T49 l0_1 (wrap64 (a1_1 - 1))).f1) == 1)) else(if a1_0=3 then(if((rd_T49 l0_1 (wrap64 (a1_1 - 1))).f1)=1 then(some true) else(some (((rd_T49 l0_1 (wrap64 (a1_1 - 1))).f1) == 0))) else(some false)))) else(none)) else(none))=some r:=h;clear h;obtain⟨ji3,hji3⟩:∃j_:Int,(wrap64 (a1_1 - 1))=j_:=⟨_,rfl⟩
 replace H:(if 0≤(ji3) then(if(ji3)<(l0_1.length:Int) then(if a1_0=1 then(if((rd_T49 l0_1 (ji3)).f1)=0 then(if 0<(l1_2.length:Int) then((spec_l2Free.f k a0_0 l0_1).bind fun t401=>(some (decide ((rd l1_2 0)≤t401)))) else(none)) else(some false)) else(if a1_0=2 then(some (((rd_T49 l0_1 (ji3)).f1) == 1)) else(if a1_0=3 then(if((rd_T49 l0_1 (ji3)).f1)=1 then(some true) else(some (((rd_T49 l0_1 (ji3)).f1) == 0))) else(some false)))) else(none)) else(none))=some r:=by first|(rw[hji3] at H;exact H)|(simp only[hji3] at H ⊢;exact H)
 have hji3w:(IntKind.i64.wrap (a1_1 - 1))=ji3:=(qai _).trans hji3;by_cases c4:0≤(ji3)
 ·rw[if_pos c4] at H;have c4b0:decide (0≤(ji3))=true:=decide_eq_true c4;clear c4;by_cases c5:(ji3)<(l0_1.length:Int)
  ·rw[if_pos c5] at H;have c5b0:decide ((ji3)<(l0_1.length:Int))=true:=decide_eq_true c5;clear c5;by_cases c6:a1_0=1
   ·rw[if_pos c6] at H;have c6b0:(a1_0 == 1)=true:=beq_iff_eq.mpr c6;have c6b1:(a1_0 != 1)=false:=bne_eq_false_iff_eq.mpr c6;clear c6;by_cases c7:((rd_T49 l0_1 (ji3)).f1)=0
    ·rw[if_pos c7] at H;have c7b0:(((rd_T49 l0_1 (ji3)).f1) == 0)=true:=beq_iff_eq.mpr c7;have c7b1:(((rd_T49 l0_1 (ji3)).f1) != 0)=false:=bne_eq_false_iff_eq.mpr c7;clear c7;by_cases c8:0<(l1_2.length:Int)
     ·rw[if_pos c8] at H;have c8b0:decide (0<(l1_2.length:Int))=true:=decide_eq_true c8;have c8b1:decide (0<l1_2.length)=true:=decide_eq_true (by omega);clear c8;replace H:=Option.bind_eq_some_iff.mp H;obtain⟨t401,A90,H⟩:=H;replace H:(some (decide ((rd l1_2 0)≤t401)))=some r:=H;have A9:=qaf.mk A90;clear A90;obtain rfl:=Option.some.inj H;go_enter Try.func90,Try.ntmps90
      try go_wp2_with(first|((with_reducible refine qam (N:=2) rfl ?_);refine zX (N:=2) (cs:=#[.int .i64 a0_0,.slice A0_1 l0_1.length c0_1]) (t:=38) ?_;intro gb397 hg w10 hbox hb;have BK397:=qaf.mk hbox;have GW397:=zH (w:=w) hg (za2 HB);have GE397:=GW397;replace HB:=qaf.mk (qad (za2 HB) hb);clear hb hbox hg)|((with_reducible refine qam (N:=3) rfl ?_);refine zX (N:=3) (cs:=#[.int .i64 a1_0,.int .i64 a1_1,.slice A1_2 l1_2.length c1_2]) (t:=32) ?_;intro gb398 hg w11 hbox hb;have BK398:=qaf.mk hbox;have GW398:=zH (w:=w) hg (za3 HB GE397);have GE398:=GW398;replace HB:=qaf.mk (qad (za3 HB GE397) hb);have NB397_398:=zL BK397 hg;have NB398_397:=zG BK397 hg;replace BK397:=zY BK397 hb;clear hb hbox hg;have hnb12:=NB397_398.out;have hnc12:=NB398_397.out;obtain⟨hcz13_0,hcz13_1,hfz13_0,hfz13_1⟩:=zC2 BK397;obtain⟨hcz14_0,hcz14_1,hcz14_2,hfz14_0,hfz14_1,hfz14_2⟩:=zC3 BK398;have p399:0≤((ji3):Int):=of_decide_eq_true (za10);have q399:(ji3)<(l0_1.length:Int):=of_decide_eq_true (za10);obtain⟨ad399,e399,hx399_0,hx399_1⟩:=at_T49 HR0_1.out (ji3) p399 q399;cases e399;replace hx399_0:=(HB.out.cell (World.block_lt_of_cell? w _ hx399_0)).trans hx399_0;replace hx399_1:=(HB.out.cell (World.block_lt_of_cell? w _ hx399_1)).trans hx399_1;replace p399:=eq_true p399;replace q399:=eq_true q399))
      replace BK397:=qaf.mk (qaa BK397.out);replace BK398:=qaf.mk (qaa BK398.out);replace HB:=qaf.mk (qas HB.out);have p400:0≤(0:Int):=(by omega);have q400:0<(l1_2.length:Int):=of_decide_eq_true (za10);obtain⟨ad400,e400,hx400_0⟩:=Kd.at_int HR1_2.out 0 p400 q400;have hw400_0:=hx400_0;(try rw[show((0:Int)).toNat=0 from rfl] at hw400_0);(try rw[show 0*1=0 from rfl] at hw400_0);(try rw[Addr.add_zero'] at hw400_0)
      cases e400
      have qi400:(0<l1_2.length)=True:=eq_true (by omega);(try rw[show((0:Int)).toNat=0 from rfl] at hx400_0);(try rw[Addr.add_zero'] at hx400_0);replace hx400_0:=(HB.out.cell (World.block_lt_of_cell? w _ hx400_0)).trans hx400_0;replace p400:=eq_true p400;replace q400:=eq_true q400
      refine start_ (n:=12) (S:=fun w'=>w'.cell? ⟨gb398,0,none⟩=some (.int .i64 a1_0)∧w'.cell? ⟨gb398,1,none⟩=some (.int .i64 a1_1)∧w'.cell? ⟨gb398,2,none⟩=some (.slice (some ad400) l1_2.length c1_2)∧w'.cell? ⟨gb397,0,none⟩=some (.int .i64 a0_0)∧w'.cell? ⟨gb397,1,none⟩=some (.slice (some ad399) l0_1.length c0_1)∧w'.cell? ad400=some (.int .i64 (rd l1_2 0))) (ds:=[]) #[false,false,false,false,false,false,false,false,false,false,false,false] (by kernel_rfl) rfl rfl ⟨(qae BK398.out 0).trans rfl,(qae BK398.out 1).trans rfl,(qae BK398.out 2).trans rfl,(qae BK397.out 0).trans rfl,(qae BK397.out 1).trans rfl,((HB.out.cell (World.block_lt_of_cell? w _ hw400_0)).trans hw400_0)⟩ (fun hHeld=>?_);refine qbc spec_l2May.tab4 spec_l2May.bits4 (fun HT_ HW_=>?_)
      generalize w11.drew=w15 at BK397 BK398 HB hx400_0 hHeld ⊢;refine qao (i:=0) (N:=some 18) (v:=?_) (a':=?_) #[true,false,false,false,false,false,false,false,false,false,false,false] rfl rfl (qak HT_.out (by kernel_rfl)) (fun _ _ _ h=>h) (Or.inl ⟨by rfl,?_⟩) ?_ ?_;rotate_left
      ·intro w';go_simp
       with_reducible rfl
      rotate_left
      ·simp only[Act.put,List.setIfInBounds_toArray,List.set_cons_zero,List.set_cons_succ,qai,qaj];rfl
      refine qao (i:=1) (N:=some 19) (v:=?_) (a':=?_) #[true,true,false,false,false,false,false,false,false,false,false,false] rfl rfl (qak HT_.out (by kernel_rfl)) (fun _ _ _ h=>h) (Or.inl ⟨by rfl,?_⟩) ?_ ?_;rotate_left
      ·intro w';go_simp
       with_reducible rfl
      rotate_left
      ·simp only[Act.put,List.setIfInBounds_toArray,List.set_cons_zero,List.set_cons_succ,qai,qaj];rfl
      refine qao (i:=2) (N:=some 20) (v:=?_) (a':=?_) #[true,true,true,false,false,false,false,false,false,false,false,false] rfl rfl (qak HT_.out (by kernel_rfl)) (fun _ _ _ h=>h) (Or.inl ⟨by rfl,?_⟩) ?_ ?_;rotate_left
      ·intro w';go_simp
       with_reducible rfl
      rotate_left
      ·simp only[Act.put,List.setIfInBounds_toArray,List.set_cons_zero,List.set_cons_succ,qai,qaj];rfl
      refine qao (i:=3) (N:=some 21) (v:=?_) (a':=?_) #[true,true,true,true,false,false,false,false,false,false,false,false] rfl rfl (qak HT_.out (by kernel_rfl)) (fun _ _ _ h=>h) (Or.inl ⟨by rfl,?_⟩) ?_ ?_;rotate_left
      ·intro w';go_simp
       with_reducible rfl
      rotate_left
      ·simp only[Act.put,List.setIfInBounds_toArray,List.set_cons_zero,List.set_cons_succ,qai,qaj];rfl
      refine take_ (i:=4) (N:=some 22) (v:=?_) (a':=?_) #[true,true,true,true,true,false,false,false,false,false,false,false] rfl rfl (qav HT_.out HW_.out (by kernel_rfl)) (fun _ _ _ h=>h) (Or.inl ⟨by rfl,?_⟩) hHeld ?_ ?_;rotate_left
      ·rintro w' ⟨s0,s1,s2,s3,s4,s5⟩;go_simp
       with_reducible rfl
      rotate_left
      ·simp only[Act.put,List.setIfInBounds_toArray,List.set_cons_zero,List.set_cons_succ,qai,qaj];rfl
      refine qao (i:=5) (N:=some 23) (v:=?_) (a':=?_) #[true,true,true,true,true,true,false,false,false,false,false,false] rfl rfl (qak HT_.out (by kernel_rfl)) (fun _ _ _ h=>h) (Or.inl ⟨by rfl,?_⟩) ?_ ?_;rotate_left
      ·intro w';go_simp
       with_reducible rfl
      rotate_left
      ·simp only[Act.put,List.setIfInBounds_toArray,List.set_cons_zero,List.set_cons_succ,qai,qaj];rfl
      refine take_ (i:=6) (N:=some 24) (v:=?_) (a':=?_) #[true,true,true,true,true,true,true,false,false,false,false,false] rfl rfl (qav HT_.out HW_.out (by kernel_rfl)) (fun _ _ _ h=>h) (Or.inl ⟨by rfl,?_⟩) hHeld ?_ ?_;rotate_left
      ·rintro w' ⟨s0,s1,s2,s3,s4,s5⟩;go_simp
       with_reducible rfl
      rotate_left
      ·simp only[Act.put,List.setIfInBounds_toArray,List.set_cons_zero,List.set_cons_succ,qai,qaj];rfl
      refine take_ (i:=7) (N:=some 25) (v:=?_) (a':=?_) #[true,true,true,true,true,true,true,true,false,false,false,false] rfl rfl (qav HT_.out HW_.out (by kernel_rfl)) (fun _ _ _ h=>h) (Or.inl ⟨by rfl,?_⟩) hHeld ?_ ?_;rotate_left
      ·rintro w' ⟨s0,s1,s2,s3,s4,s5⟩;go_simp
       with_reducible rfl
      rotate_left
      ·simp only[Act.put,List.setIfInBounds_toArray,List.set_cons_zero,List.set_cons_succ,qai,qaj];rfl
      refine one_ (i:=8) (N:=some 26) #[true,true,true,true,true,true,true,true,true,false,false,false] rfl rfl (one_of HT_.out (by kernel_rfl)) (by decide) (fun K hK=>?_);refine goes_ Try.func105 (by kernel_rfl) rfl #[.agg #[.int .i64 a0_0,.slice (some ad399) l0_1.length c0_1]] (by rfl) rfl rfl (by(try simp only[List.map_toArray,List.map_cons,List.map_nil]);first|done|rfl|(simp only[List.length_drop,List.length_take];rfl)) ?_
      with_reducible refine(spec_l2Free.calls k a0_0 _ _ l0_1 t401 _ ?side1 ?side2 A9.out).mono ?_
      (case side1=>exact zR HR0_1 HB);(case side2=>exact HC0_1.out);rintro e w16 ⟨rfl,hb⟩;refine⟨_,rfl,?_⟩;replace BK397:=zY BK397 hb;replace BK398:=zY BK398 hb;replace HB:=qaf.mk (qad (za4 HB GE397 GE398) hb);(try clear hb);(try clear hb2);(try clear hk);(try clear hi);refine hK.out _ _ ⟨(qae BK398.out 0).trans rfl,(qae BK398.out 1).trans rfl,(qae BK398.out 2).trans rfl,(qae BK397.out 0).trans rfl,(qae BK397.out 1).trans rfl,((HB.out.cell (World.block_lt_of_cell? w _ hw400_0)).trans hw400_0)⟩ (fun hHeld=>?_);clear hK K;refine qbb (a':=?_) ?_ ?_;rotate_left
      ·show Act.put _ (some 26) _=_;simp only[Act.put,List.setIfInBounds_toArray,List.set_cons_zero,List.set_cons_succ,qai,qaj];rfl
      refine qao (i:=9) (N:=some 27) (v:=?_) (a':=?_) #[true,true,true,true,true,true,true,true,true,true,false,false] rfl rfl (qak HT_.out (by kernel_rfl)) (fun _ _ _ h=>h) (Or.inl ⟨by rfl,?_⟩) ?_ ?_;rotate_left
      ·intro w';go_simp
       with_reducible rfl
      rotate_left
      ·simp only[Act.put,List.setIfInBounds_toArray,List.set_cons_zero,List.set_cons_succ,qai,qaj];rfl
      refine qao (i:=10) (N:=some 28) (v:=?_) (a':=?_) #[true,true,true,true,true,true,true,true,true,true,true,false] rfl rfl (qak HT_.out (by kernel_rfl)) (fun _ _ _ h=>h) (Or.inl ⟨by rfl,?_⟩) ?_ ?_;rotate_left
      ·intro w';go_simp
       with_reducible rfl
      rotate_left
      ·simp only[Act.put,List.setIfInBounds_toArray,List.set_cons_zero,List.set_cons_succ,qai,qaj];rfl
      refine qao (i:=11) (N:=some 4) (v:=?_) (a':=?_) #[true,true,true,true,true,true,true,true,true,true,true,true] rfl rfl (qak HT_.out (by kernel_rfl)) (fun _ _ _ h=>h) (Or.inl ⟨by rfl,?_⟩) ?_ ?_;rotate_left
      ·intro w';go_simp
       with_reducible rfl
      rotate_left
      ·simp only[Act.put,List.setIfInBounds_toArray,List.set_cons_zero,List.set_cons_succ,qai,qaj];rfl
      refine done_ (done_of HT_.out (by kernel_rfl)) ?_
      try go_wp2
      go_ret;exact⟨by first|rfl|(simp[qaq,qap]<;>rfl)|(simp only[←hji3];first|rfl|(simp[qaq,qap]<;>rfl))|(simp[*,qaq,qap]<;>rfl),za4 HB GE397 GE398⟩
     ·rw[if_neg c8] at H;exact absurd H (by simp)
    ·rw[if_neg c7] at H;have c7b0:(((rd_T49 l0_1 (ji3)).f1) == 0)=false:=beq_eq_false_iff_ne.mpr c7;have c7b1:(((rd_T49 l0_1 (ji3)).f1) != 0)=true:=bne_iff_ne.mpr c7;obtain rfl:=Option.some.inj H;go_enter Try.func90,Try.ntmps90
     try go_wp2_with(first|((with_reducible refine qam (N:=2) rfl ?_);refine zX (N:=2) (cs:=#[.int .i64 a0_0,.slice A0_1 l0_1.length c0_1]) (t:=38) ?_;intro gb397 hg w17 hbox hb;have BK397:=qaf.mk hbox;have GW397:=zH (w:=w) hg (za2 HB);have GE397:=GW397;replace HB:=qaf.mk (qad (za2 HB) hb);clear hb hbox hg)|((with_reducible refine qam (N:=3) rfl ?_);refine zX (N:=3) (cs:=#[.int .i64 a1_0,.int .i64 a1_1,.slice A1_2 l1_2.length c1_2]) (t:=32) ?_;intro gb398 hg w18 hbox hb;have BK398:=qaf.mk hbox;have GW398:=zH (w:=w) hg (za3 HB GE397);have GE398:=GW398;replace HB:=qaf.mk (qad (za3 HB GE397) hb);have NB397_398:=zL BK397 hg;have NB398_397:=zG BK397 hg;replace BK397:=zY BK397 hb;clear hb hbox hg;have hnb19:=NB397_398.out;have hnc19:=NB398_397.out;obtain⟨hcz20_0,hcz20_1,hfz20_0,hfz20_1⟩:=zC2 BK397;obtain⟨hcz21_0,hcz21_1,hcz21_2,hfz21_0,hfz21_1,hfz21_2⟩:=zC3 BK398;have p399:0≤((ji3):Int):=of_decide_eq_true (za10);have q399:(ji3)<(l0_1.length:Int):=of_decide_eq_true (za10);obtain⟨ad399,e399,hx399_0,hx399_1⟩:=at_T49 HR0_1.out (ji3) p399 q399;cases e399;replace hx399_0:=(HB.out.cell (World.block_lt_of_cell? w _ hx399_0)).trans hx399_0;replace hx399_1:=(HB.out.cell (World.block_lt_of_cell? w _ hx399_1)).trans hx399_1;replace p399:=eq_true p399;replace q399:=eq_true q399))
     replace BK397:=qaf.mk (qaa BK397.out);replace BK398:=qaf.mk (qaa BK398.out);replace HB:=qaf.mk (qas HB.out);refine start_ (n:=12) (S:=fun w'=>True) (ds:=[]) #[false,false,false,false,false,false,false,false,false,false,false,false] (by kernel_rfl) rfl rfl trivial (fun hHeld=>?_);refine qbc spec_l2May.tab4 spec_l2May.bits4 (fun HT_ HW_=>?_);generalize w18.drew=w22 at BK397 BK398 HB hHeld ⊢;refine qao (i:=0) (N:=some 18) (v:=?_) (a':=?_) #[true,false,false,false,false,false,false,false,false,false,false,false] rfl rfl (qak HT_.out (by kernel_rfl)) (fun _ _ _ h=>h) (Or.inl ⟨by rfl,?_⟩) ?_ ?_;rotate_left
     ·intro w';go_simp
      with_reducible rfl
     rotate_left
     ·simp only[Act.put,List.setIfInBounds_toArray,List.set_cons_zero,List.set_cons_succ,qai,qaj];rfl
     refine qao (i:=1) (N:=some 19) (v:=?_) (a':=?_) #[true,true,false,false,false,false,false,false,false,false,false,false] rfl rfl (qak HT_.out (by kernel_rfl)) (fun _ _ _ h=>h) (Or.inl ⟨by rfl,?_⟩) ?_ ?_;rotate_left
     ·intro w';go_simp
      with_reducible rfl
     rotate_left
     ·simp only[Act.put,List.setIfInBounds_toArray,List.set_cons_zero,List.set_cons_succ,qai,qaj];rfl
     refine qao (i:=2) (N:=some 20) (v:=?_) (a':=?_) #[true,true,true,false,false,false,false,false,false,false,false,false] rfl rfl (qak HT_.out (by kernel_rfl)) (fun _ _ _ h=>h) (Or.inl ⟨by rfl,?_⟩) ?_ ?_;rotate_left
     ·intro w';go_simp
      with_reducible rfl
     rotate_left
     ·simp only[Act.put,List.setIfInBounds_toArray,List.set_cons_zero,List.set_cons_succ,qai,qaj];rfl
     refine qao (i:=3) (N:=some 21) (v:=undef) (a':=?_) #[true,true,true,true,false,false,false,false,false,false,false,false] rfl rfl (qak HT_.out (by kernel_rfl)) (fun _ _ _ h=>h) (Or.inr ⟨by rfl,rfl⟩) ?_ ?_;rotate_left
     ·simp only[Act.put,List.setIfInBounds_toArray,List.set_cons_zero,List.set_cons_succ,qai,qaj];rfl
     refine qao (i:=4) (N:=some 22) (v:=undef) (a':=?_) #[true,true,true,true,true,false,false,false,false,false,false,false] rfl rfl (qak HT_.out (by kernel_rfl)) (fun _ _ _ h=>h) (Or.inr ⟨by rfl,rfl⟩) ?_ ?_;rotate_left
     ·simp only[Act.put,List.setIfInBounds_toArray,List.set_cons_zero,List.set_cons_succ,qai,qaj];rfl
     refine qao (i:=5) (N:=some 23) (v:=undef) (a':=?_) #[true,true,true,true,true,true,false,false,false,false,false,false] rfl rfl (qak HT_.out (by kernel_rfl)) (fun _ _ _ h=>h) (Or.inr ⟨by rfl,rfl⟩) ?_ ?_;rotate_left
     ·simp only[Act.put,List.setIfInBounds_toArray,List.set_cons_zero,List.set_cons_succ,qai,qaj];rfl
     refine qao (i:=6) (N:=some 24) (v:=undef) (a':=?_) #[true,true,true,true,true,true,true,false,false,false,false,false] rfl rfl (qak HT_.out (by kernel_rfl)) (fun _ _ _ h=>h) (Or.inr ⟨by rfl,rfl⟩) ?_ ?_;rotate_left
     ·simp only[Act.put,List.setIfInBounds_toArray,List.set_cons_zero,List.set_cons_succ,qai,qaj];rfl
     refine qao (i:=7) (N:=some 25) (v:=undef) (a':=?_) #[true,true,true,true,true,true,true,true,false,false,false,false] rfl rfl (qak HT_.out (by kernel_rfl)) (fun _ _ _ h=>h) (Or.inr ⟨by rfl,rfl⟩) ?_ ?_;rotate_left
     ·simp only[Act.put,List.setIfInBounds_toArray,List.set_cons_zero,List.set_cons_succ,qai,qaj];rfl
     refine qao (i:=8) (N:=some 26) (v:=undef) (a':=?_) #[true,true,true,true,true,true,true,true,true,false,false,false] rfl rfl (qak HT_.out (by kernel_rfl)) (fun _ _ _ h=>h) (Or.inr ⟨by rfl,rfl⟩) ?_ ?_;rotate_left
     ·simp only[Act.put,List.setIfInBounds_toArray,List.set_cons_zero,List.set_cons_succ,qai,qaj];rfl
     refine qao (i:=9) (N:=some 27) (v:=undef) (a':=?_) #[true,true,true,true,true,true,true,true,true,true,false,false] rfl rfl (qak HT_.out (by kernel_rfl)) (fun _ _ _ h=>h) (Or.inr ⟨by rfl,rfl⟩) ?_ ?_;rotate_left
     ·simp only[Act.put,List.setIfInBounds_toArray,List.set_cons_zero,List.set_cons_succ,qai,qaj];rfl
     refine qao (i:=10) (N:=some 28) (v:=?_) (a':=?_) #[true,true,true,true,true,true,true,true,true,true,true,false] rfl rfl (qak HT_.out (by kernel_rfl)) (fun _ _ _ h=>h) (Or.inl ⟨by rfl,?_⟩) ?_ ?_;rotate_left
     ·intro w';go_simp
      with_reducible rfl
     rotate_left
     ·simp only[Act.put,List.setIfInBounds_toArray,List.set_cons_zero,List.set_cons_succ,qai,qaj];rfl
     refine qao (i:=11) (N:=some 4) (v:=?_) (a':=?_) #[true,true,true,true,true,true,true,true,true,true,true,true] rfl rfl (qak HT_.out (by kernel_rfl)) (fun _ _ _ h=>h) (Or.inl ⟨by rfl,?_⟩) ?_ ?_;rotate_left
     ·intro w';go_simp
      with_reducible rfl
     rotate_left
     ·simp only[Act.put,List.setIfInBounds_toArray,List.set_cons_zero,List.set_cons_succ,qai,qaj];rfl
     refine done_ (done_of HT_.out (by kernel_rfl)) ?_
     try go_wp2
     go_ret;exact⟨by first|rfl|(simp[qaq,qap]<;>rfl)|(simp only[←hji3];first|rfl|(simp[qaq,qap]<;>rfl))|(simp[*,qaq,qap]<;>rfl),za4 HB GE397 GE398⟩
   ·rw[if_neg c6] at H;have c6b0:(a1_0 == 1)=false:=beq_eq_false_iff_ne.mpr c6;have c6b1:(a1_0 != 1)=true:=bne_iff_ne.mpr c6;by_cases c23:a1_0=2
    ·rw[if_pos c23] at H;have c23b0:(a1_0 == 2)=true:=beq_iff_eq.mpr c23;have c23b1:(a1_0 != 2)=false:=bne_eq_false_iff_eq.mpr c23;clear c23;obtain rfl:=Option.some.inj H;go_enter Try.func90,Try.ntmps90
     go_wp2_with(first|((with_reducible refine qam (N:=2) rfl ?_);refine zX (N:=2) (cs:=#[.int .i64 a0_0,.slice A0_1 l0_1.length c0_1]) (t:=38) ?_;intro gb397 hg w24 hbox hb;have BK397:=qaf.mk hbox;have GW397:=zH (w:=w) hg (za2 HB);have GE397:=GW397;replace HB:=qaf.mk (qad (za2 HB) hb);clear hb hbox hg)|((with_reducible refine qam (N:=3) rfl ?_);refine zX (N:=3) (cs:=#[.int .i64 a1_0,.int .i64 a1_1,.slice A1_2 l1_2.length c1_2]) (t:=32) ?_;intro gb398 hg w25 hbox hb;have BK398:=qaf.mk hbox;have GW398:=zH (w:=w) hg (za3 HB GE397);have GE398:=GW398;replace HB:=qaf.mk (qad (za3 HB GE397) hb);have NB397_398:=zL BK397 hg;have NB398_397:=zG BK397 hg;replace BK397:=zY BK397 hb;clear hb hbox hg;have hnb26:=NB397_398.out;have hnc26:=NB398_397.out;obtain⟨hcz27_0,hcz27_1,hfz27_0,hfz27_1⟩:=zC2 BK397;obtain⟨hcz28_0,hcz28_1,hcz28_2,hfz28_0,hfz28_1,hfz28_2⟩:=zC3 BK398;have p399:0≤((ji3):Int):=of_decide_eq_true (za10);have q399:(ji3)<(l0_1.length:Int):=of_decide_eq_true (za10);obtain⟨ad399,e399,hx399_0,hx399_1⟩:=at_T49 HR0_1.out (ji3) p399 q399;cases e399;replace hx399_0:=(HB.out.cell (World.block_lt_of_cell? w _ hx399_0)).trans hx399_0;replace hx399_1:=(HB.out.cell (World.block_lt_of_cell? w _ hx399_1)).trans hx399_1;replace p399:=eq_true p399;replace q399:=eq_true q399))
     go_ret;exact⟨by first|rfl|(simp[qaq,qap]<;>rfl)|(simp only[←hji3];first|rfl|(simp[qaq,qap]<;>rfl))|(simp[*,qaq,qap]<;>rfl),za4 HB GE397 GE398⟩
    ·rw[if_neg c23] at H;have c23b0:(a1_0 == 2)=false:=beq_eq_false_iff_ne.mpr c23;have c23b1:(a1_0 != 2)=true:=bne_iff_ne.mpr c23;by_cases c29:a1_0=3
     ·rw[if_pos c29] at H;have c29b0:(a1_0 == 3)=true:=beq_iff_eq.mpr c29;have c29b1:(a1_0 != 3)=false:=bne_eq_false_iff_eq.mpr c29;clear c29;by_cases c30:((rd_T49 l0_1 (ji3)).f1)=1
      ·rw[if_pos c30] at H;have c30b0:(((rd_T49 l0_1 (ji3)).f1) == 1)=true:=beq_iff_eq.mpr c30;have c30b1:(((rd_T49 l0_1 (ji3)).f1) != 1)=false:=bne_eq_false_iff_eq.mpr c30;clear c30;obtain rfl:=Option.some.inj H;go_enter Try.func90,Try.ntmps90
       go_wp2_with(first|((with_reducible refine qam (N:=2) rfl ?_);refine zX (N:=2) (cs:=#[.int .i64 a0_0,.slice A0_1 l0_1.length c0_1]) (t:=38) ?_;intro gb397 hg w31 hbox hb;have BK397:=qaf.mk hbox;have GW397:=zH (w:=w) hg (za2 HB);have GE397:=GW397;replace HB:=qaf.mk (qad (za2 HB) hb);clear hb hbox hg)|((with_reducible refine qam (N:=3) rfl ?_);refine zX (N:=3) (cs:=#[.int .i64 a1_0,.int .i64 a1_1,.slice A1_2 l1_2.length c1_2]) (t:=32) ?_;intro gb398 hg w32 hbox hb;have BK398:=qaf.mk hbox;have GW398:=zH (w:=w) hg (za3 HB GE397);have GE398:=GW398;replace HB:=qaf.mk (qad (za3 HB GE397) hb);have NB397_398:=zL BK397 hg;have NB398_397:=zG BK397 hg;replace BK397:=zY BK397 hb;clear hb hbox hg;have hnb33:=NB397_398.out;have hnc33:=NB398_397.out;obtain⟨hcz34_0,hcz34_1,hfz34_0,hfz34_1⟩:=zC2 BK397;obtain⟨hcz35_0,hcz35_1,hcz35_2,hfz35_0,hfz35_1,hfz35_2⟩:=zC3 BK398;have p399:0≤((ji3):Int):=of_decide_eq_true (za10);have q399:(ji3)<(l0_1.length:Int):=of_decide_eq_true (za10);obtain⟨ad399,e399,hx399_0,hx399_1⟩:=at_T49 HR0_1.out (ji3) p399 q399;cases e399;replace hx399_0:=(HB.out.cell (World.block_lt_of_cell? w _ hx399_0)).trans hx399_0;replace hx399_1:=(HB.out.cell (World.block_lt_of_cell? w _ hx399_1)).trans hx399_1;replace p399:=eq_true p399;replace q399:=eq_true q399))
       go_ret;exact⟨by first|rfl|(simp[qaq,qap]<;>rfl)|(simp only[←hji3];first|rfl|(simp[qaq,qap]<;>rfl))|(simp[*,qaq,qap]<;>rfl),za4 HB GE397 GE398⟩
      ·rw[if_neg c30] at H;have c30b0:(((rd_T49 l0_1 (ji3)).f1) == 1)=false:=beq_eq_false_iff_ne.mpr c30;have c30b1:(((rd_T49 l0_1 (ji3)).f1) != 1)=true:=bne_iff_ne.mpr c30;obtain rfl:=Option.some.inj H;go_enter Try.func90,Try.ntmps90
       go_wp2_with(first|((with_reducible refine qam (N:=2) rfl ?_);refine zX (N:=2) (cs:=#[.int .i64 a0_0,.slice A0_1 l0_1.length c0_1]) (t:=38) ?_;intro gb397 hg w36 hbox hb;have BK397:=qaf.mk hbox;have GW397:=zH (w:=w) hg (za2 HB);have GE397:=GW397;replace HB:=qaf.mk (qad (za2 HB) hb);clear hb hbox hg)|((with_reducible refine qam (N:=3) rfl ?_);refine zX (N:=3) (cs:=#[.int .i64 a1_0,.int .i64 a1_1,.slice A1_2 l1_2.length c1_2]) (t:=32) ?_;intro gb398 hg w37 hbox hb;have BK398:=qaf.mk hbox;have GW398:=zH (w:=w) hg (za3 HB GE397);have GE398:=GW398;replace HB:=qaf.mk (qad (za3 HB GE397) hb);have NB397_398:=zL BK397 hg;have NB398_397:=zG BK397 hg;replace BK397:=zY BK397 hb;clear hb hbox hg;have hnb38:=NB397_398.out;have hnc38:=NB398_397.out;obtain⟨hcz39_0,hcz39_1,hfz39_0,hfz39_1⟩:=zC2 BK397;obtain⟨hcz40_0,hcz40_1,hcz40_2,hfz40_0,hfz40_1,hfz40_2⟩:=zC3 BK398;have p399:0≤((ji3):Int):=of_decide_eq_true (za10);have q399:(ji3)<(l0_1.length:Int):=of_decide_eq_true (za10);obtain⟨ad399,e399,hx399_0,hx399_1⟩:=at_T49 HR0_1.out (ji3) p399 q399;cases e399;replace hx399_0:=(HB.out.cell (World.block_lt_of_cell? w _ hx399_0)).trans hx399_0;replace hx399_1:=(HB.out.cell (World.block_lt_of_cell? w _ hx399_1)).trans hx399_1;replace p399:=eq_true p399;replace q399:=eq_true q399))
       go_ret;exact⟨by first|rfl|(simp[qaq,qap]<;>rfl)|(simp only[←hji3];first|rfl|(simp[qaq,qap]<;>rfl))|(simp[*,qaq,qap]<;>rfl),za4 HB GE397 GE398⟩
     ·rw[if_neg c29] at H;have c29b0:(a1_0 == 3)=false:=beq_eq_false_iff_ne.mpr c29;have c29b1:(a1_0 != 3)=true:=bne_iff_ne.mpr c29;obtain rfl:=Option.some.inj H;go_enter Try.func90,Try.ntmps90
      go_wp2_with(first|((with_reducible refine qam (N:=2) rfl ?_);refine zX (N:=2) (cs:=#[.int .i64 a0_0,.slice A0_1 l0_1.length c0_1]) (t:=38) ?_;intro gb397 hg w41 hbox hb;have BK397:=qaf.mk hbox;have GW397:=zH (w:=w) hg (za2 HB);have GE397:=GW397;replace HB:=qaf.mk (qad (za2 HB) hb);clear hb hbox hg)|((with_reducible refine qam (N:=3) rfl ?_);refine zX (N:=3) (cs:=#[.int .i64 a1_0,.int .i64 a1_1,.slice A1_2 l1_2.length c1_2]) (t:=32) ?_;intro gb398 hg w42 hbox hb;have BK398:=qaf.mk hbox;have GW398:=zH (w:=w) hg (za3 HB GE397);have GE398:=GW398;replace HB:=qaf.mk (qad (za3 HB GE397) hb);have NB397_398:=zL BK397 hg;have NB398_397:=zG BK397 hg;replace BK397:=zY BK397 hb;clear hb hbox hg;have hnb43:=NB397_398.out;have hnc43:=NB398_397.out;obtain⟨hcz44_0,hcz44_1,hfz44_0,hfz44_1⟩:=zC2 BK397;obtain⟨hcz45_0,hcz45_1,hcz45_2,hfz45_0,hfz45_1,hfz45_2⟩:=zC3 BK398;have p399:0≤((ji3):Int):=of_decide_eq_true (za10);have q399:(ji3)<(l0_1.length:Int):=of_decide_eq_true (za10);obtain⟨ad399,e399,hx399_0,hx399_1⟩:=at_T49 HR0_1.out (ji3) p399 q399;cases e399;replace hx399_0:=(HB.out.cell (World.block_lt_of_cell? w _ hx399_0)).trans hx399_0;replace hx399_1:=(HB.out.cell (World.block_lt_of_cell? w _ hx399_1)).trans hx399_1;replace p399:=eq_true p399;replace q399:=eq_true q399))
      go_ret;exact⟨by first|rfl|(simp[qaq,qap]<;>rfl)|(simp only[←hji3];first|rfl|(simp[qaq,qap]<;>rfl))|(simp[*,qaq,qap]<;>rfl),za4 HB GE397 GE398⟩
  ·rw[if_neg c5] at H;exact absurd H (by simp)
 ·rw[if_neg c4] at H;exact absurd H (by simp)
end Go.Proofs.Ytmbdphefnalenaa.Print
