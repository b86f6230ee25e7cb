-- Written by squeeze.py: not trusted, Lean checks it.
import Derived.Test.YtbomcadjkcmcgaaZK
namespace Go.Proofs.Ytbomcadjkcmcgaa.Print
open Go.RowKit Go.Proofs.YtbomcadjkcmcgaaW.PrintWords Go.Proofs.YtbomcadjkcmcgaaW.PrintLast Go.Proofs.YtbomcadjkcmcgaaW.PrintMore
attribute [local go_sem] max2_int min2_int max_two min_two max_three min_three max_four min_four
set_option linter.unusedVariables false
set_option linter.unusedSimpArgs false
def spec_l2Free.l0:Nat→Int→Int→Int→List (S72)→Option (Int)
 |0,_,_,_,_=>none
 |k+1,x3,x4,x124000,x124001=>if x4<(x124001.length:Int) then(if 0≤x4 then(if((rd_T72 x124001 x4).f1)=1 then(spec_l2Free.l0 k (wrap64 (x3 - ((rd_T72 x124001 x4).f0))) (wrap64 (x4+1)) x124000 x124001) else(if((rd_T72 x124001 x4).f1)=2 then(spec_l2Free.l0 k (wrap64 (x3 - ((rd_T72 x124001 x4).f0))) (wrap64 (x4+1)) x124000 x124001) else(spec_l2Free.l0 k x3 (wrap64 (x4+1)) x124000 x124001))) else(none)) else(some x3)
def spec_l2Free.f (k:Nat) (a0_0:Int) (l0_1:List (S72)):Option (Int):=spec_l2Free.l0 k a0_0 0 a0_0 l0_1
theorem spec_l2Free.mono_l:∀k,(∀y0 y1 y2 y3,LeO (spec_l2Free.l0 k y0 y1 y2 y3) (spec_l2Free.l0 (k+1) y0 y1 y2 y3))
 |0=>fun _ _ _ _ r h=>by simp[spec_l2Free.l0] at h
 |k+1=>by
  have ih0:=spec_l2Free.mono_l k
  ·intro y0 y1 y2 y3;unfold spec_l2Free.l0
   repeat' first|(with_reducible exact ih0 _ _ _ _)|(with_reducible exact LeO.refl _)|(with_reducible exact LeO.none _)|(with_reducible refine LeO.ite ?_ ?_)|(with_reducible refine LeO.bind ?_ (fun _=>?_))|exact ih0 _ _ _ _|exact LeO.none _|refine LeO.ite ?_ ?_|refine LeO.bind ?_ (fun _=>?_)
theorem spec_l2Free.mono:∀a0 a1 k,LeO (spec_l2Free.f k a0 a1) (spec_l2Free.f (k+1) a0 a1):=by
 intro a0 a1 k;have ih0:=spec_l2Free.mono_l k;unfold spec_l2Free.f
 repeat' first|(with_reducible exact ih0 _ _ _ _)|(with_reducible exact LeO.refl _)|(with_reducible exact LeO.none _)|(with_reducible refine LeO.ite ?_ ?_)|(with_reducible refine LeO.bind ?_ (fun _=>?_))|exact ih0 _ _ _ _|exact LeO.none _|refine LeO.ite ?_ ?_|refine LeO.bind ?_ (fun _=>?_)
set_option maxHeartbeats 8000000 in
set_option maxRecDepth 100000 in
theorem spec_l2Free.calls (k:Nat) (a0_0:Int) (A0_1:Option Addr) (c0_1:Nat) (l0_1:List (S72)) (r:Int) (w:World) (hr0_1:Kd.C k72 w A0_1 l0_1.length l0_1) (hc0_1:l0_1.length≤c0_1) (h:spec_l2Free.f k a0_0 l0_1=some r) :
  Calls Try.prog 49 #[.agg #[.int .i64 a0_0,.slice A0_1 l0_1.length c0_1]] w fun e w'=>e=.returned (.int .i64 r)∧Below w.heap.size w w':=by
 have hu39:=Try.underlying39;have HR0_1:=qah.mk hr0_1;have HC0_1:=qah.mk hc0_1;clear hr0_1 hc0_1;have HB:=qah.mk (Below.refl w.heap.size w);have H:(spec_l2Free.l0 k a0_0 0 a0_0 l0_1)=some r:=h;clear h;have H':=qah.mk H;clear H;go_enter Try.func49,Try.ntmps49
 go_wp2_with(first|((with_reducible refine qag (N:=1) rfl ?_);refine zX (N:=1) (cs:=#[.int .i64 a0_0,.slice A0_1 l0_1.length c0_1]) (t:=39) ?_;intro gb123 hg w2 hbox hb;have BK123:=qah.mk hbox;have GW123:=zH (w:=w) hg (za1 HB);have GE123:=GW123;replace HB:=qah.mk (qaa (za1 HB) hb);clear hb hbox hg;obtain⟨hcz3_0,hcz3_1,hfz3_0,hfz3_1⟩:=zC2 BK123))
 go_loopg [3,4] k (fun kq v3 v4 w'=>∃(x3_1:Int) (x4_1:Int),v3=.int .i64 x3_1∧v4=.int .i64 x4_1∧qah (spec_l2Free.l0 kq x3_1 x4_1 a0_0 l0_1=some r)∧qah (kq≤k)∧qah (w'.heap[gb123]?=some (.cells #[.int .i64 a0_0,(.slice A0_1 l0_1.length c0_1)] 39 (0,0)))∧qah (Below w.heap.size w w'))
 case atStart=>exact⟨(a0_0),(0),(za11),(za11),H',⟨Nat.le_refl _⟩,⟨za12 BK123⟩,⟨za0 HB GE123⟩⟩
 case round=>
  clear H'
  try clear p2
  try clear hcz3_0
  try clear hcz3_1
  try clear hfz3_0
  try clear hfz3_1
  obtain⟨x3_1,x4_1,rfl,rfl,HA,HK1,BK123,HB⟩:=hrel
  cases gk with
  |zero=>exact absurd HA.out (by simp[spec_l2Free.l0])
  |succ k1=>
   have H:=HA.out;clear HA;simp only[spec_l2Free.l0] at H;by_cases c4:x4_1<(l0_1.length:Int)
   ·rw[if_pos c4] at H;have c4b0:decide (x4_1<(l0_1.length:Int))=true:=decide_eq_true c4;clear c4;by_cases c5:0≤x4_1
    ·rw[if_pos c5] at H;have c5b0:decide (0≤x4_1)=true:=decide_eq_true c5;clear c5;by_cases c6:((rd_T72 l0_1 x4_1).f1)=1
     ·rw[if_pos c6] at H;have c6b0:(((rd_T72 l0_1 x4_1).f1) == 1)=true:=beq_iff_eq.mpr c6;have c6b1:(((rd_T72 l0_1 x4_1).f1) != 1)=false:=bne_eq_false_iff_eq.mpr c6;clear c6;have H':=qah.mk H;clear H;obtain⟨hcz7_0,hcz7_1,hfz7_0,hfz7_1⟩:=zC2 BK123;have p124:0≤(x4_1:Int):=of_decide_eq_true (za7);have q124:x4_1<(l0_1.length:Int):=of_decide_eq_true (za7);obtain⟨ad124,e124,hx124_0,hx124_1⟩:=at_T72 HR0_1.out x4_1 p124 q124
      cases e124
      replace hx124_0:=(HB.out.cell (World.block_lt_of_cell? w _ hx124_0)).trans hx124_0;replace hx124_1:=(HB.out.cell (World.block_lt_of_cell? w _ hx124_1)).trans hx124_1;replace p124:=eq_true p124;replace q124:=eq_true q124;have p125:0≤(x4_1:Int):=of_decide_eq_true (za7);have q125:x4_1<(l0_1.length:Int):=of_decide_eq_true (za7);obtain⟨ad125,e125,hx125_0,hx125_1⟩:=at_T72 HR0_1.out x4_1 p125 q125;obtain rfl:ad124=ad125:=(by injection e125);replace hx125_0:=(HB.out.cell (World.block_lt_of_cell? w _ hx125_0)).trans hx125_0;replace hx125_1:=(HB.out.cell (World.block_lt_of_cell? w _ hx125_1)).trans hx125_1;replace p125:=eq_true p125;replace q125:=eq_true q125;go_wp2
      go_roundg k1
      case measure=>have:=HK1.out;omega
      case rel=>exact⟨(wrap64 (x3_1 - ((rd_T72 l0_1 x4_1).f0))),(wrap64 (x4_1+1)),(za11),(za11),H',⟨by have:=HK1.out;omega⟩,⟨za12 BK123⟩,⟨za0 HB GE123⟩⟩
     ·rw[if_neg c6] at H;have c6b0:(((rd_T72 l0_1 x4_1).f1) == 1)=false:=beq_eq_false_iff_ne.mpr c6;have c6b1:(((rd_T72 l0_1 x4_1).f1) != 1)=true:=bne_iff_ne.mpr c6;by_cases c8:((rd_T72 l0_1 x4_1).f1)=2
      ·rw[if_pos c8] at H;have c8b0:(((rd_T72 l0_1 x4_1).f1) == 2)=true:=beq_iff_eq.mpr c8;have c8b1:(((rd_T72 l0_1 x4_1).f1) != 2)=false:=bne_eq_false_iff_eq.mpr c8;clear c8;have H':=qah.mk H;clear H;obtain⟨hcz9_0,hcz9_1,hfz9_0,hfz9_1⟩:=zC2 BK123;have p124:0≤(x4_1:Int):=of_decide_eq_true (za7);have q124:x4_1<(l0_1.length:Int):=of_decide_eq_true (za7);obtain⟨ad124,e124,hx124_0,hx124_1⟩:=at_T72 HR0_1.out x4_1 p124 q124
       cases e124
       replace hx124_0:=(HB.out.cell (World.block_lt_of_cell? w _ hx124_0)).trans hx124_0;replace hx124_1:=(HB.out.cell (World.block_lt_of_cell? w _ hx124_1)).trans hx124_1;replace p124:=eq_true p124;replace q124:=eq_true q124;have p126:0≤(x4_1:Int):=of_decide_eq_true (za7);have q126:x4_1<(l0_1.length:Int):=of_decide_eq_true (za7);obtain⟨ad126,e126,hx126_0,hx126_1⟩:=at_T72 HR0_1.out x4_1 p126 q126;obtain rfl:ad124=ad126:=(by injection e126);replace hx126_0:=(HB.out.cell (World.block_lt_of_cell? w _ hx126_0)).trans hx126_0;replace hx126_1:=(HB.out.cell (World.block_lt_of_cell? w _ hx126_1)).trans hx126_1;replace p126:=eq_true p126;replace q126:=eq_true q126;have p127:0≤(x4_1:Int):=of_decide_eq_true (za7);have q127:x4_1<(l0_1.length:Int):=of_decide_eq_true (za7);obtain⟨ad127,e127,hx127_0,hx127_1⟩:=at_T72 HR0_1.out x4_1 p127 q127;obtain rfl:ad124=ad127:=(by injection e127);replace hx127_0:=(HB.out.cell (World.block_lt_of_cell? w _ hx127_0)).trans hx127_0;replace hx127_1:=(HB.out.cell (World.block_lt_of_cell? w _ hx127_1)).trans hx127_1;replace p127:=eq_true p127;replace q127:=eq_true q127;go_wp2
       go_roundg k1
       case measure=>have:=HK1.out;omega
       case rel=>exact⟨(wrap64 (x3_1 - ((rd_T72 l0_1 x4_1).f0))),(wrap64 (x4_1+1)),(za11),(za11),H',⟨by have:=HK1.out;omega⟩,⟨za12 BK123⟩,⟨za0 HB GE123⟩⟩
      ·rw[if_neg c8] at H;have c8b0:(((rd_T72 l0_1 x4_1).f1) == 2)=false:=beq_eq_false_iff_ne.mpr c8;have c8b1:(((rd_T72 l0_1 x4_1).f1) != 2)=true:=bne_iff_ne.mpr c8;have H':=qah.mk H;clear H;obtain⟨hcz10_0,hcz10_1,hfz10_0,hfz10_1⟩:=zC2 BK123;have p124:0≤(x4_1:Int):=of_decide_eq_true (za7);have q124:x4_1<(l0_1.length:Int):=of_decide_eq_true (za7);obtain⟨ad124,e124,hx124_0,hx124_1⟩:=at_T72 HR0_1.out x4_1 p124 q124
       cases e124
       replace hx124_0:=(HB.out.cell (World.block_lt_of_cell? w _ hx124_0)).trans hx124_0;replace hx124_1:=(HB.out.cell (World.block_lt_of_cell? w _ hx124_1)).trans hx124_1;replace p124:=eq_true p124;replace q124:=eq_true q124;have p126:0≤(x4_1:Int):=of_decide_eq_true (za7);have q126:x4_1<(l0_1.length:Int):=of_decide_eq_true (za7);obtain⟨ad126,e126,hx126_0,hx126_1⟩:=at_T72 HR0_1.out x4_1 p126 q126;obtain rfl:ad124=ad126:=(by injection e126);replace hx126_0:=(HB.out.cell (World.block_lt_of_cell? w _ hx126_0)).trans hx126_0;replace hx126_1:=(HB.out.cell (World.block_lt_of_cell? w _ hx126_1)).trans hx126_1;replace p126:=eq_true p126;replace q126:=eq_true q126;go_wp2
       go_roundg k1
       case measure=>have:=HK1.out;omega
       case rel=>exact⟨(x3_1),(wrap64 (x4_1+1)),(za11),(za11),H',⟨by have:=HK1.out;omega⟩,⟨za12 BK123⟩,⟨za0 HB GE123⟩⟩
    ·rw[if_neg c5] at H;exact absurd H (by simp)
   ·rw[if_neg c4] at H;have c4b0:decide (x4_1<(l0_1.length:Int))=false:=decide_eq_false c4;clear c4;obtain rfl:=Option.some.inj H;obtain⟨hcz11_0,hcz11_1,hfz11_0,hfz11_1⟩:=zC2 BK123;go_wp2;go_ret;exact⟨za8,za0 HB GE123⟩
def spec_l2May.f (k:Nat) (a0_0:Int) (l0_1:List (S72)) (a1_0:Int) (a1_1:Int) (l1_2:List Int):Option (Bool):=if 0≤(wrap64 (a1_1 - 1)) then(if(wrap64 (a1_1 - 1))<(l0_1.length:Int) then(if a1_0=1 then(if((rd_T72 l0_1 (wrap64 (a1_1 - 1))).f1)=0 then(if 0<(l1_2.length:Int) then((spec_l2Free.f k a0_0 l0_1).bind fun t132=>(some (decide ((rd l1_2 0)≤t132)))) else(none)) else(some false)) else(if a1_0=2 then(some (((rd_T72 l0_1 (wrap64 (a1_1 - 1))).f1) == 1)) else(if a1_0=3 then(if((rd_T72 l0_1 (wrap64 (a1_1 - 1))).f1)=1 then(some true) else(some (((rd_T72 l0_1 (wrap64 (a1_1 - 1))).f1) == 0))) else(some false)))) else(none)) else(none)
theorem spec_l2May.mono:∀a0 a1 a2 a3 a4 k,LeO (spec_l2May.f k a0 a1 a2 a3 a4) (spec_l2May.f (k+1) a0 a1 a2 a3 a4):=by
 intro a0 a1 a2 a3 a4 k;unfold spec_l2May.f
 repeat' first|(with_reducible exact spec_l2Free.mono _ _ _)|(with_reducible exact LeO.refl _)|(with_reducible exact LeO.none _)|(with_reducible refine LeO.ite ?_ ?_)|(with_reducible refine LeO.bind ?_ (fun _=>?_))|exact spec_l2Free.mono _ _ _|exact LeO.none _|refine LeO.ite ?_ ?_|refine LeO.bind ?_ (fun _=>?_)
def spec_l2May.T4:Bool × List (List Nat × List Nat):=(true,[([],[]),([0],[0]),([1],[1]),([2],[2]),([3,2],[2,3]),([4,2],[2,4]),([5,2],[2,5]),([2],[2]),([7,2,2],[2,7]),([6,8,2],[2,6,8]),([2,9],[2,9]),([10,8,0,1,2,3,4,5,6,7,8,9,10],[10])])
def spec_l2May.B4:List Nat:=[0,1,3,7,15,31,63,7,135,511,1023,2047]
theorem spec_l2May.tab4:rtab .any (opsOf Try.f34 4)=spec_l2May.T4:=by kernel_rfl
theorem spec_l2May.bits4:waitsOk spec_l2May.T4.2 spec_l2May.B4=true:=by kernel_rfl
set_option maxHeartbeats 8000000 in
set_option maxRecDepth 100000 in
theorem spec_l2May.calls (k:Nat) (a0_0:Int) (A0_1:Option Addr) (c0_1:Nat) (l0_1:List (S72)) (a1_0:Int) (a1_1:Int) (A1_2:Option Addr) (c1_2:Nat) (l1_2:List Int) (r:Bool) (w:World) (hr0_1:Kd.C k72 w A0_1 l0_1.length l0_1) (hc0_1:l0_1.length≤c0_1) (hr1_2:Kd.C (Kd.int .i64) w A1_2 l1_2.length l1_2) (hc1_2:l1_2.length≤c1_2) (h:spec_l2May.f k a0_0 l0_1 a1_0 a1_1 l1_2=some r) :
  Calls Try.prog 34 #[.agg #[.int .i64 a0_0,.slice A0_1 l0_1.length c0_1],.agg #[.int .i64 a1_0,.int .i64 a1_1,.slice A1_2 l1_2.length c1_2]] w fun e w'=>e=.returned (.bool r)∧Below w.heap.size w w':=by
 have hu39:=Try.underlying39;have hu62:=Try.underlying62;have HR0_1:=qah.mk hr0_1;have HC0_1:=qah.mk hc0_1;clear hr0_1 hc0_1;have HR1_2:=qah.mk hr1_2;have HC1_2:=qah.mk hc1_2;clear hr1_2 hc1_2;have HB:=qah.mk (Below.refl w.heap.size w);have H:(if 0≤(wrap64 (a1_1 - 1)) then(if(wrap64 (a1_1 - 1))<(l0_1.length:Int) then(if a1_0=1 then(if((rd_T72 l0_1 (wrap64 (a1_1 - 1))).f1)=0 then(if 0<(l1_2.length:Int) then((spec_l2Free.f k a0_0 l0_1).bind fun t132=>(some (decide ((rd l1_2 0)≤t132)))) else(none)) else(some false)) else(if a1_0=2 then(some (((rd_T72 l0_1 (wrap64 (a1_1 - 1))).f1) == 1)) else(if a1_0=3 then(if((rd_T72 l0_1 (wrap64 (a1_1 - 1))).f1)=1 then(some true) else(some (((rd_T72 l0_1 (wrap64 (a1_1 - 1))).f1) == 0))) else(some false)))) else(none)) else(none))=some r:=h;clear h;obtain⟨ji3,hji3⟩:∃j_:Int,(wrap64 (a1_1 - 1))=j_:=⟨_,rfl⟩
 replace H:(if 0≤(ji3) then(if(ji3)<(l0_1.length:Int) then(if a1_0=1 then(if((rd_T72 l0_1 (ji3)).f1)=0 then(if 0<(l1_2.length:Int) then((spec_l2Free.f k a0_0 l0_1).bind fun t132=>(some (decide ((rd l1_2 0)≤t132)))) else(none)) else(some false)) else(if a1_0=2 then(some (((rd_T72 l0_1 (ji3)).f1) == 1)) else(if a1_0=3 then(if((rd_T72 l0_1 (ji3)).f1)=1 then(some true) else(some (((rd_T72 l0_1 (ji3)).f1) == 0))) else(some false)))) else(none)) else(none))=some r:=by first|(rw[hji3] at H;exact H)|(simp only[hji3] at H ⊢;exact H)
 have hji3w:(IntKind.i64.wrap (a1_1 - 1))=ji3:=(qaj _).trans hji3;by_cases c4:0≤(ji3)
 ·rw[if_pos c4] at H;have c4b0:decide (0≤(ji3))=true:=decide_eq_true c4;clear c4;by_cases c5:(ji3)<(l0_1.length:Int)
  ·rw[if_pos c5] at H;have c5b0:decide ((ji3)<(l0_1.length:Int))=true:=decide_eq_true c5;clear c5;by_cases c6:a1_0=1
   ·rw[if_pos c6] at H;have c6b0:(a1_0 == 1)=true:=beq_iff_eq.mpr c6;have c6b1:(a1_0 != 1)=false:=bne_eq_false_iff_eq.mpr c6;clear c6;by_cases c7:((rd_T72 l0_1 (ji3)).f1)=0
    ·rw[if_pos c7] at H;have c7b0:(((rd_T72 l0_1 (ji3)).f1) == 0)=true:=beq_iff_eq.mpr c7;have c7b1:(((rd_T72 l0_1 (ji3)).f1) != 0)=false:=bne_eq_false_iff_eq.mpr c7;clear c7;by_cases c8:0<(l1_2.length:Int)
     ·rw[if_pos c8] at H;have c8b0:decide (0<(l1_2.length:Int))=true:=decide_eq_true c8;have c8b1:decide (0<l1_2.length)=true:=decide_eq_true (by omega);clear c8;replace H:=Option.bind_eq_some_iff.mp H;obtain⟨t132,A90,H⟩:=H;replace H:(some (decide ((rd l1_2 0)≤t132)))=some r:=H;have A9:=qah.mk A90;clear A90;obtain rfl:=Option.some.inj H;go_enter Try.func34,Try.ntmps34
      try go_wp2_with(first|((with_reducible refine qag (N:=2) rfl ?_);refine zX (N:=2) (cs:=#[.int .i64 a0_0,.slice A0_1 l0_1.length c0_1]) (t:=39) ?_;intro gb128 hg w10 hbox hb;have BK128:=qah.mk hbox;have GW128:=zH (w:=w) hg (za1 HB);have GE128:=GW128;replace HB:=qah.mk (qaa (za1 HB) hb);clear hb hbox hg)|((with_reducible refine qag (N:=3) rfl ?_);refine zX (N:=3) (cs:=#[.int .i64 a1_0,.int .i64 a1_1,.slice A1_2 l1_2.length c1_2]) (t:=62) ?_;intro gb129 hg w11 hbox hb;have BK129:=qah.mk hbox;have GW129:=zH (w:=w) hg (za0 HB GE128);have GE129:=GW129;replace HB:=qah.mk (qaa (za0 HB GE128) hb);have NB128_129:=zL BK128 hg;have NB129_128:=zG BK128 hg;replace BK128:=zY BK128 hb;clear hb hbox hg;have hnb12:=NB128_129.out;have hnc12:=NB129_128.out;obtain⟨hcz13_0,hcz13_1,hfz13_0,hfz13_1⟩:=zC2 BK128;obtain⟨hcz14_0,hcz14_1,hcz14_2,hfz14_0,hfz14_1,hfz14_2⟩:=zC3 BK129;have p130:0≤((ji3):Int):=of_decide_eq_true (za7);have q130:(ji3)<(l0_1.length:Int):=of_decide_eq_true (za7);obtain⟨ad130,e130,hx130_0,hx130_1⟩:=at_T72 HR0_1.out (ji3) p130 q130;cases e130;replace hx130_0:=(HB.out.cell (World.block_lt_of_cell? w _ hx130_0)).trans hx130_0;replace hx130_1:=(HB.out.cell (World.block_lt_of_cell? w _ hx130_1)).trans hx130_1;replace p130:=eq_true p130;replace q130:=eq_true q130))
      replace BK128:=qah.mk (qac BK128.out);replace BK129:=qah.mk (qac BK129.out);replace HB:=qah.mk (below_drew1 HB.out);have p131:0≤(0:Int):=(by omega);have q131:0<(l1_2.length:Int):=of_decide_eq_true (za7);obtain⟨ad131,e131,hx131_0⟩:=Kd.at_int HR1_2.out 0 p131 q131;have hw131_0:=hx131_0;(try rw[show((0:Int)).toNat=0 from rfl] at hw131_0);(try rw[show 0*1=0 from rfl] at hw131_0);(try rw[Addr.add_zero'] at hw131_0)
      cases e131
      have qi131:(0<l1_2.length)=True:=eq_true (by omega);(try rw[show((0:Int)).toNat=0 from rfl] at hx131_0);(try rw[Addr.add_zero'] at hx131_0);replace hx131_0:=(HB.out.cell (World.block_lt_of_cell? w _ hx131_0)).trans hx131_0;replace p131:=eq_true p131;replace q131:=eq_true q131
      refine start_ (n:=12) (S:=fun w'=>w'.cell? ⟨gb129,0,none⟩=some (.int .i64 a1_0)∧w'.cell? ⟨gb129,1,none⟩=some (.int .i64 a1_1)∧w'.cell? ⟨gb129,2,none⟩=some (.slice (some ad131) l1_2.length c1_2)∧w'.cell? ⟨gb128,0,none⟩=some (.int .i64 a0_0)∧w'.cell? ⟨gb128,1,none⟩=some (.slice (some ad130) l0_1.length c0_1)∧w'.cell? ad131=some (.int .i64 (rd l1_2 0))) (ds:=[]) #[false,false,false,false,false,false,false,false,false,false,false,false] (by kernel_rfl) rfl rfl ⟨(qab BK129.out 0).trans rfl,(qab BK129.out 1).trans rfl,(qab BK129.out 2).trans rfl,(qab BK128.out 0).trans rfl,(qab BK128.out 1).trans rfl,((HB.out.cell (World.block_lt_of_cell? w _ hw131_0)).trans hw131_0)⟩ (fun hHeld=>?_);refine with_tabW spec_l2May.tab4 spec_l2May.bits4 (fun HT_ HW_=>?_)
      generalize w11.drew=w15 at BK128 BK129 HB hx131_0 hHeld ⊢;refine qaq (i:=0) (N:=some 18) (v:=?_) (a':=?_) #[true,false,false,false,false,false,false,false,false,false,false,false] rfl rfl (qal HT_.out (by kernel_rfl)) (fun _ _ _ h=>h) (Or.inl ⟨by rfl,?_⟩) ?_ ?_;rotate_left
      ·intro w';go_simp
       with_reducible rfl
      rotate_left
      ·simp only[Act.put,List.setIfInBounds_toArray,List.set_cons_zero,List.set_cons_succ,qaj,qak];rfl
      refine qaq (i:=1) (N:=some 19) (v:=?_) (a':=?_) #[true,true,false,false,false,false,false,false,false,false,false,false] rfl rfl (qal HT_.out (by kernel_rfl)) (fun _ _ _ h=>h) (Or.inl ⟨by rfl,?_⟩) ?_ ?_;rotate_left
      ·intro w';go_simp
       with_reducible rfl
      rotate_left
      ·simp only[Act.put,List.setIfInBounds_toArray,List.set_cons_zero,List.set_cons_succ,qaj,qak];rfl
      refine qaq (i:=2) (N:=some 20) (v:=?_) (a':=?_) #[true,true,true,false,false,false,false,false,false,false,false,false] rfl rfl (qal HT_.out (by kernel_rfl)) (fun _ _ _ h=>h) (Or.inl ⟨by rfl,?_⟩) ?_ ?_;rotate_left
      ·intro w';go_simp
       with_reducible rfl
      rotate_left
      ·simp only[Act.put,List.setIfInBounds_toArray,List.set_cons_zero,List.set_cons_succ,qaj,qak];rfl
      refine qaq (i:=3) (N:=some 21) (v:=?_) (a':=?_) #[true,true,true,true,false,false,false,false,false,false,false,false] rfl rfl (qal HT_.out (by kernel_rfl)) (fun _ _ _ h=>h) (Or.inl ⟨by rfl,?_⟩) ?_ ?_;rotate_left
      ·intro w';go_simp
       with_reducible rfl
      rotate_left
      ·simp only[Act.put,List.setIfInBounds_toArray,List.set_cons_zero,List.set_cons_succ,qaj,qak];rfl
      refine take_ (i:=4) (N:=some 22) (v:=?_) (a':=?_) #[true,true,true,true,true,false,false,false,false,false,false,false] rfl rfl (take_ofW HT_.out HW_.out (by kernel_rfl)) (fun _ _ _ h=>h) (Or.inl ⟨by rfl,?_⟩) hHeld ?_ ?_;rotate_left
      ·rintro w' ⟨s0,s1,s2,s3,s4,s5⟩;go_simp
       with_reducible rfl
      rotate_left
      ·simp only[Act.put,List.setIfInBounds_toArray,List.set_cons_zero,List.set_cons_succ,qaj,qak];rfl
      refine qaq (i:=5) (N:=some 23) (v:=?_) (a':=?_) #[true,true,true,true,true,true,false,false,false,false,false,false] rfl rfl (qal HT_.out (by kernel_rfl)) (fun _ _ _ h=>h) (Or.inl ⟨by rfl,?_⟩) ?_ ?_;rotate_left
      ·intro w';go_simp
       with_reducible rfl
      rotate_left
      ·simp only[Act.put,List.setIfInBounds_toArray,List.set_cons_zero,List.set_cons_succ,qaj,qak];rfl
      refine take_ (i:=6) (N:=some 24) (v:=?_) (a':=?_) #[true,true,true,true,true,true,true,false,false,false,false,false] rfl rfl (take_ofW HT_.out HW_.out (by kernel_rfl)) (fun _ _ _ h=>h) (Or.inl ⟨by rfl,?_⟩) hHeld ?_ ?_;rotate_left
      ·rintro w' ⟨s0,s1,s2,s3,s4,s5⟩;go_simp
       with_reducible rfl
      rotate_left
      ·simp only[Act.put,List.setIfInBounds_toArray,List.set_cons_zero,List.set_cons_succ,qaj,qak];rfl
      refine take_ (i:=7) (N:=some 25) (v:=?_) (a':=?_) #[true,true,true,true,true,true,true,true,false,false,false,false] rfl rfl (take_ofW HT_.out HW_.out (by kernel_rfl)) (fun _ _ _ h=>h) (Or.inl ⟨by rfl,?_⟩) hHeld ?_ ?_;rotate_left
      ·rintro w' ⟨s0,s1,s2,s3,s4,s5⟩;go_simp
       with_reducible rfl
      rotate_left
      ·simp only[Act.put,List.setIfInBounds_toArray,List.set_cons_zero,List.set_cons_succ,qaj,qak];rfl
      refine one_ (i:=8) (N:=some 26) #[true,true,true,true,true,true,true,true,true,false,false,false] rfl rfl (one_of HT_.out (by kernel_rfl)) (by decide) (fun K hK=>?_);refine goes_ Try.func49 (by kernel_rfl) rfl #[.agg #[.int .i64 a0_0,.slice (some ad130) l0_1.length c0_1]] (by rfl) rfl rfl (by(try simp only[List.map_toArray,List.map_cons,List.map_nil]);first|done|rfl|(simp only[List.length_drop,List.length_take];rfl)) ?_
      with_reducible refine(spec_l2Free.calls k a0_0 _ _ l0_1 t132 _ ?side1 ?side2 A9.out).mono ?_
      (case side1=>exact zR HR0_1 HB);(case side2=>exact HC0_1.out);rintro e w16 ⟨rfl,hb⟩;refine⟨_,rfl,?_⟩;replace BK128:=zY BK128 hb;replace BK129:=zY BK129 hb;replace HB:=qah.mk (qaa (za2 HB GE128 GE129) hb);(try clear hb);(try clear hb2);(try clear hk);(try clear hi);refine hK.out _ _ ⟨(qab BK129.out 0).trans rfl,(qab BK129.out 1).trans rfl,(qab BK129.out 2).trans rfl,(qab BK128.out 0).trans rfl,(qab BK128.out 1).trans rfl,((HB.out.cell (World.block_lt_of_cell? w _ hw131_0)).trans hw131_0)⟩ (fun hHeld=>?_);clear hK K;refine norm_ (a':=?_) ?_ ?_;rotate_left
      ·show Act.put _ (some 26) _=_;simp only[Act.put,List.setIfInBounds_toArray,List.set_cons_zero,List.set_cons_succ,qaj,qak];rfl
      refine qaq (i:=9) (N:=some 27) (v:=?_) (a':=?_) #[true,true,true,true,true,true,true,true,true,true,false,false] rfl rfl (qal HT_.out (by kernel_rfl)) (fun _ _ _ h=>h) (Or.inl ⟨by rfl,?_⟩) ?_ ?_;rotate_left
      ·intro w';go_simp
       with_reducible rfl
      rotate_left
      ·simp only[Act.put,List.setIfInBounds_toArray,List.set_cons_zero,List.set_cons_succ,qaj,qak];rfl
      refine qaq (i:=10) (N:=some 28) (v:=?_) (a':=?_) #[true,true,true,true,true,true,true,true,true,true,true,false] rfl rfl (qal HT_.out (by kernel_rfl)) (fun _ _ _ h=>h) (Or.inl ⟨by rfl,?_⟩) ?_ ?_;rotate_left
      ·intro w';go_simp
       with_reducible rfl
      rotate_left
      ·simp only[Act.put,List.setIfInBounds_toArray,List.set_cons_zero,List.set_cons_succ,qaj,qak];rfl
      refine qaq (i:=11) (N:=some 4) (v:=?_) (a':=?_) #[true,true,true,true,true,true,true,true,true,true,true,true] rfl rfl (qal HT_.out (by kernel_rfl)) (fun _ _ _ h=>h) (Or.inl ⟨by rfl,?_⟩) ?_ ?_;rotate_left
      ·intro w';go_simp
       with_reducible rfl
      rotate_left
      ·simp only[Act.put,List.setIfInBounds_toArray,List.set_cons_zero,List.set_cons_succ,qaj,qak];rfl
      refine done_ (done_of HT_.out (by kernel_rfl)) ?_
      try go_wp2
      go_ret;exact⟨by first|rfl|(simp[qao,qan]<;>rfl)|(simp only[←hji3];first|rfl|(simp[qao,qan]<;>rfl))|(simp[*,qao,qan]<;>rfl),za2 HB GE128 GE129⟩
     ·rw[if_neg c8] at H;exact absurd H (by simp)
    ·rw[if_neg c7] at H;have c7b0:(((rd_T72 l0_1 (ji3)).f1) == 0)=false:=beq_eq_false_iff_ne.mpr c7;have c7b1:(((rd_T72 l0_1 (ji3)).f1) != 0)=true:=bne_iff_ne.mpr c7;obtain rfl:=Option.some.inj H;go_enter Try.func34,Try.ntmps34
     try go_wp2_with(first|((with_reducible refine qag (N:=2) rfl ?_);refine zX (N:=2) (cs:=#[.int .i64 a0_0,.slice A0_1 l0_1.length c0_1]) (t:=39) ?_;intro gb128 hg w17 hbox hb;have BK128:=qah.mk hbox;have GW128:=zH (w:=w) hg (za1 HB);have GE128:=GW128;replace HB:=qah.mk (qaa (za1 HB) hb);clear hb hbox hg)|((with_reducible refine qag (N:=3) rfl ?_);refine zX (N:=3) (cs:=#[.int .i64 a1_0,.int .i64 a1_1,.slice A1_2 l1_2.length c1_2]) (t:=62) ?_;intro gb129 hg w18 hbox hb;have BK129:=qah.mk hbox;have GW129:=zH (w:=w) hg (za0 HB GE128);have GE129:=GW129;replace HB:=qah.mk (qaa (za0 HB GE128) hb);have NB128_129:=zL BK128 hg;have NB129_128:=zG BK128 hg;replace BK128:=zY BK128 hb;clear hb hbox hg;have hnb19:=NB128_129.out;have hnc19:=NB129_128.out;obtain⟨hcz20_0,hcz20_1,hfz20_0,hfz20_1⟩:=zC2 BK128;obtain⟨hcz21_0,hcz21_1,hcz21_2,hfz21_0,hfz21_1,hfz21_2⟩:=zC3 BK129;have p130:0≤((ji3):Int):=of_decide_eq_true (za7);have q130:(ji3)<(l0_1.length:Int):=of_decide_eq_true (za7);obtain⟨ad130,e130,hx130_0,hx130_1⟩:=at_T72 HR0_1.out (ji3) p130 q130;cases e130;replace hx130_0:=(HB.out.cell (World.block_lt_of_cell? w _ hx130_0)).trans hx130_0;replace hx130_1:=(HB.out.cell (World.block_lt_of_cell? w _ hx130_1)).trans hx130_1;replace p130:=eq_true p130;replace q130:=eq_true q130))
     replace BK128:=qah.mk (qac BK128.out);replace BK129:=qah.mk (qac BK129.out);replace HB:=qah.mk (below_drew1 HB.out);refine start_ (n:=12) (S:=fun w'=>True) (ds:=[]) #[false,false,false,false,false,false,false,false,false,false,false,false] (by kernel_rfl) rfl rfl trivial (fun hHeld=>?_);refine with_tabW spec_l2May.tab4 spec_l2May.bits4 (fun HT_ HW_=>?_);generalize w18.drew=w22 at BK128 BK129 HB hHeld ⊢;refine qaq (i:=0) (N:=some 18) (v:=?_) (a':=?_) #[true,false,false,false,false,false,false,false,false,false,false,false] rfl rfl (qal HT_.out (by kernel_rfl)) (fun _ _ _ h=>h) (Or.inl ⟨by rfl,?_⟩) ?_ ?_;rotate_left
     ·intro w';go_simp
      with_reducible rfl
     rotate_left
     ·simp only[Act.put,List.setIfInBounds_toArray,List.set_cons_zero,List.set_cons_succ,qaj,qak];rfl
     refine qaq (i:=1) (N:=some 19) (v:=?_) (a':=?_) #[true,true,false,false,false,false,false,false,false,false,false,false] rfl rfl (qal HT_.out (by kernel_rfl)) (fun _ _ _ h=>h) (Or.inl ⟨by rfl,?_⟩) ?_ ?_;rotate_left
     ·intro w';go_simp
      with_reducible rfl
     rotate_left
     ·simp only[Act.put,List.setIfInBounds_toArray,List.set_cons_zero,List.set_cons_succ,qaj,qak];rfl
     refine qaq (i:=2) (N:=some 20) (v:=?_) (a':=?_) #[true,true,true,false,false,false,false,false,false,false,false,false] rfl rfl (qal HT_.out (by kernel_rfl)) (fun _ _ _ h=>h) (Or.inl ⟨by rfl,?_⟩) ?_ ?_;rotate_left
     ·intro w';go_simp
      with_reducible rfl
     rotate_left
     ·simp only[Act.put,List.setIfInBounds_toArray,List.set_cons_zero,List.set_cons_succ,qaj,qak];rfl
     refine qaq (i:=3) (N:=some 21) (v:=undef) (a':=?_) #[true,true,true,true,false,false,false,false,false,false,false,false] rfl rfl (qal HT_.out (by kernel_rfl)) (fun _ _ _ h=>h) (Or.inr ⟨by rfl,rfl⟩) ?_ ?_;rotate_left
     ·simp only[Act.put,List.setIfInBounds_toArray,List.set_cons_zero,List.set_cons_succ,qaj,qak];rfl
     refine qaq (i:=4) (N:=some 22) (v:=undef) (a':=?_) #[true,true,true,true,true,false,false,false,false,false,false,false] rfl rfl (qal HT_.out (by kernel_rfl)) (fun _ _ _ h=>h) (Or.inr ⟨by rfl,rfl⟩) ?_ ?_;rotate_left
     ·simp only[Act.put,List.setIfInBounds_toArray,List.set_cons_zero,List.set_cons_succ,qaj,qak];rfl
     refine qaq (i:=5) (N:=some 23) (v:=undef) (a':=?_) #[true,true,true,true,true,true,false,false,false,false,false,false] rfl rfl (qal HT_.out (by kernel_rfl)) (fun _ _ _ h=>h) (Or.inr ⟨by rfl,rfl⟩) ?_ ?_;rotate_left
     ·simp only[Act.put,List.setIfInBounds_toArray,List.set_cons_zero,List.set_cons_succ,qaj,qak];rfl
     refine qaq (i:=6) (N:=some 24) (v:=undef) (a':=?_) #[true,true,true,true,true,true,true,false,false,false,false,false] rfl rfl (qal HT_.out (by kernel_rfl)) (fun _ _ _ h=>h) (Or.inr ⟨by rfl,rfl⟩) ?_ ?_;rotate_left
     ·simp only[Act.put,List.setIfInBounds_toArray,List.set_cons_zero,List.set_cons_succ,qaj,qak];rfl
     refine qaq (i:=7) (N:=some 25) (v:=undef) (a':=?_) #[true,true,true,true,true,true,true,true,false,false,false,false] rfl rfl (qal HT_.out (by kernel_rfl)) (fun _ _ _ h=>h) (Or.inr ⟨by rfl,rfl⟩) ?_ ?_;rotate_left
     ·simp only[Act.put,List.setIfInBounds_toArray,List.set_cons_zero,List.set_cons_succ,qaj,qak];rfl
     refine qaq (i:=8) (N:=some 26) (v:=undef) (a':=?_) #[true,true,true,true,true,true,true,true,true,false,false,false] rfl rfl (qal HT_.out (by kernel_rfl)) (fun _ _ _ h=>h) (Or.inr ⟨by rfl,rfl⟩) ?_ ?_;rotate_left
     ·simp only[Act.put,List.setIfInBounds_toArray,List.set_cons_zero,List.set_cons_succ,qaj,qak];rfl
     refine qaq (i:=9) (N:=some 27) (v:=undef) (a':=?_) #[true,true,true,true,true,true,true,true,true,true,false,false] rfl rfl (qal HT_.out (by kernel_rfl)) (fun _ _ _ h=>h) (Or.inr ⟨by rfl,rfl⟩) ?_ ?_;rotate_left
     ·simp only[Act.put,List.setIfInBounds_toArray,List.set_cons_zero,List.set_cons_succ,qaj,qak];rfl
     refine qaq (i:=10) (N:=some 28) (v:=?_) (a':=?_) #[true,true,true,true,true,true,true,true,true,true,true,false] rfl rfl (qal HT_.out (by kernel_rfl)) (fun _ _ _ h=>h) (Or.inl ⟨by rfl,?_⟩) ?_ ?_;rotate_left
     ·intro w';go_simp
      with_reducible rfl
     rotate_left
     ·simp only[Act.put,List.setIfInBounds_toArray,List.set_cons_zero,List.set_cons_succ,qaj,qak];rfl
     refine qaq (i:=11) (N:=some 4) (v:=?_) (a':=?_) #[true,true,true,true,true,true,true,true,true,true,true,true] rfl rfl (qal HT_.out (by kernel_rfl)) (fun _ _ _ h=>h) (Or.inl ⟨by rfl,?_⟩) ?_ ?_;rotate_left
     ·intro w';go_simp
      with_reducible rfl
     rotate_left
     ·simp only[Act.put,List.setIfInBounds_toArray,List.set_cons_zero,List.set_cons_succ,qaj,qak];rfl
     refine done_ (done_of HT_.out (by kernel_rfl)) ?_
     try go_wp2
     go_ret;exact⟨by first|rfl|(simp[qao,qan]<;>rfl)|(simp only[←hji3];first|rfl|(simp[qao,qan]<;>rfl))|(simp[*,qao,qan]<;>rfl),za2 HB GE128 GE129⟩
   ·rw[if_neg c6] at H;have c6b0:(a1_0 == 1)=false:=beq_eq_false_iff_ne.mpr c6;have c6b1:(a1_0 != 1)=true:=bne_iff_ne.mpr c6;by_cases c23:a1_0=2
    ·rw[if_pos c23] at H;have c23b0:(a1_0 == 2)=true:=beq_iff_eq.mpr c23;have c23b1:(a1_0 != 2)=false:=bne_eq_false_iff_eq.mpr c23;clear c23;obtain rfl:=Option.some.inj H;go_enter Try.func34,Try.ntmps34
     go_wp2_with(first|((with_reducible refine qag (N:=2) rfl ?_);refine zX (N:=2) (cs:=#[.int .i64 a0_0,.slice A0_1 l0_1.length c0_1]) (t:=39) ?_;intro gb128 hg w24 hbox hb;have BK128:=qah.mk hbox;have GW128:=zH (w:=w) hg (za1 HB);have GE128:=GW128;replace HB:=qah.mk (qaa (za1 HB) hb);clear hb hbox hg)|((with_reducible refine qag (N:=3) rfl ?_);refine zX (N:=3) (cs:=#[.int .i64 a1_0,.int .i64 a1_1,.slice A1_2 l1_2.length c1_2]) (t:=62) ?_;intro gb129 hg w25 hbox hb;have BK129:=qah.mk hbox;have GW129:=zH (w:=w) hg (za0 HB GE128);have GE129:=GW129;replace HB:=qah.mk (qaa (za0 HB GE128) hb);have NB128_129:=zL BK128 hg;have NB129_128:=zG BK128 hg;replace BK128:=zY BK128 hb;clear hb hbox hg;have hnb26:=NB128_129.out;have hnc26:=NB129_128.out;obtain⟨hcz27_0,hcz27_1,hfz27_0,hfz27_1⟩:=zC2 BK128;obtain⟨hcz28_0,hcz28_1,hcz28_2,hfz28_0,hfz28_1,hfz28_2⟩:=zC3 BK129;have p130:0≤((ji3):Int):=of_decide_eq_true (za7);have q130:(ji3)<(l0_1.length:Int):=of_decide_eq_true (za7);obtain⟨ad130,e130,hx130_0,hx130_1⟩:=at_T72 HR0_1.out (ji3) p130 q130;cases e130;replace hx130_0:=(HB.out.cell (World.block_lt_of_cell? w _ hx130_0)).trans hx130_0;replace hx130_1:=(HB.out.cell (World.block_lt_of_cell? w _ hx130_1)).trans hx130_1;replace p130:=eq_true p130;replace q130:=eq_true q130))
     go_ret;exact⟨by first|rfl|(simp[qao,qan]<;>rfl)|(simp only[←hji3];first|rfl|(simp[qao,qan]<;>rfl))|(simp[*,qao,qan]<;>rfl),za2 HB GE128 GE129⟩
    ·rw[if_neg c23] at H;have c23b0:(a1_0 == 2)=false:=beq_eq_false_iff_ne.mpr c23;have c23b1:(a1_0 != 2)=true:=bne_iff_ne.mpr c23;by_cases c29:a1_0=3
     ·rw[if_pos c29] at H;have c29b0:(a1_0 == 3)=true:=beq_iff_eq.mpr c29;have c29b1:(a1_0 != 3)=false:=bne_eq_false_iff_eq.mpr c29;clear c29;by_cases c30:((rd_T72 l0_1 (ji3)).f1)=1
      ·rw[if_pos c30] at H;have c30b0:(((rd_T72 l0_1 (ji3)).f1) == 1)=true:=beq_iff_eq.mpr c30;have c30b1:(((rd_T72 l0_1 (ji3)).f1) != 1)=false:=bne_eq_false_iff_eq.mpr c30;clear c30;obtain rfl:=Option.some.inj H;go_enter Try.func34,Try.ntmps34
       go_wp2_with(first|((with_reducible refine qag (N:=2) rfl ?_);refine zX (N:=2) (cs:=#[.int .i64 a0_0,.slice A0_1 l0_1.length c0_1]) (t:=39) ?_;intro gb128 hg w31 hbox hb;have BK128:=qah.mk hbox;have GW128:=zH (w:=w) hg (za1 HB);have GE128:=GW128;replace HB:=qah.mk (qaa (za1 HB) hb);clear hb hbox hg)|((with_reducible refine qag (N:=3) rfl ?_);refine zX (N:=3) (cs:=#[.int .i64 a1_0,.int .i64 a1_1,.slice A1_2 l1_2.length c1_2]) (t:=62) ?_;intro gb129 hg w32 hbox hb;have BK129:=qah.mk hbox;have GW129:=zH (w:=w) hg (za0 HB GE128);have GE129:=GW129;replace HB:=qah.mk (qaa (za0 HB GE128) hb);have NB128_129:=zL BK128 hg;have NB129_128:=zG BK128 hg;replace BK128:=zY BK128 hb;clear hb hbox hg;have hnb33:=NB128_129.out;have hnc33:=NB129_128.out;obtain⟨hcz34_0,hcz34_1,hfz34_0,hfz34_1⟩:=zC2 BK128;obtain⟨hcz35_0,hcz35_1,hcz35_2,hfz35_0,hfz35_1,hfz35_2⟩:=zC3 BK129;have p130:0≤((ji3):Int):=of_decide_eq_true (za7);have q130:(ji3)<(l0_1.length:Int):=of_decide_eq_true (za7);obtain⟨ad130,e130,hx130_0,hx130_1⟩:=at_T72 HR0_1.out (ji3) p130 q130;cases e130;replace hx130_0:=(HB.out.cell (World.block_lt_of_cell? w _ hx130_0)).trans hx130_0;replace hx130_1:=(HB.out.cell (World.block_lt_of_cell? w _ hx130_1)).trans hx130_1;replace p130:=eq_true p130;replace q130:=eq_true q130))
       go_ret;exact⟨by first|rfl|(simp[qao,qan]<;>rfl)|(simp only[←hji3];first|rfl|(simp[qao,qan]<;>rfl))|(simp[*,qao,qan]<;>rfl),za2 HB GE128 GE129⟩
      ·rw[if_neg c30] at H;have c30b0:(((rd_T72 l0_1 (ji3)).f1) == 1)=false:=beq_eq_false_iff_ne.mpr c30;have c30b1:(((rd_T72 l0_1 (ji3)).f1) != 1)=true:=bne_iff_ne.mpr c30;obtain rfl:=Option.some.inj H;go_enter Try.func34,Try.ntmps34
       go_wp2_with(first|((with_reducible refine qag (N:=2) rfl ?_);refine zX (N:=2) (cs:=#[.int .i64 a0_0,.slice A0_1 l0_1.length c0_1]) (t:=39) ?_;intro gb128 hg w36 hbox hb;have BK128:=qah.mk hbox;have GW128:=zH (w:=w) hg (za1 HB);have GE128:=GW128;replace HB:=qah.mk (qaa (za1 HB) hb);clear hb hbox hg)|((with_reducible refine qag (N:=3) rfl ?_);refine zX (N:=3) (cs:=#[.int .i64 a1_0,.int .i64 a1_1,.slice A1_2 l1_2.length c1_2]) (t:=62) ?_;intro gb129 hg w37 hbox hb;have BK129:=qah.mk hbox;have GW129:=zH (w:=w) hg (za0 HB GE128);have GE129:=GW129;replace HB:=qah.mk (qaa (za0 HB GE128) hb);have NB128_129:=zL BK128 hg;have NB129_128:=zG BK128 hg;replace BK128:=zY BK128 hb;clear hb hbox hg;have hnb38:=NB128_129.out;have hnc38:=NB129_128.out;obtain⟨hcz39_0,hcz39_1,hfz39_0,hfz39_1⟩:=zC2 BK128;obtain⟨hcz40_0,hcz40_1,hcz40_2,hfz40_0,hfz40_1,hfz40_2⟩:=zC3 BK129;have p130:0≤((ji3):Int):=of_decide_eq_true (za7);have q130:(ji3)<(l0_1.length:Int):=of_decide_eq_true (za7);obtain⟨ad130,e130,hx130_0,hx130_1⟩:=at_T72 HR0_1.out (ji3) p130 q130;cases e130;replace hx130_0:=(HB.out.cell (World.block_lt_of_cell? w _ hx130_0)).trans hx130_0;replace hx130_1:=(HB.out.cell (World.block_lt_of_cell? w _ hx130_1)).trans hx130_1;replace p130:=eq_true p130;replace q130:=eq_true q130))
       go_ret;exact⟨by first|rfl|(simp[qao,qan]<;>rfl)|(simp only[←hji3];first|rfl|(simp[qao,qan]<;>rfl))|(simp[*,qao,qan]<;>rfl),za2 HB GE128 GE129⟩
     ·rw[if_neg c29] at H;have c29b0:(a1_0 == 3)=false:=beq_eq_false_iff_ne.mpr c29;have c29b1:(a1_0 != 3)=true:=bne_iff_ne.mpr c29;obtain rfl:=Option.some.inj H;go_enter Try.func34,Try.ntmps34
      go_wp2_with(first|((with_reducible refine qag (N:=2) rfl ?_);refine zX (N:=2) (cs:=#[.int .i64 a0_0,.slice A0_1 l0_1.length c0_1]) (t:=39) ?_;intro gb128 hg w41 hbox hb;have BK128:=qah.mk hbox;have GW128:=zH (w:=w) hg (za1 HB);have GE128:=GW128;replace HB:=qah.mk (qaa (za1 HB) hb);clear hb hbox hg)|((with_reducible refine qag (N:=3) rfl ?_);refine zX (N:=3) (cs:=#[.int .i64 a1_0,.int .i64 a1_1,.slice A1_2 l1_2.length c1_2]) (t:=62) ?_;intro gb129 hg w42 hbox hb;have BK129:=qah.mk hbox;have GW129:=zH (w:=w) hg (za0 HB GE128);have GE129:=GW129;replace HB:=qah.mk (qaa (za0 HB GE128) hb);have NB128_129:=zL BK128 hg;have NB129_128:=zG BK128 hg;replace BK128:=zY BK128 hb;clear hb hbox hg;have hnb43:=NB128_129.out;have hnc43:=NB129_128.out;obtain⟨hcz44_0,hcz44_1,hfz44_0,hfz44_1⟩:=zC2 BK128;obtain⟨hcz45_0,hcz45_1,hcz45_2,hfz45_0,hfz45_1,hfz45_2⟩:=zC3 BK129;have p130:0≤((ji3):Int):=of_decide_eq_true (za7);have q130:(ji3)<(l0_1.length:Int):=of_decide_eq_true (za7);obtain⟨ad130,e130,hx130_0,hx130_1⟩:=at_T72 HR0_1.out (ji3) p130 q130;cases e130;replace hx130_0:=(HB.out.cell (World.block_lt_of_cell? w _ hx130_0)).trans hx130_0;replace hx130_1:=(HB.out.cell (World.block_lt_of_cell? w _ hx130_1)).trans hx130_1;replace p130:=eq_true p130;replace q130:=eq_true q130))
      go_ret;exact⟨by first|rfl|(simp[qao,qan]<;>rfl)|(simp only[←hji3];first|rfl|(simp[qao,qan]<;>rfl))|(simp[*,qao,qan]<;>rfl),za2 HB GE128 GE129⟩
  ·rw[if_neg c5] at H;exact absurd H (by simp)
 ·rw[if_neg c4] at H;exact absurd H (by simp)
end Go.Proofs.Ytbomcadjkcmcgaa.Print
