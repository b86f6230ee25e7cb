-- Written by squeeze.py: not trusted, Lean checks it.
import Derived.Test.YtmbdphefnalenaaZK
import Derived.Test.YtmbdphefnalenaaZd0
namespace Go.Proofs.Ytmbdphefnalenaa.Print
open Go.RowKit Go.Proofs.YtmbdphefnalenaaW.PrintWords Go.Proofs.YtmbdphefnalenaaW.PrintLast Go.Proofs.YtmbdphefnalenaaW.PrintMore
attribute [local go_sem] max2_int min2_int max_two min_two max_three min_three max_four min_four
set_option linter.unusedVariables false
set_option linter.unusedSimpArgs false
def spec_l12May.j0:Nat→Int→Int→Bool→Option (Bool)
 |0,_,_,_=>none
 |k+1,x5,x28,x29=>if x29=true then(some (x5 == 1)) else(if x28=7 then(if x5=2 then(some true) else(some (x5 == 3))) else(some false))
def spec_l12May.f (k:Nat) (l0:List (S81)) (a1_0:Int) (a1_1:Int) (l1_2:List Int):Option (Bool):=if a1_0=4 then(some (a1_1 == (wrap64 ((l0.length:Int)+1)))) else(if a1_1>(l0.length:Int) then(some false) else(if 0≤(wrap64 (a1_1 - 1)) then(if(wrap64 (a1_1 - 1))<(l0.length:Int) then(if a1_0=5 then(spec_l12May.j0 k ((rd_T81 l0 (wrap64 (a1_1 - 1))).f1) a1_0 (a1_0 == 5)) else(spec_l12May.j0 k ((rd_T81 l0 (wrap64 (a1_1 - 1))).f1) a1_0 (a1_0 == 6))) else(none)) else(none)))
theorem spec_l12May.mono_l:∀k,(∀y0 y1 y2,LeO (spec_l12May.j0 k y0 y1 y2) (spec_l12May.j0 (k+1) y0 y1 y2))
 |0=>fun _ _ _ r h=>by simp[spec_l12May.j0] at h
 |k+1=>by
  have ih0:=spec_l12May.mono_l k
  ·intro y0 y1 y2;unfold spec_l12May.j0
   repeat' first|(with_reducible exact ih0 _ _ _)|(with_reducible exact LeO.refl _)|(with_reducible exact LeO.none _)|(with_reducible refine LeO.ite ?_ ?_)|(with_reducible refine LeO.bind ?_ (fun _=>?_))|exact ih0 _ _ _|exact LeO.none _|refine LeO.ite ?_ ?_|refine LeO.bind ?_ (fun _=>?_)
theorem spec_l12May.mono:∀a0 a1 a2 a3 k,LeO (spec_l12May.f k a0 a1 a2 a3) (spec_l12May.f (k+1) a0 a1 a2 a3):=by
 intro a0 a1 a2 a3 k;have ih0:=spec_l12May.mono_l k;unfold spec_l12May.f
 repeat' first|(with_reducible exact ih0 _ _ _)|(with_reducible exact LeO.refl _)|(with_reducible exact LeO.none _)|(with_reducible refine LeO.ite ?_ ?_)|(with_reducible refine LeO.bind ?_ (fun _=>?_))|exact ih0 _ _ _|exact LeO.none _|refine LeO.ite ?_ ?_|refine LeO.bind ?_ (fun _=>?_)
set_option maxHeartbeats 8000000 in
set_option maxRecDepth 100000 in
theorem spec_l12May.calls (k:Nat) (A0:Option Addr) (c0:Nat) (l0:List (S81)) (a1_0:Int) (a1_1:Int) (A1_2:Option Addr) (c1_2:Nat) (l1_2:List Int) (r:Bool) (w:World) (hr0:Kd.C k81 w A0 l0.length l0) (hc0:l0.length≤c0) (hr1_2:Kd.C (Kd.int .i64) w A1_2 l1_2.length l1_2) (hc1_2:l1_2.length≤c1_2) (h:spec_l12May.f k l0 a1_0 a1_1 l1_2=some r) :
  Calls Try.prog 85 #[.slice A0 l0.length c0,.agg #[.int .i64 a1_0,.int .i64 a1_1,.slice A1_2 l1_2.length c1_2]] w fun e w'=>e=.returned (.bool r)∧Below w.heap.size w w':=by
 have hu32:=Try.underlying32;have HR0:=qaf.mk hr0;have HC0:=qaf.mk hc0;clear hr0 hc0;have HR1_2:=qaf.mk hr1_2;have HC1_2:=qaf.mk hc1_2;clear hr1_2 hc1_2;have HB:=qaf.mk (Below.refl w.heap.size w);have H:(if a1_0=4 then(some (a1_1 == (wrap64 ((l0.length:Int)+1)))) else(if a1_1>(l0.length:Int) then(some false) else(if 0≤(wrap64 (a1_1 - 1)) then(if(wrap64 (a1_1 - 1))<(l0.length:Int) then(if a1_0=5 then(spec_l12May.j0 k ((rd_T81 l0 (wrap64 (a1_1 - 1))).f1) a1_0 (a1_0 == 5)) else(spec_l12May.j0 k ((rd_T81 l0 (wrap64 (a1_1 - 1))).f1) a1_0 (a1_0 == 6))) else(none)) else(none))))=some r:=h;clear h;by_cases c3:a1_0=4
 ·rw[if_pos c3] at H;have c3b0:(a1_0 == 4)=true:=beq_iff_eq.mpr c3;have c3b1:(a1_0 != 4)=false:=bne_eq_false_iff_eq.mpr c3;clear c3;obtain rfl:=Option.some.inj H;go_enter Try.func85,Try.ntmps85
  go_wp2_with(first|((with_reducible refine qam (N:=3) rfl ?_);refine zX (N:=3) (cs:=#[.int .i64 a1_0,.int .i64 a1_1,.slice A1_2 l1_2.length c1_2]) (t:=32) ?_;intro gb130 hg w4 hbox hb;have BK130:=qaf.mk hbox;have GW130:=zH (w:=w) hg (za2 HB);have GE130:=GW130;replace HB:=qaf.mk (qad (za2 HB) hb);clear hb hbox hg;obtain⟨hcz5_0,hcz5_1,hcz5_2,hfz5_0,hfz5_1,hfz5_2⟩:=zC3 BK130))
  go_ret;exact⟨za12,za3 HB GE130⟩
 ·rw[if_neg c3] at H;have c3b0:(a1_0 == 4)=false:=beq_eq_false_iff_ne.mpr c3;have c3b1:(a1_0 != 4)=true:=bne_iff_ne.mpr c3;by_cases c6:a1_1>(l0.length:Int)
  ·rw[if_pos c6] at H;have c6b0:decide ((l0.length:Int)<a1_1)=true:=decide_eq_true c6;clear c6;obtain rfl:=Option.some.inj H;go_enter Try.func85,Try.ntmps85
   go_wp2_with(first|((with_reducible refine qam (N:=3) rfl ?_);refine zX (N:=3) (cs:=#[.int .i64 a1_0,.int .i64 a1_1,.slice A1_2 l1_2.length c1_2]) (t:=32) ?_;intro gb130 hg w7 hbox hb;have BK130:=qaf.mk hbox;have GW130:=zH (w:=w) hg (za2 HB);have GE130:=GW130;replace HB:=qaf.mk (qad (za2 HB) hb);clear hb hbox hg;obtain⟨hcz8_0,hcz8_1,hcz8_2,hfz8_0,hfz8_1,hfz8_2⟩:=zC3 BK130))
   go_ret;exact⟨za12,za3 HB GE130⟩
  ·rw[if_neg c6] at H;have c6b0:decide ((l0.length:Int)<a1_1)=false:=decide_eq_false c6;clear c6;obtain⟨ji9,hji9⟩:∃j_:Int,(wrap64 (a1_1 - 1))=j_:=⟨_,rfl⟩
   replace H:(if 0≤(ji9) then(if(ji9)<(l0.length:Int) then(if a1_0=5 then(spec_l12May.j0 k ((rd_T81 l0 (ji9)).f1) a1_0 (a1_0 == 5)) else(spec_l12May.j0 k ((rd_T81 l0 (ji9)).f1) a1_0 (a1_0 == 6))) else(none)) else(none))=some r:=by first|(rw[hji9] at H;exact H)|(simp only[hji9] at H ⊢;exact H)
   have hji9w:(IntKind.i64.wrap (a1_1 - 1))=ji9:=(qai _).trans hji9;by_cases c10:0≤(ji9)
   ·rw[if_pos c10] at H;have c10b0:decide (0≤(ji9))=true:=decide_eq_true c10;clear c10;by_cases c11:(ji9)<(l0.length:Int)
    ·rw[if_pos c11] at H;have c11b0:decide ((ji9)<(l0.length:Int))=true:=decide_eq_true c11;clear c11;have HC12:=qaf.mk H;clear H;go_enter Try.func85,Try.ntmps85
     go_upto_if 29 with(first|((with_reducible refine qam (N:=3) rfl ?_);refine zX (N:=3) (cs:=#[.int .i64 a1_0,.int .i64 a1_1,.slice A1_2 l1_2.length c1_2]) (t:=32) ?_;intro gb130 hg w13 hbox hb;have BK130:=qaf.mk hbox;have GW130:=zH (w:=w) hg (za2 HB);have GE130:=GW130;replace HB:=qaf.mk (qad (za2 HB) hb);clear hb hbox hg;obtain⟨hcz14_0,hcz14_1,hcz14_2,hfz14_0,hfz14_1,hfz14_2⟩:=zC3 BK130;have p131:0≤((ji9):Int):=of_decide_eq_true (za10);have q131:(ji9)<(l0.length:Int):=of_decide_eq_true (za10);obtain⟨ad131,A131_0,c131_0,e131,hx131_0,hx131_1,hl131_0,hi131_0⟩:=at_T81 HR0.out (ji9) p131 q131;cases e131;have hxo131_0:=qaf.mk hx131_0;replace hx131_0:=(HB.out.cell (World.block_lt_of_cell? w _ hx131_0)).trans hx131_0;replace hx131_1:=(HB.out.cell (World.block_lt_of_cell? w _ hx131_1)).trans hx131_1;have HR131_0:=qaf.mk hi131_0;have HC131_0:=qaf.mk hl131_0;clear hi131_0 hl131_0;replace p131:=eq_true p131;replace q131:=eq_true q131))
     (try simp only[Act.put,List.setIfInBounds_toArray,List.set_cons_zero,List.set_cons_succ])
     go_cut [29] (fun v29 wc=>∃(kq:Nat) (x29_11:Bool),v29=.bool x29_11∧qaf (spec_l12May.j0 kq ((rd_T81 l0 (ji9)).f1) a1_0 x29_11=some r)∧qaf (kq≤k)∧qaf (wc.heap[gb130]?=some (.cells #[.int .i64 a1_0,.int .i64 a1_1,(.slice A1_2 l1_2.length c1_2)] 32 (0,0)))∧qaf (Below w.heap.size w wc))
     case first=>
      have H:=HC12.out;clear HC12;by_cases c15:a1_0=5
      ·rw[if_pos c15] at H;have c15b0:(a1_0 == 5)=true:=beq_iff_eq.mpr c15;have c15b1:(a1_0 != 5)=false:=bne_eq_false_iff_eq.mpr c15;clear c15;(first|rw[c15b0]|(simp only[qai,qaj];rw[c15b0])|skip);have H':=qaf.mk H;clear H;go_wp2
       go_meet
       case rel=>exact⟨_,((a1_0 == 5)),(za38),H',⟨za64⟩,⟨za11 BK130⟩,⟨za3 HB GE130⟩⟩
      ·rw[if_neg c15] at H;have c15b0:(a1_0 == 5)=false:=beq_eq_false_iff_ne.mpr c15;have c15b1:(a1_0 != 5)=true:=bne_iff_ne.mpr c15;(first|rw[c15b0]|(simp only[qai,qaj];rw[c15b0])|skip);have H':=qaf.mk H;clear H;go_wp2
       go_meet
       case rel=>exact⟨_,((a1_0 == 6)),(za38),H',⟨za64⟩,⟨za11 BK130⟩,⟨za3 HB GE130⟩⟩
     case rest=>
      clear HC12
      try clear c1
      try clear p1
      try clear q1
      try clear hx1
      try clear p2
      try clear c3
      try clear c3b0
      try clear c3b1
      try clear c6
      try clear c6b0
      try clear p6
      try clear c8
      try clear c10
      try clear c10b0
      try clear c11
      try clear c11b0
      try clear c13
      try clear p13
      try clear q13
      try clear hx13
      try clear c15
      try clear c15b0
      try clear c15b1
      try clear hcz14_0
      try clear hcz14_1
      try clear hcz14_2
      try clear hcz5_0
      try clear hcz5_1
      try clear hcz5_2
      try clear hcz8_0
      try clear hcz8_1
      try clear hcz8_2
      try clear hfz14_0
      try clear hfz14_1
      try clear hfz14_2
      try clear hfz5_0
      try clear hfz5_1
      try clear hfz5_2
      try clear hfz8_0
      try clear hfz8_1
      try clear hfz8_2
      try clear hx131_0
      try clear hx131_1
      try clear p131
      try clear q131
      obtain⟨kq,x29_11,rfl,HA,HJ11,BK130,HB⟩:=hcut
      cases kq with
      |zero=>exact absurd HA.out (by simp[spec_l12May.j0])
      |succ kj11=>
       have H:=HA.out;clear HA;simp only[spec_l12May.j0] at H;by_cases c16:x29_11=true
       ·subst c16
        have H1:(some (((rd_T81 l0 (ji9)).f1) == 1))=some r:=by rw[if_pos rfl] at H;exact H
        clear H;have H:=H1;clear H1;obtain rfl:=Option.some.inj H;go_wp2;go_ret;exact⟨by first|rfl|(simp[qaq,qap]<;>rfl)|(simp only[←hji9];first|rfl|(simp[qaq,qap]<;>rfl))|(simp[*,qaq,qap]<;>rfl),za3 HB GE130⟩
       ·replace c16:=Bool.eq_false_iff.mpr c16;subst c16
        have H1:(if a1_0=7 then(if((rd_T81 l0 (ji9)).f1)=2 then(some true) else(some (((rd_T81 l0 (ji9)).f1) == 3))) else(some false))=some r:=by rw[if_neg (show ¬(false=true) by decide)] at H;exact H
        clear H;have H:=H1;clear H1;by_cases c17:a1_0=7
        ·rw[if_pos c17] at H;have c17b0:(a1_0 == 7)=true:=beq_iff_eq.mpr c17;have c17b1:(a1_0 != 7)=false:=bne_eq_false_iff_eq.mpr c17;clear c17;by_cases c18:((rd_T81 l0 (ji9)).f1)=2
         ·rw[if_pos c18] at H;have c18b0:(((rd_T81 l0 (ji9)).f1) == 2)=true:=beq_iff_eq.mpr c18;have c18b1:(((rd_T81 l0 (ji9)).f1) != 2)=false:=bne_eq_false_iff_eq.mpr c18;clear c18;obtain rfl:=Option.some.inj H;go_wp2;go_ret;exact⟨by first|rfl|(simp[qaq,qap]<;>rfl)|(simp only[←hji9];first|rfl|(simp[qaq,qap]<;>rfl))|(simp[*,qaq,qap]<;>rfl),za3 HB GE130⟩
         ·rw[if_neg c18] at H;have c18b0:(((rd_T81 l0 (ji9)).f1) == 2)=false:=beq_eq_false_iff_ne.mpr c18;have c18b1:(((rd_T81 l0 (ji9)).f1) != 2)=true:=bne_iff_ne.mpr c18;obtain rfl:=Option.some.inj H;go_wp2;go_ret;exact⟨by first|rfl|(simp[qaq,qap]<;>rfl)|(simp only[←hji9];first|rfl|(simp[qaq,qap]<;>rfl))|(simp[*,qaq,qap]<;>rfl),za3 HB GE130⟩
        ·rw[if_neg c17] at H;have c17b0:(a1_0 == 7)=false:=beq_eq_false_iff_ne.mpr c17;have c17b1:(a1_0 != 7)=true:=bne_iff_ne.mpr c17;obtain rfl:=Option.some.inj H;go_wp2;go_ret;exact⟨by first|rfl|(simp[qaq,qap]<;>rfl)|(simp only[←hji9];first|rfl|(simp[qaq,qap]<;>rfl))|(simp[*,qaq,qap]<;>rfl),za3 HB GE130⟩
    ·rw[if_neg c11] at H;exact absurd H (by simp)
   ·rw[if_neg c10] at H;exact absurd H (by simp)
def spec_TripsOk.l0:Nat→List (S81)→Int→Option (Bool)
 |0,_,_=>none
 |k+1,x0,x3=>if x3<(x0.length:Int) then(if 0≤x3 then((spec_l1Many.f k ((rd_T81 x0 x3).f0)).bind fun t133=>(if t133=true then((spec_l6In.f ((rd_T81 x0 x3).f1) 1 5).bind fun t135=>(if t135=true then(spec_TripsOk.l0 k x0 (wrap64 (x3+1))) else(some false))) else(some false))) else(none)) else(some (decide ((x0.length:Int)≤6)))
def spec_TripsOk.f (k:Nat) (l0:List (S81)):Option (Bool):=spec_TripsOk.l0 k l0 0
theorem spec_TripsOk.mono_l:∀k,(∀y0 y1,LeO (spec_TripsOk.l0 k y0 y1) (spec_TripsOk.l0 (k+1) y0 y1))
 |0=>fun _ _ r h=>by simp[spec_TripsOk.l0] at h
 |k+1=>by
  have ih0:=spec_TripsOk.mono_l k
  ·intro y0 y1;unfold spec_TripsOk.l0
   repeat' first|(with_reducible exact ih0 _ _)|(with_reducible exact spec_l1Many.mono _ _)|(with_reducible exact LeO.refl _)|(with_reducible exact LeO.none _)|(with_reducible refine LeO.ite ?_ ?_)|(with_reducible refine LeO.bind ?_ (fun _=>?_))|exact ih0 _ _|exact spec_l1Many.mono _ _|exact LeO.none _|refine LeO.ite ?_ ?_|refine LeO.bind ?_ (fun _=>?_)
theorem spec_TripsOk.mono:∀a0 k,LeO (spec_TripsOk.f k a0) (spec_TripsOk.f (k+1) a0):=by
 intro a0 k;have ih0:=spec_TripsOk.mono_l k;unfold spec_TripsOk.f
 repeat' first|(with_reducible exact ih0 _ _)|(with_reducible exact spec_l1Many.mono _ _)|(with_reducible exact LeO.refl _)|(with_reducible exact LeO.none _)|(with_reducible refine LeO.ite ?_ ?_)|(with_reducible refine LeO.bind ?_ (fun _=>?_))|exact ih0 _ _|exact spec_l1Many.mono _ _|exact LeO.none _|refine LeO.ite ?_ ?_|refine LeO.bind ?_ (fun _=>?_)
set_option maxHeartbeats 8000000 in
set_option maxRecDepth 100000 in
theorem spec_TripsOk.calls (k:Nat) (A0:Option Addr) (c0:Nat) (l0:List (S81)) (r:Bool) (w:World) (hr0:Kd.C k81 w A0 l0.length l0) (hc0:l0.length≤c0) (h:spec_TripsOk.f k l0=some r) :
  Calls Try.prog 111 #[.slice A0 l0.length c0] w fun e w'=>e=.returned (.bool r)∧Drawn0 w w':=by
 have HR0:=qaf.mk hr0;have HC0:=qaf.mk hc0;clear hr0 hc0;have H:(spec_TripsOk.l0 k l0 0)=some r:=h;clear h;have H':=qaf.mk H;clear H;go_enter Try.func111,Try.ntmps111;go_wp2
 go_loopg [3] k (fun kq v3 w'=>∃(x3_1:Int),v3=.int .i64 x3_1∧qaf (spec_TripsOk.l0 kq l0 x3_1=some r)∧qaf (kq≤k)∧Drawn0 w w')
 case atStart=>exact⟨(0),(za38),H',⟨Nat.le_refl _⟩,za62⟩
 case round=>
  clear H'
  try clear c1
  obtain⟨x3_1,rfl,HA,HK1,⟨m1,rfl⟩⟩:=hrel
  cases gk with
  |zero=>exact absurd HA.out (by simp[spec_TripsOk.l0])
  |succ k1=>
   have H:=HA.out;clear HA;simp only[spec_TripsOk.l0] at H;by_cases c2:x3_1<(l0.length:Int)
   ·rw[if_pos c2] at H;have c2b0:decide (x3_1<(l0.length:Int))=true:=decide_eq_true c2;clear c2;by_cases c3:0≤x3_1
    ·rw[if_pos c3] at H;have c3b0:decide (0≤x3_1)=true:=decide_eq_true c3;clear c3;replace H:=Option.bind_eq_some_iff.mp H;obtain⟨t133,A40,H⟩:=H;replace H:(if t133=true then((spec_l6In.f ((rd_T81 l0 x3_1).f1) 1 5).bind fun t135=>(if t135=true then(spec_TripsOk.l0 k1 l0 (wrap64 (x3_1+1))) else(some false))) else(some false))=some r:=H;have A4:=qaf.mk A40;clear A40;by_cases c5:t133=true
     ·subst c5
      have H1:((spec_l6In.f ((rd_T81 l0 x3_1).f1) 1 5).bind fun t135=>(if t135=true then(spec_TripsOk.l0 k1 l0 (wrap64 (x3_1+1))) else(some false)))=some r:=by rw[if_pos rfl] at H;exact H
      clear H;have H:=H1;clear H1;replace H:=Option.bind_eq_some_iff.mp H;obtain⟨t135,A60,H⟩:=H;replace H:(if t135=true then(spec_TripsOk.l0 k1 l0 (wrap64 (x3_1+1))) else(some false))=some r:=H;have A6:=qaf.mk A60;clear A60;by_cases c7:t135=true
      ·subst c7
       have H1:(spec_TripsOk.l0 k1 l0 (wrap64 (x3_1+1)))=some r:=by rw[if_pos rfl] at H;exact H
       clear H;have H:=H1;clear H1;have H':=qaf.mk H;clear H;have p132:0≤(x3_1:Int):=of_decide_eq_true (za10);have q132:x3_1<(l0.length:Int):=of_decide_eq_true (za10);obtain⟨ad132,A132_0,c132_0,e132,hx132_0,hx132_1,hl132_0,hi132_0⟩:=at_T81 HR0.out x3_1 p132 q132
       cases e132
       have hxo132_0:=qaf.mk hx132_0;have HR132_0:=qaf.mk hi132_0;have HC132_0:=qaf.mk hl132_0;clear hi132_0 hl132_0;replace p132:=eq_true p132;replace q132:=eq_true q132
       go_wp2_with(first|((with_reducible refine qag (f:=102) rfl ?_);refine zF (some 15) Try.func102 #[.slice A132_0 ((rd_T81 l0 x3_1).f0).length c132_0] ?_;(with_reducible refine(spec_l1Many.calls k1 _ _ ((rd_T81 l0 x3_1).f0) true _ ?side1 ?side2 A4.out).mono ?_);(case side1=>repeat(first|exact HR132_0.out|(with_reducible refine Kd.C_alloc ?_ _)|(with_reducible refine Kd.C_drewN ?_ _)|(with_reducible refine Kd.C_drew ?_)));(case side2=>exact HC132_0.out);rintro e w' ⟨rfl,⟨nd,rfl⟩⟩;refine⟨_,rfl,?_⟩;have p134:0≤(x3_1:Int):=of_decide_eq_true (za10);have q134:x3_1<(l0.length:Int):=of_decide_eq_true (za10);obtain⟨ad134,A134_0,c134_0,e134,hx134_0,hx134_1,hl134_0,hi134_0⟩:=at_T81 HR0.out x3_1 p134 q134;obtain rfl:ad132=ad134:=(by injection e134);have ea_:=Option.some.inj (hxo132_0.out.symm.trans hx134_0);injection ea_ with ea_ en_ ec_;subst ea_;subst ec_;clear en_;have HR134_0:=qaf.mk hi134_0;have HC134_0:=qaf.mk hl134_0;clear hi134_0 hl134_0;replace p134:=eq_true p134;replace q134:=eq_true q134)|(go_at_call 80;(with_reducible refine(spec_l6In.calls ((rd_T81 l0 x3_1).f1) 1 5 true _ A6.out).mono ?_);rintro e w' ⟨rfl,⟨nd,rfl⟩⟩))
       go_roundg k1
       case measure=>have:=HK1.out;omega
       case rel=>exact⟨(wrap64 (x3_1+1)),(za38),H',⟨by have:=HK1.out;omega⟩,za62⟩
      ·replace c7:=Bool.eq_false_iff.mpr c7;subst c7
       have H1:(some false)=some r:=by rw[if_neg (show ¬(false=true) by decide)] at H;exact H
       clear H;have H:=H1;clear H1;obtain rfl:=Option.some.inj H;have p132:0≤(x3_1:Int):=of_decide_eq_true (za10);have q132:x3_1<(l0.length:Int):=of_decide_eq_true (za10);obtain⟨ad132,A132_0,c132_0,e132,hx132_0,hx132_1,hl132_0,hi132_0⟩:=at_T81 HR0.out x3_1 p132 q132
       cases e132
       have hxo132_0:=qaf.mk hx132_0;have HR132_0:=qaf.mk hi132_0;have HC132_0:=qaf.mk hl132_0;clear hi132_0 hl132_0;replace p132:=eq_true p132;replace q132:=eq_true q132
       go_wp2_with(first|((with_reducible refine qag (f:=102) rfl ?_);refine zF (some 15) Try.func102 #[.slice A132_0 ((rd_T81 l0 x3_1).f0).length c132_0] ?_;(with_reducible refine(spec_l1Many.calls k1 _ _ ((rd_T81 l0 x3_1).f0) true _ ?side1 ?side2 A4.out).mono ?_);(case side1=>repeat(first|exact HR132_0.out|(with_reducible refine Kd.C_alloc ?_ _)|(with_reducible refine Kd.C_drewN ?_ _)|(with_reducible refine Kd.C_drew ?_)));(case side2=>exact HC132_0.out);rintro e w' ⟨rfl,⟨nd,rfl⟩⟩;refine⟨_,rfl,?_⟩;have p134:0≤(x3_1:Int):=of_decide_eq_true (za10);have q134:x3_1<(l0.length:Int):=of_decide_eq_true (za10);obtain⟨ad134,A134_0,c134_0,e134,hx134_0,hx134_1,hl134_0,hi134_0⟩:=at_T81 HR0.out x3_1 p134 q134;obtain rfl:ad132=ad134:=(by injection e134);have ea_:=Option.some.inj (hxo132_0.out.symm.trans hx134_0);injection ea_ with ea_ en_ ec_;subst ea_;subst ec_;clear en_;have HR134_0:=qaf.mk hi134_0;have HC134_0:=qaf.mk hl134_0;clear hi134_0 hl134_0;replace p134:=eq_true p134;replace q134:=eq_true q134)|(go_at_call 80;(with_reducible refine(spec_l6In.calls ((rd_T81 l0 x3_1).f1) 1 5 false _ A6.out).mono ?_);rintro e w' ⟨rfl,⟨nd,rfl⟩⟩))
       go_ret;exact⟨za38,za62⟩
     ·replace c5:=Bool.eq_false_iff.mpr c5;subst c5
      have H1:(some false)=some r:=by rw[if_neg (show ¬(false=true) by decide)] at H;exact H
      clear H;have H:=H1;clear H1;obtain rfl:=Option.some.inj H;have p132:0≤(x3_1:Int):=of_decide_eq_true (za10);have q132:x3_1<(l0.length:Int):=of_decide_eq_true (za10);obtain⟨ad132,A132_0,c132_0,e132,hx132_0,hx132_1,hl132_0,hi132_0⟩:=at_T81 HR0.out x3_1 p132 q132
      cases e132
      have hxo132_0:=qaf.mk hx132_0;have HR132_0:=qaf.mk hi132_0;have HC132_0:=qaf.mk hl132_0;clear hi132_0 hl132_0;replace p132:=eq_true p132;replace q132:=eq_true q132
      go_wp2_with(first|((with_reducible refine qag (f:=102) rfl ?_);refine zF (some 15) Try.func102 #[.slice A132_0 ((rd_T81 l0 x3_1).f0).length c132_0] ?_;(with_reducible refine(spec_l1Many.calls k1 _ _ ((rd_T81 l0 x3_1).f0) false _ ?side1 ?side2 A4.out).mono ?_);(case side1=>repeat(first|exact HR132_0.out|(with_reducible refine Kd.C_alloc ?_ _)|(with_reducible refine Kd.C_drewN ?_ _)|(with_reducible refine Kd.C_drew ?_)));(case side2=>exact HC132_0.out);rintro e w' ⟨rfl,⟨nd,rfl⟩⟩;refine⟨_,rfl,?_⟩))
      go_ret;exact⟨za38,za62⟩
    ·rw[if_neg c3] at H;exact absurd H (by simp)
   ·rw[if_neg c2] at H;have c2b0:decide (x3_1<(l0.length:Int))=false:=decide_eq_false c2;clear c2;obtain rfl:=Option.some.inj H;go_wp2;go_ret;exact⟨za38,za62⟩
def spec_TripsMay.f (k:Nat) (l0:List (S81)) (a1_0:Int) (a1_1:Int) (l1_2:List Int):Option (Bool):=(spec_TripsOk.f k l0).bind fun t137=>(if t137=true then((spec_RecOk.f k a1_0 a1_1 l1_2).bind fun t138=>(if t138=true then((spec_l12May.f k l0 a1_0 a1_1 l1_2).bind fun t139=>(some t139)) else(some false))) else(some false))
theorem spec_TripsMay.mono:∀a0 a1 a2 a3 k,LeO (spec_TripsMay.f k a0 a1 a2 a3) (spec_TripsMay.f (k+1) a0 a1 a2 a3):=by
 intro a0 a1 a2 a3 k;unfold spec_TripsMay.f
 repeat' first|(with_reducible exact spec_RecOk.mono _ _ _ _)|(with_reducible exact spec_TripsOk.mono _ _)|(with_reducible exact spec_l12May.mono _ _ _ _ _)|(with_reducible exact LeO.refl _)|(with_reducible exact LeO.none _)|(with_reducible refine LeO.ite ?_ ?_)|(with_reducible refine LeO.bind ?_ (fun _=>?_))|exact spec_RecOk.mono _ _ _ _|exact spec_TripsOk.mono _ _|exact spec_l12May.mono _ _ _ _ _|exact LeO.none _|refine LeO.ite ?_ ?_|refine LeO.bind ?_ (fun _=>?_)
set_option maxHeartbeats 8000000 in
set_option maxRecDepth 100000 in
theorem spec_TripsMay.calls (k:Nat) (A0:Option Addr) (c0:Nat) (l0:List (S81)) (a1_0:Int) (a1_1:Int) (A1_2:Option Addr) (c1_2:Nat) (l1_2:List Int) (r:Bool) (w:World) (hr0:Kd.C k81 w A0 l0.length l0) (hc0:l0.length≤c0) (hr1_2:Kd.C (Kd.int .i64) w A1_2 l1_2.length l1_2) (hc1_2:l1_2.length≤c1_2) (h:spec_TripsMay.f k l0 a1_0 a1_1 l1_2=some r) :
  Calls Try.prog 100 #[.slice A0 l0.length c0,.agg #[.int .i64 a1_0,.int .i64 a1_1,.slice A1_2 l1_2.length c1_2]] w fun e w'=>e=.returned (.bool r)∧Below w.heap.size w w':=by
 have hu32:=Try.underlying32;have HR0:=qaf.mk hr0;have HC0:=qaf.mk hc0;clear hr0 hc0;have HR1_2:=qaf.mk hr1_2;have HC1_2:=qaf.mk hc1_2;clear hr1_2 hc1_2;have HB:=qaf.mk (Below.refl w.heap.size w);have H:((spec_TripsOk.f k l0).bind fun t137=>(if t137=true then((spec_RecOk.f k a1_0 a1_1 l1_2).bind fun t138=>(if t138=true then((spec_l12May.f k l0 a1_0 a1_1 l1_2).bind fun t139=>(some t139)) else(some false))) else(some false)))=some r:=h;clear h;replace H:=Option.bind_eq_some_iff.mp H;obtain⟨t137,A30,H⟩:=H;replace H:(if t137=true then((spec_RecOk.f k a1_0 a1_1 l1_2).bind fun t138=>(if t138=true then((spec_l12May.f k l0 a1_0 a1_1 l1_2).bind fun t139=>(some t139)) else(some false))) else(some false))=some r:=H;have A3:=qaf.mk A30;clear A30;by_cases c4:t137=true
 ·subst c4
  have H1:((spec_RecOk.f k a1_0 a1_1 l1_2).bind fun t138=>(if t138=true then((spec_l12May.f k l0 a1_0 a1_1 l1_2).bind fun t139=>(some t139)) else(some false)))=some r:=by rw[if_pos rfl] at H;exact H
  clear H;have H:=H1;clear H1;replace H:=Option.bind_eq_some_iff.mp H;obtain⟨t138,A50,H⟩:=H;replace H:(if t138=true then((spec_l12May.f k l0 a1_0 a1_1 l1_2).bind fun t139=>(some t139)) else(some false))=some r:=H;have A5:=qaf.mk A50;clear A50;by_cases c6:t138=true
  ·subst c6
   have H1:((spec_l12May.f k l0 a1_0 a1_1 l1_2).bind fun t139=>(some t139))=some r:=by rw[if_pos rfl] at H;exact H
   clear H;have H:=H1;clear H1;replace H:=Option.bind_eq_some_iff.mp H;obtain⟨t139,A70,H⟩:=H;replace H:(some t139)=some r:=H;have A7:=qaf.mk A70;clear A70;obtain rfl:=Option.some.inj H;go_enter Try.func100,Try.ntmps100
   go_wp2_with(first|((with_reducible refine qam (N:=3) rfl ?_);refine zX (N:=3) (cs:=#[.int .i64 a1_0,.int .i64 a1_1,.slice A1_2 l1_2.length c1_2]) (t:=32) ?_;intro gb136 hg w8 hbox hb;have BK136:=qaf.mk hbox;have GW136:=zH (w:=w) hg (za2 HB);have GE136:=GW136;replace HB:=qaf.mk (qad (za2 HB) hb);clear hb hbox hg)|((with_reducible refine qag (f:=111) rfl ?_);refine zF (some 6) Try.func111 #[.slice A0 l0.length c0] ?_;(with_reducible refine(spec_TripsOk.calls k _ _ l0 true _ ?side1 ?side2 A3.out).mono ?_);(case side1=>exact zR HR0 HB);(case side2=>exact HC0.out);rintro e w' ⟨rfl,⟨nd,rfl⟩⟩;refine⟨_,rfl,?_⟩;obtain⟨hcz9_0,hcz9_1,hcz9_2,hfz9_0,hfz9_1,hfz9_2⟩:=zC3 BK136)|(go_at_call 84;(with_reducible refine(spec_RecOk.calls k a1_0 a1_1 _ _ l1_2 true _ ?side1 ?side2 A5.out).mono ?_);(case side1=>repeat(first|exact(Kd.C_below HR1_2.out (za3 HB GE136))|(with_reducible refine Kd.C_alloc ?_ _)|(with_reducible refine Kd.C_drewN ?_ _)|(with_reducible refine Kd.C_drew ?_)));(case side2=>exact HC1_2.out);rintro e w10 ⟨rfl,hb⟩;replace BK136:=zY BK136 hb;replace HB:=qaf.mk (qad (za3 HB GE136) hb);(try clear hb);obtain⟨hcz11_0,hcz11_1,hcz11_2,hfz11_0,hfz11_1,hfz11_2⟩:=zC3 BK136)|(go_at_call 85;(with_reducible refine(spec_l12May.calls k _ _ l0 a1_0 a1_1 _ _ l1_2 t139 _ ?side1 ?side2 ?side3 ?side4 A7.out).mono ?_);(case side1=>exact zR HR0 HB);(case side2=>exact HC0.out);(case side3=>exact zR HR1_2 HB);(case side4=>exact HC1_2.out);rintro e w12 ⟨rfl,hb⟩;replace BK136:=zY BK136 hb;replace HB:=qaf.mk (qad (za3 HB GE136) hb);(try clear hb)))
   go_ret;exact⟨za12,za3 HB GE136⟩
  ·replace c6:=Bool.eq_false_iff.mpr c6;subst c6
   have H1:(some false)=some r:=by rw[if_neg (show ¬(false=true) by decide)] at H;exact H
   clear H;have H:=H1;clear H1;obtain rfl:=Option.some.inj H;go_enter Try.func100,Try.ntmps100
   go_wp2_with(first|((with_reducible refine qam (N:=3) rfl ?_);refine zX (N:=3) (cs:=#[.int .i64 a1_0,.int .i64 a1_1,.slice A1_2 l1_2.length c1_2]) (t:=32) ?_;intro gb136 hg w13 hbox hb;have BK136:=qaf.mk hbox;have GW136:=zH (w:=w) hg (za2 HB);have GE136:=GW136;replace HB:=qaf.mk (qad (za2 HB) hb);clear hb hbox hg)|((with_reducible refine qag (f:=111) rfl ?_);refine zF (some 6) Try.func111 #[.slice A0 l0.length c0] ?_;(with_reducible refine(spec_TripsOk.calls k _ _ l0 true _ ?side1 ?side2 A3.out).mono ?_);(case side1=>exact zR HR0 HB);(case side2=>exact HC0.out);rintro e w' ⟨rfl,⟨nd,rfl⟩⟩;refine⟨_,rfl,?_⟩;obtain⟨hcz14_0,hcz14_1,hcz14_2,hfz14_0,hfz14_1,hfz14_2⟩:=zC3 BK136)|(go_at_call 84;(with_reducible refine(spec_RecOk.calls k a1_0 a1_1 _ _ l1_2 false _ ?side1 ?side2 A5.out).mono ?_);(case side1=>repeat(first|exact(Kd.C_below HR1_2.out (za3 HB GE136))|(with_reducible refine Kd.C_alloc ?_ _)|(with_reducible refine Kd.C_drewN ?_ _)|(with_reducible refine Kd.C_drew ?_)));(case side2=>exact HC1_2.out);rintro e w15 ⟨rfl,hb⟩;replace BK136:=zY BK136 hb;replace HB:=qaf.mk (qad (za3 HB GE136) hb);(try clear hb)))
   go_ret;exact⟨za12,za3 HB GE136⟩
 ·replace c4:=Bool.eq_false_iff.mpr c4;subst c4
  have H1:(some false)=some r:=by rw[if_neg (show ¬(false=true) by decide)] at H;exact H
  clear H;have H:=H1;clear H1;obtain rfl:=Option.some.inj H;go_enter Try.func100,Try.ntmps100
  go_wp2_with(first|((with_reducible refine qam (N:=3) rfl ?_);refine zX (N:=3) (cs:=#[.int .i64 a1_0,.int .i64 a1_1,.slice A1_2 l1_2.length c1_2]) (t:=32) ?_;intro gb136 hg w16 hbox hb;have BK136:=qaf.mk hbox;have GW136:=zH (w:=w) hg (za2 HB);have GE136:=GW136;replace HB:=qaf.mk (qad (za2 HB) hb);clear hb hbox hg)|((with_reducible refine qag (f:=111) rfl ?_);refine zF (some 6) Try.func111 #[.slice A0 l0.length c0] ?_;(with_reducible refine(spec_TripsOk.calls k _ _ l0 false _ ?side1 ?side2 A3.out).mono ?_);(case side1=>exact zR HR0 HB);(case side2=>exact HC0.out);rintro e w' ⟨rfl,⟨nd,rfl⟩⟩;refine⟨_,rfl,?_⟩))
  go_ret;exact⟨za12,za3 HB GE136⟩
end Go.Proofs.Ytmbdphefnalenaa.Print
