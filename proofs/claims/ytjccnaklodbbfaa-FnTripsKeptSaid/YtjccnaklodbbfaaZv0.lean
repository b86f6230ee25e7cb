-- Written by squeeze.py: not trusted, Lean checks it.
import Derived.Test.YtjccnaklodbbfaaZK
import Derived.Test.YtjccnaklodbbfaaZb0
import Derived.Test.YtjccnaklodbbfaaZi0
import Derived.Test.YtjccnaklodbbfaaZm0
namespace Go.Proofs.Ytjccnaklodbbfaa.Print
open Go.RowKit Go.Proofs.YtjccnaklodbbfaaW.PrintWords Go.Proofs.YtjccnaklodbbfaaW.PrintLast Go.Proofs.YtjccnaklodbbfaaW.PrintMore
attribute [local go_sem] max2_int min2_int max_two min_two max_three min_three max_four min_four
set_option linter.unusedVariables false
set_option linter.unusedSimpArgs false
def spec_l12May.j0:Nat→Int→Int→Bool→Option (Bool)
 |0,_,_,_=>none
 |k+1,x5,x28,x29=>if x29=true then(some (x5 == 1)) else(if x28=7 then(if x5=2 then(some true) else(some (x5 == 3))) else(some false))
def spec_l12May.f (k:Nat) (l0:List (S73)) (a1_0:Int) (a1_1:Int) (l1_2:List Int):Option (Bool):=if a1_0=4 then(some (a1_1 == (wrap64 ((l0.length:Int)+1)))) else(if a1_1>(l0.length:Int) then(some false) else(if 0≤(wrap64 (a1_1 - 1)) then(if(wrap64 (a1_1 - 1))<(l0.length:Int) then(if a1_0=5 then(spec_l12May.j0 k ((rd_T73 l0 (wrap64 (a1_1 - 1))).f1) a1_0 (a1_0 == 5)) else(spec_l12May.j0 k ((rd_T73 l0 (wrap64 (a1_1 - 1))).f1) a1_0 (a1_0 == 6))) else(none)) else(none)))
theorem spec_l12May.mono_l:∀k,(∀y0 y1 y2,LeO (spec_l12May.j0 k y0 y1 y2) (spec_l12May.j0 (k+1) y0 y1 y2))
 |0=>fun _ _ _ r h=>by simp[spec_l12May.j0] at h
 |k+1=>by
  have ih0:=spec_l12May.mono_l k
  ·intro y0 y1 y2
   unfold spec_l12May.j0
   repeat' first
   |(with_reducible exact ih0 _ _ _)
   |(with_reducible exact LeO.refl _)
   |(with_reducible exact LeO.none _)
   |(with_reducible refine LeO.ite ?_ ?_)
   |(with_reducible refine LeO.bind ?_ (fun _=>?_))
   |exact ih0 _ _ _
   |exact LeO.none _
   |refine LeO.ite ?_ ?_
   |refine LeO.bind ?_ (fun _=>?_)
theorem spec_l12May.mono:∀a0 a1 a2 a3 k,LeO (spec_l12May.f k a0 a1 a2 a3) (spec_l12May.f (k+1) a0 a1 a2 a3):=by
 intro a0 a1 a2 a3 k
 have ih0:=spec_l12May.mono_l k
 unfold spec_l12May.f
 repeat' first
   |(with_reducible exact ih0 _ _ _)
   |(with_reducible exact LeO.refl _)
   |(with_reducible exact LeO.none _)
   |(with_reducible refine LeO.ite ?_ ?_)
   |(with_reducible refine LeO.bind ?_ (fun _=>?_))
   |exact ih0 _ _ _
   |exact LeO.none _
   |refine LeO.ite ?_ ?_
   |refine LeO.bind ?_ (fun _=>?_)
set_option maxHeartbeats 8000000 in
set_option maxRecDepth 100000 in
theorem spec_l12May.calls (k:Nat) (A0:Option Addr) (c0:Nat) (l0:List (S73)) (a1_0:Int) (a1_1:Int) (A1_2:Option Addr) (c1_2:Nat) (l1_2:List Int) (r:Bool) (w:World) (hr0:Kd.C k73 w A0 l0.length l0) (hc0:l0.length≤c0) (hr1_2:Kd.C (Kd.int .i64) w A1_2 l1_2.length l1_2) (hc1_2:l1_2.length≤c1_2) (h:spec_l12May.f k l0 a1_0 a1_1 l1_2=some r) :
  Calls Try.prog 93 #[.slice A0 l0.length c0,.agg #[.int .i64 a1_0,.int .i64 a1_1,.slice A1_2 l1_2.length c1_2]] w fun e w'=>e=.returned (.bool r)∧Below w.heap.size w w':=by
 have hu62:=Try.underlying62
 have HR0:=Aside0.mk hr0
 have HC0:=Aside0.mk hc0
 clear hr0 hc0
 have HR1_2:=Aside0.mk hr1_2
 have HC1_2:=Aside0.mk hc1_2
 clear hr1_2 hc1_2
 have HB:=Aside0.mk (Below.refl w.heap.size w)
 have H:(if a1_0=4 then(some (a1_1 == (wrap64 ((l0.length:Int)+1)))) else(if a1_1>(l0.length:Int) then(some false) else(if 0≤(wrap64 (a1_1 - 1)) then(if(wrap64 (a1_1 - 1))<(l0.length:Int) then(if a1_0=5 then(spec_l12May.j0 k ((rd_T73 l0 (wrap64 (a1_1 - 1))).f1) a1_0 (a1_0 == 5)) else(spec_l12May.j0 k ((rd_T73 l0 (wrap64 (a1_1 - 1))).f1) a1_0 (a1_0 == 6))) else(none)) else(none))))=some r:=h
 clear h
 by_cases c3:a1_0=4
 ·rw[if_pos c3] at H
  have c3b0:(a1_0 == 4)=true:=beq_iff_eq.mpr c3
  have c3b1:(a1_0 != 4)=false:=bne_eq_false_iff_eq.mpr c3
  clear c3
  obtain rfl:=Option.some.inj H
  go_enter Try.func93,Try.ntmps93
  go_wp2_with(first|((with_reducible refine qah (N:=3) rfl ?_);refine zX (N:=3) (cs:=#[.int .i64 a1_0,.int .i64 a1_1,.slice A1_2 l1_2.length c1_2]) (t:=62) ?_;intro gb763 hg w4 hbox hb;have BK763:=Aside0.mk hbox;have GW763:=zH (w:=w) hg (za1 HB);have GE763:=GW763;replace HB:=Aside0.mk (qab (za1 HB) hb);clear hb hbox hg;obtain⟨hcz5_0,hcz5_1,hcz5_2,hfz5_0,hfz5_1,hfz5_2⟩:=zC3 BK763))
  go_ret
  exact⟨za9,za0 HB GE763⟩
 ·rw[if_neg c3] at H
  have c3b0:(a1_0 == 4)=false:=beq_eq_false_iff_ne.mpr c3
  have c3b1:(a1_0 != 4)=true:=bne_iff_ne.mpr c3
  by_cases c6:a1_1>(l0.length:Int)
  ·rw[if_pos c6] at H
   have c6b0:decide ((l0.length:Int)<a1_1)=true:=decide_eq_true c6
   clear c6
   obtain rfl:=Option.some.inj H
   go_enter Try.func93,Try.ntmps93
   go_wp2_with(first|((with_reducible refine qah (N:=3) rfl ?_);refine zX (N:=3) (cs:=#[.int .i64 a1_0,.int .i64 a1_1,.slice A1_2 l1_2.length c1_2]) (t:=62) ?_;intro gb763 hg w7 hbox hb;have BK763:=Aside0.mk hbox;have GW763:=zH (w:=w) hg (za1 HB);have GE763:=GW763;replace HB:=Aside0.mk (qab (za1 HB) hb);clear hb hbox hg;obtain⟨hcz8_0,hcz8_1,hcz8_2,hfz8_0,hfz8_1,hfz8_2⟩:=zC3 BK763))
   go_ret
   exact⟨za9,za0 HB GE763⟩
  ·rw[if_neg c6] at H
   have c6b0:decide ((l0.length:Int)<a1_1)=false:=decide_eq_false c6
   clear c6
   obtain⟨ji9,hji9⟩:∃j_:Int,(wrap64 (a1_1 - 1))=j_:=⟨_,rfl⟩
   replace H:(if 0≤(ji9) then(if(ji9)<(l0.length:Int) then(if a1_0=5 then(spec_l12May.j0 k ((rd_T73 l0 (ji9)).f1) a1_0 (a1_0 == 5)) else(spec_l12May.j0 k ((rd_T73 l0 (ji9)).f1) a1_0 (a1_0 == 6))) else(none)) else(none))=some r:=by first|(rw[hji9] at H;exact H)|(simp only[hji9] at H ⊢;exact H)
   have hji9w:(IntKind.i64.wrap (a1_1 - 1))=ji9:=(qaj _).trans hji9
   by_cases c10:0≤(ji9)
   ·rw[if_pos c10] at H
    have c10b0:decide (0≤(ji9))=true:=decide_eq_true c10
    clear c10
    by_cases c11:(ji9)<(l0.length:Int)
    ·rw[if_pos c11] at H
     have c11b0:decide ((ji9)<(l0.length:Int))=true:=decide_eq_true c11
     clear c11
     have HC12:=Aside0.mk H
     clear H
     go_enter Try.func93,Try.ntmps93
     go_upto_if 29 with(first|((with_reducible refine qah (N:=3) rfl ?_);refine zX (N:=3) (cs:=#[.int .i64 a1_0,.int .i64 a1_1,.slice A1_2 l1_2.length c1_2]) (t:=62) ?_;intro gb763 hg w13 hbox hb;have BK763:=Aside0.mk hbox;have GW763:=zH (w:=w) hg (za1 HB);have GE763:=GW763;replace HB:=Aside0.mk (qab (za1 HB) hb);clear hb hbox hg;obtain⟨hcz14_0,hcz14_1,hcz14_2,hfz14_0,hfz14_1,hfz14_2⟩:=zC3 BK763;have p764:0≤((ji9):Int):=of_decide_eq_true (za5);have q764:(ji9)<(l0.length:Int):=of_decide_eq_true (za5);obtain⟨ad764,A764_0,c764_0,e764,hx764_0,hx764_1,hl764_0,hi764_0⟩:=at_T73 HR0.out (ji9) p764 q764;cases e764;have hxo764_0:=Aside0.mk hx764_0;replace hx764_0:=(HB.out.cell (World.block_lt_of_cell? w _ hx764_0)).trans hx764_0;replace hx764_1:=(HB.out.cell (World.block_lt_of_cell? w _ hx764_1)).trans hx764_1;have HR764_0:=Aside0.mk hi764_0;have HC764_0:=Aside0.mk hl764_0;clear hi764_0 hl764_0;replace p764:=eq_true p764;replace q764:=eq_true q764))
     (try simp only[Act.put,List.setIfInBounds_toArray,List.set_cons_zero,List.set_cons_succ])
     go_cut [29] (fun v29 wc=>∃(kq:Nat) (x29_11:Bool),v29=.bool x29_11∧Aside0 (spec_l12May.j0 kq ((rd_T73 l0 (ji9)).f1) a1_0 x29_11=some r)∧Aside0 (kq≤k)∧Aside0 (wc.heap[gb763]?=some (.cells #[.int .i64 a1_0,.int .i64 a1_1,(.slice A1_2 l1_2.length c1_2)] 62 (0,0)))∧Aside0 (Below w.heap.size w wc))
     case first=>
      have H:=HC12.out
      clear HC12
      by_cases c15:a1_0=5
      ·rw[if_pos c15] at H
       have c15b0:(a1_0 == 5)=true:=beq_iff_eq.mpr c15
       have c15b1:(a1_0 != 5)=false:=bne_eq_false_iff_eq.mpr c15
       clear c15
       (first|rw[c15b0]|(simp only[qaj,qak];rw[c15b0])|skip)
       have H':=Aside0.mk H
       clear H
       go_wp2
       go_meet
       case rel=>exact⟨_,((a1_0 == 5)),(za17),H',⟨za23⟩,⟨za16 BK763⟩,⟨za0 HB GE763⟩⟩
      ·rw[if_neg c15] at H
       have c15b0:(a1_0 == 5)=false:=beq_eq_false_iff_ne.mpr c15
       have c15b1:(a1_0 != 5)=true:=bne_iff_ne.mpr c15
       (first|rw[c15b0]|(simp only[qaj,qak];rw[c15b0])|skip)
       have H':=Aside0.mk H
       clear H
       go_wp2
       go_meet
       case rel=>exact⟨_,((a1_0 == 6)),(za17),H',⟨za23⟩,⟨za16 BK763⟩,⟨za0 HB GE763⟩⟩
     case rest=>
      clear HC12
      try clear c1
      try clear p2
      try clear c3
      try clear c3b0
      try clear c3b1
      try clear c6
      try clear c6b0
      try clear p6
      try clear c7
      try clear p7
      try clear q7
      try clear hx7
      try clear c9
      try clear c10
      try clear c10b0
      try clear c11
      try clear c11b0
      try clear c15
      try clear c15b0
      try clear c15b1
      try clear hcz14_0
      try clear hcz14_1
      try clear hcz14_2
      try clear hcz5_0
      try clear hcz5_1
      try clear hcz5_2
      try clear hcz8_0
      try clear hcz8_1
      try clear hcz8_2
      try clear hfz14_0
      try clear hfz14_1
      try clear hfz14_2
      try clear hfz5_0
      try clear hfz5_1
      try clear hfz5_2
      try clear hfz8_0
      try clear hfz8_1
      try clear hfz8_2
      try clear hx764_0
      try clear hx764_1
      try clear p764
      try clear q764
      obtain⟨kq,x29_11,rfl,HA,HJ11,BK763,HB⟩:=hcut
      cases kq with
      |zero=>exact absurd HA.out (by simp[spec_l12May.j0])
      |succ kj11=>
       have H:=HA.out
       clear HA
       simp only[spec_l12May.j0] at H
       by_cases c16:x29_11=true
       ·subst c16
        have H1:(some (((rd_T73 l0 (ji9)).f1) == 1))=some r:=by rw[if_pos rfl] at H;exact H
        clear H
        have H:=H1
        clear H1
        obtain rfl:=Option.some.inj H
        go_wp2
        go_ret
        exact⟨by first|rfl|(simp[qam,qal]<;>rfl)|(simp only[←hji9];first|rfl|(simp[qam,qal]<;>rfl))|(simp[*,qam,qal]<;>rfl),za0 HB GE763⟩
       ·replace c16:=Bool.eq_false_iff.mpr c16
        subst c16
        have H1:(if a1_0=7 then(if((rd_T73 l0 (ji9)).f1)=2 then(some true) else(some (((rd_T73 l0 (ji9)).f1) == 3))) else(some false))=some r:=by rw[if_neg (show ¬(false=true) by decide)] at H;exact H
        clear H
        have H:=H1
        clear H1
        by_cases c17:a1_0=7
        ·rw[if_pos c17] at H
         have c17b0:(a1_0 == 7)=true:=beq_iff_eq.mpr c17
         have c17b1:(a1_0 != 7)=false:=bne_eq_false_iff_eq.mpr c17
         clear c17
         by_cases c18:((rd_T73 l0 (ji9)).f1)=2
         ·rw[if_pos c18] at H
          have c18b0:(((rd_T73 l0 (ji9)).f1) == 2)=true:=beq_iff_eq.mpr c18
          have c18b1:(((rd_T73 l0 (ji9)).f1) != 2)=false:=bne_eq_false_iff_eq.mpr c18
          clear c18
          obtain rfl:=Option.some.inj H
          go_wp2
          go_ret
          exact⟨by first|rfl|(simp[qam,qal]<;>rfl)|(simp only[←hji9];first|rfl|(simp[qam,qal]<;>rfl))|(simp[*,qam,qal]<;>rfl),za0 HB GE763⟩
         ·rw[if_neg c18] at H
          have c18b0:(((rd_T73 l0 (ji9)).f1) == 2)=false:=beq_eq_false_iff_ne.mpr c18
          have c18b1:(((rd_T73 l0 (ji9)).f1) != 2)=true:=bne_iff_ne.mpr c18
          obtain rfl:=Option.some.inj H
          go_wp2
          go_ret
          exact⟨by first|rfl|(simp[qam,qal]<;>rfl)|(simp only[←hji9];first|rfl|(simp[qam,qal]<;>rfl))|(simp[*,qam,qal]<;>rfl),za0 HB GE763⟩
        ·rw[if_neg c17] at H
         have c17b0:(a1_0 == 7)=false:=beq_eq_false_iff_ne.mpr c17
         have c17b1:(a1_0 != 7)=true:=bne_iff_ne.mpr c17
         obtain rfl:=Option.some.inj H
         go_wp2
         go_ret
         exact⟨by first|rfl|(simp[qam,qal]<;>rfl)|(simp only[←hji9];first|rfl|(simp[qam,qal]<;>rfl))|(simp[*,qam,qal]<;>rfl),za0 HB GE763⟩
    ·rw[if_neg c11] at H
     exact absurd H (by simp)
   ·rw[if_neg c10] at H
    exact absurd H (by simp)
def spec_TripsOk.l0:Nat→List (S73)→Int→Option (Bool)
 |0,_,_=>none
 |k+1,x0,x3=>if x3<(x0.length:Int) then(if 0≤x3 then((spec_l1Many.f k ((rd_T73 x0 x3).f0)).bind fun t801=>(if t801=true then((spec_l6In.f ((rd_T73 x0 x3).f1) 1 5).bind fun t803=>(if t803=true then(spec_TripsOk.l0 k x0 (wrap64 (x3+1))) else(some false))) else(some false))) else(none)) else(some (decide ((x0.length:Int)≤6)))
def spec_TripsOk.f (k:Nat) (l0:List (S73)):Option (Bool):=spec_TripsOk.l0 k l0 0
theorem spec_TripsOk.mono_l:∀k,(∀y0 y1,LeO (spec_TripsOk.l0 k y0 y1) (spec_TripsOk.l0 (k+1) y0 y1))
 |0=>fun _ _ r h=>by simp[spec_TripsOk.l0] at h
 |k+1=>by
  have ih0:=spec_TripsOk.mono_l k
  ·intro y0 y1
   unfold spec_TripsOk.l0
   repeat' first
   |(with_reducible exact ih0 _ _)
   |(with_reducible exact spec_l1Many.mono _ _)
   |(with_reducible exact LeO.refl _)
   |(with_reducible exact LeO.none _)
   |(with_reducible refine LeO.ite ?_ ?_)
   |(with_reducible refine LeO.bind ?_ (fun _=>?_))
   |exact ih0 _ _
   |exact spec_l1Many.mono _ _
   |exact LeO.none _
   |refine LeO.ite ?_ ?_
   |refine LeO.bind ?_ (fun _=>?_)
theorem spec_TripsOk.mono:∀a0 k,LeO (spec_TripsOk.f k a0) (spec_TripsOk.f (k+1) a0):=by
 intro a0 k
 have ih0:=spec_TripsOk.mono_l k
 unfold spec_TripsOk.f
 repeat' first
   |(with_reducible exact ih0 _ _)
   |(with_reducible exact spec_l1Many.mono _ _)
   |(with_reducible exact LeO.refl _)
   |(with_reducible exact LeO.none _)
   |(with_reducible refine LeO.ite ?_ ?_)
   |(with_reducible refine LeO.bind ?_ (fun _=>?_))
   |exact ih0 _ _
   |exact spec_l1Many.mono _ _
   |exact LeO.none _
   |refine LeO.ite ?_ ?_
   |refine LeO.bind ?_ (fun _=>?_)
set_option maxHeartbeats 8000000 in
set_option maxRecDepth 100000 in
theorem spec_TripsOk.calls (k:Nat) (A0:Option Addr) (c0:Nat) (l0:List (S73)) (r:Bool) (w:World) (hr0:Kd.C k73 w A0 l0.length l0) (hc0:l0.length≤c0) (h:spec_TripsOk.f k l0=some r) :
  Calls Try.prog 47 #[.slice A0 l0.length c0] w fun e w'=>e=.returned (.bool r)∧Drawn0 w w':=by
 have HR0:=Aside0.mk hr0
 have HC0:=Aside0.mk hc0
 clear hr0 hc0
 have H:(spec_TripsOk.l0 k l0 0)=some r:=h
 clear h
 have H':=Aside0.mk H
 clear H
 go_enter Try.func47,Try.ntmps47
 go_wp2
 go_loopg [3] k (fun kq v3 w'=>∃(x3_1:Int),v3=.int .i64 x3_1∧Aside0 (spec_TripsOk.l0 kq l0 x3_1=some r)∧Aside0 (kq≤k)∧Drawn0 w w')
 case atStart=>exact⟨(0),(za17),H',⟨Nat.le_refl _⟩,za20⟩
 case round=>
  clear H'
  obtain⟨x3_1,rfl,HA,HK1,⟨m1,rfl⟩⟩:=hrel
  cases gk with
  |zero=>exact absurd HA.out (by simp[spec_TripsOk.l0])
  |succ k1=>
   have H:=HA.out
   clear HA
   simp only[spec_TripsOk.l0] at H
   by_cases c2:x3_1<(l0.length:Int)
   ·rw[if_pos c2] at H
    have c2b0:decide (x3_1<(l0.length:Int))=true:=decide_eq_true c2
    clear c2
    by_cases c3:0≤x3_1
    ·rw[if_pos c3] at H
     have c3b0:decide (0≤x3_1)=true:=decide_eq_true c3
     clear c3
     replace H:=Option.bind_eq_some_iff.mp H
     obtain⟨t801,A40,H⟩:=H
     replace H:(if t801=true then((spec_l6In.f ((rd_T73 l0 x3_1).f1) 1 5).bind fun t803=>(if t803=true then(spec_TripsOk.l0 k1 l0 (wrap64 (x3_1+1))) else(some false))) else(some false))=some r:=H
     have A4:=Aside0.mk A40
     clear A40
     by_cases c5:t801=true
     ·subst c5
      have H1:((spec_l6In.f ((rd_T73 l0 x3_1).f1) 1 5).bind fun t803=>(if t803=true then(spec_TripsOk.l0 k1 l0 (wrap64 (x3_1+1))) else(some false)))=some r:=by rw[if_pos rfl] at H;exact H
      clear H
      have H:=H1
      clear H1
      replace H:=Option.bind_eq_some_iff.mp H
      obtain⟨t803,A60,H⟩:=H
      replace H:(if t803=true then(spec_TripsOk.l0 k1 l0 (wrap64 (x3_1+1))) else(some false))=some r:=H
      have A6:=Aside0.mk A60
      clear A60
      by_cases c7:t803=true
      ·subst c7
       have H1:(spec_TripsOk.l0 k1 l0 (wrap64 (x3_1+1)))=some r:=by rw[if_pos rfl] at H;exact H
       clear H
       have H:=H1
       clear H1
       have H':=Aside0.mk H
       clear H
       have p800:0≤(x3_1:Int):=of_decide_eq_true (za5)
       have q800:x3_1<(l0.length:Int):=of_decide_eq_true (za5)
       obtain⟨ad800,A800_0,c800_0,e800,hx800_0,hx800_1,hl800_0,hi800_0⟩:=at_T73 HR0.out x3_1 p800 q800
       cases e800
       have hxo800_0:=Aside0.mk hx800_0
       have HR800_0:=Aside0.mk hi800_0
       have HC800_0:=Aside0.mk hl800_0
       clear hi800_0 hl800_0
       replace p800:=eq_true p800
       replace q800:=eq_true q800
       go_wp2_with(first|((with_reducible refine qaf (f:=86) rfl ?_);refine zF (some 15) Try.func86 #[.slice A800_0 ((rd_T73 l0 x3_1).f0).length c800_0] ?_;(with_reducible refine(spec_l1Many.calls k1 _ _ ((rd_T73 l0 x3_1).f0) true _ ?side1 ?side2 A4.out).mono ?_);(case side1=>repeat(first|exact HR800_0.out|(with_reducible refine Kd.C_alloc ?_ _)|(with_reducible refine Kd.C_drewN ?_ _)|(with_reducible refine Kd.C_drew ?_)));(case side2=>exact HC800_0.out);rintro e w' ⟨rfl,⟨nd,rfl⟩⟩;refine⟨_,rfl,?_⟩;have p802:0≤(x3_1:Int):=of_decide_eq_true (za5);have q802:x3_1<(l0.length:Int):=of_decide_eq_true (za5);obtain⟨ad802,A802_0,c802_0,e802,hx802_0,hx802_1,hl802_0,hi802_0⟩:=at_T73 HR0.out x3_1 p802 q802;obtain rfl:ad800=ad802:=(by injection e802);have ea_:=Option.some.inj (hxo800_0.out.symm.trans hx802_0);injection ea_ with ea_ en_ ec_;subst ea_;subst ec_;clear en_;have HR802_0:=Aside0.mk hi802_0;have HC802_0:=Aside0.mk hl802_0;clear hi802_0 hl802_0;replace p802:=eq_true p802;replace q802:=eq_true q802)|(go_at_call 58;(with_reducible refine(spec_l6In.calls ((rd_T73 l0 x3_1).f1) 1 5 true _ A6.out).mono ?_);rintro e w' ⟨rfl,⟨nd,rfl⟩⟩))
       go_roundg k1
       case measure=>have:=HK1.out;omega
       case rel=>exact⟨(wrap64 (x3_1+1)),(za17),H',⟨by have:=HK1.out;omega⟩,za20⟩
      ·replace c7:=Bool.eq_false_iff.mpr c7
       subst c7
       have H1:(some false)=some r:=by rw[if_neg (show ¬(false=true) by decide)] at H;exact H
       clear H
       have H:=H1
       clear H1
       obtain rfl:=Option.some.inj H
       have p800:0≤(x3_1:Int):=of_decide_eq_true (za5)
       have q800:x3_1<(l0.length:Int):=of_decide_eq_true (za5)
       obtain⟨ad800,A800_0,c800_0,e800,hx800_0,hx800_1,hl800_0,hi800_0⟩:=at_T73 HR0.out x3_1 p800 q800
       cases e800
       have hxo800_0:=Aside0.mk hx800_0
       have HR800_0:=Aside0.mk hi800_0
       have HC800_0:=Aside0.mk hl800_0
       clear hi800_0 hl800_0
       replace p800:=eq_true p800
       replace q800:=eq_true q800
       go_wp2_with(first|((with_reducible refine qaf (f:=86) rfl ?_);refine zF (some 15) Try.func86 #[.slice A800_0 ((rd_T73 l0 x3_1).f0).length c800_0] ?_;(with_reducible refine(spec_l1Many.calls k1 _ _ ((rd_T73 l0 x3_1).f0) true _ ?side1 ?side2 A4.out).mono ?_);(case side1=>repeat(first|exact HR800_0.out|(with_reducible refine Kd.C_alloc ?_ _)|(with_reducible refine Kd.C_drewN ?_ _)|(with_reducible refine Kd.C_drew ?_)));(case side2=>exact HC800_0.out);rintro e w' ⟨rfl,⟨nd,rfl⟩⟩;refine⟨_,rfl,?_⟩;have p802:0≤(x3_1:Int):=of_decide_eq_true (za5);have q802:x3_1<(l0.length:Int):=of_decide_eq_true (za5);obtain⟨ad802,A802_0,c802_0,e802,hx802_0,hx802_1,hl802_0,hi802_0⟩:=at_T73 HR0.out x3_1 p802 q802;obtain rfl:ad800=ad802:=(by injection e802);have ea_:=Option.some.inj (hxo800_0.out.symm.trans hx802_0);injection ea_ with ea_ en_ ec_;subst ea_;subst ec_;clear en_;have HR802_0:=Aside0.mk hi802_0;have HC802_0:=Aside0.mk hl802_0;clear hi802_0 hl802_0;replace p802:=eq_true p802;replace q802:=eq_true q802)|(go_at_call 58;(with_reducible refine(spec_l6In.calls ((rd_T73 l0 x3_1).f1) 1 5 false _ A6.out).mono ?_);rintro e w' ⟨rfl,⟨nd,rfl⟩⟩))
       go_ret
       exact⟨za17,za20⟩
     ·replace c5:=Bool.eq_false_iff.mpr c5
      subst c5
      have H1:(some false)=some r:=by rw[if_neg (show ¬(false=true) by decide)] at H;exact H
      clear H
      have H:=H1
      clear H1
      obtain rfl:=Option.some.inj H
      have p800:0≤(x3_1:Int):=of_decide_eq_true (za5)
      have q800:x3_1<(l0.length:Int):=of_decide_eq_true (za5)
      obtain⟨ad800,A800_0,c800_0,e800,hx800_0,hx800_1,hl800_0,hi800_0⟩:=at_T73 HR0.out x3_1 p800 q800
      cases e800
      have hxo800_0:=Aside0.mk hx800_0
      have HR800_0:=Aside0.mk hi800_0
      have HC800_0:=Aside0.mk hl800_0
      clear hi800_0 hl800_0
      replace p800:=eq_true p800
      replace q800:=eq_true q800
      go_wp2_with(first|((with_reducible refine qaf (f:=86) rfl ?_);refine zF (some 15) Try.func86 #[.slice A800_0 ((rd_T73 l0 x3_1).f0).length c800_0] ?_;(with_reducible refine(spec_l1Many.calls k1 _ _ ((rd_T73 l0 x3_1).f0) false _ ?side1 ?side2 A4.out).mono ?_);(case side1=>repeat(first|exact HR800_0.out|(with_reducible refine Kd.C_alloc ?_ _)|(with_reducible refine Kd.C_drewN ?_ _)|(with_reducible refine Kd.C_drew ?_)));(case side2=>exact HC800_0.out);rintro e w' ⟨rfl,⟨nd,rfl⟩⟩;refine⟨_,rfl,?_⟩))
      go_ret
      exact⟨za17,za20⟩
    ·rw[if_neg c3] at H
     exact absurd H (by simp)
   ·rw[if_neg c2] at H
    have c2b0:decide (x3_1<(l0.length:Int))=false:=decide_eq_false c2
    clear c2
    obtain rfl:=Option.some.inj H
    go_wp2
    go_ret
    exact⟨za17,za20⟩
def spec_TripsMay.f (k:Nat) (l0:List (S73)) (a1_0:Int) (a1_1:Int) (l1_2:List Int):Option (Bool):=(spec_TripsOk.f k l0).bind fun t805=>(if t805=true then((spec_RecOk.f k a1_0 a1_1 l1_2).bind fun t806=>(if t806=true then((spec_l12May.f k l0 a1_0 a1_1 l1_2).bind fun t807=>(some t807)) else(some false))) else(some false))
theorem spec_TripsMay.mono:∀a0 a1 a2 a3 k,LeO (spec_TripsMay.f k a0 a1 a2 a3) (spec_TripsMay.f (k+1) a0 a1 a2 a3):=by
 intro a0 a1 a2 a3 k
 unfold spec_TripsMay.f
 repeat' first
   |(with_reducible exact spec_RecOk.mono _ _ _ _)
   |(with_reducible exact spec_TripsOk.mono _ _)
   |(with_reducible exact spec_l12May.mono _ _ _ _ _)
   |(with_reducible exact LeO.refl _)
   |(with_reducible exact LeO.none _)
   |(with_reducible refine LeO.ite ?_ ?_)
   |(with_reducible refine LeO.bind ?_ (fun _=>?_))
   |exact spec_RecOk.mono _ _ _ _
   |exact spec_TripsOk.mono _ _
   |exact spec_l12May.mono _ _ _ _ _
   |exact LeO.none _
   |refine LeO.ite ?_ ?_
   |refine LeO.bind ?_ (fun _=>?_)
set_option maxHeartbeats 8000000 in
set_option maxRecDepth 100000 in
theorem spec_TripsMay.calls (k:Nat) (A0:Option Addr) (c0:Nat) (l0:List (S73)) (a1_0:Int) (a1_1:Int) (A1_2:Option Addr) (c1_2:Nat) (l1_2:List Int) (r:Bool) (w:World) (hr0:Kd.C k73 w A0 l0.length l0) (hc0:l0.length≤c0) (hr1_2:Kd.C (Kd.int .i64) w A1_2 l1_2.length l1_2) (hc1_2:l1_2.length≤c1_2) (h:spec_TripsMay.f k l0 a1_0 a1_1 l1_2=some r) :
  Calls Try.prog 49 #[.slice A0 l0.length c0,.agg #[.int .i64 a1_0,.int .i64 a1_1,.slice A1_2 l1_2.length c1_2]] w fun e w'=>e=.returned (.bool r)∧Below w.heap.size w w':=by
 have hu62:=Try.underlying62
 have HR0:=Aside0.mk hr0
 have HC0:=Aside0.mk hc0
 clear hr0 hc0
 have HR1_2:=Aside0.mk hr1_2
 have HC1_2:=Aside0.mk hc1_2
 clear hr1_2 hc1_2
 have HB:=Aside0.mk (Below.refl w.heap.size w)
 have H:((spec_TripsOk.f k l0).bind fun t805=>(if t805=true then((spec_RecOk.f k a1_0 a1_1 l1_2).bind fun t806=>(if t806=true then((spec_l12May.f k l0 a1_0 a1_1 l1_2).bind fun t807=>(some t807)) else(some false))) else(some false)))=some r:=h
 clear h
 replace H:=Option.bind_eq_some_iff.mp H
 obtain⟨t805,A30,H⟩:=H
 replace H:(if t805=true then((spec_RecOk.f k a1_0 a1_1 l1_2).bind fun t806=>(if t806=true then((spec_l12May.f k l0 a1_0 a1_1 l1_2).bind fun t807=>(some t807)) else(some false))) else(some false))=some r:=H
 have A3:=Aside0.mk A30
 clear A30
 by_cases c4:t805=true
 ·subst c4
  have H1:((spec_RecOk.f k a1_0 a1_1 l1_2).bind fun t806=>(if t806=true then((spec_l12May.f k l0 a1_0 a1_1 l1_2).bind fun t807=>(some t807)) else(some false)))=some r:=by rw[if_pos rfl] at H;exact H
  clear H
  have H:=H1
  clear H1
  replace H:=Option.bind_eq_some_iff.mp H
  obtain⟨t806,A50,H⟩:=H
  replace H:(if t806=true then((spec_l12May.f k l0 a1_0 a1_1 l1_2).bind fun t807=>(some t807)) else(some false))=some r:=H
  have A5:=Aside0.mk A50
  clear A50
  by_cases c6:t806=true
  ·subst c6
   have H1:((spec_l12May.f k l0 a1_0 a1_1 l1_2).bind fun t807=>(some t807))=some r:=by rw[if_pos rfl] at H;exact H
   clear H
   have H:=H1
   clear H1
   replace H:=Option.bind_eq_some_iff.mp H
   obtain⟨t807,A70,H⟩:=H
   replace H:(some t807)=some r:=H
   have A7:=Aside0.mk A70
   clear A70
   obtain rfl:=Option.some.inj H
   go_enter Try.func49,Try.ntmps49
   go_wp2_with(first|((with_reducible refine qah (N:=3) rfl ?_);refine zX (N:=3) (cs:=#[.int .i64 a1_0,.int .i64 a1_1,.slice A1_2 l1_2.length c1_2]) (t:=62) ?_;intro gb804 hg w8 hbox hb;have BK804:=Aside0.mk hbox;have GW804:=zH (w:=w) hg (za1 HB);have GE804:=GW804;replace HB:=Aside0.mk (qab (za1 HB) hb);clear hb hbox hg)|((with_reducible refine qaf (f:=47) rfl ?_);refine zF (some 6) Try.func47 #[.slice A0 l0.length c0] ?_;(with_reducible refine(spec_TripsOk.calls k _ _ l0 true _ ?side1 ?side2 A3.out).mono ?_);(case side1=>exact zR HR0 HB);(case side2=>exact HC0.out);rintro e w' ⟨rfl,⟨nd,rfl⟩⟩;refine⟨_,rfl,?_⟩;obtain⟨hcz9_0,hcz9_1,hcz9_2,hfz9_0,hfz9_1,hfz9_2⟩:=zC3 BK804)|(go_at_call 44;(with_reducible refine(spec_RecOk.calls k a1_0 a1_1 _ _ l1_2 true _ ?side1 ?side2 A5.out).mono ?_);(case side1=>repeat(first|exact(Kd.C_below HR1_2.out (za0 HB GE804))|(with_reducible refine Kd.C_alloc ?_ _)|(with_reducible refine Kd.C_drewN ?_ _)|(with_reducible refine Kd.C_drew ?_)));(case side2=>exact HC1_2.out);rintro e w10 ⟨rfl,hb⟩;replace BK804:=Aside0.mk (qaa (zB BK804) hb);replace HB:=Aside0.mk (qab (za0 HB GE804) hb);(try clear hb);obtain⟨hcz11_0,hcz11_1,hcz11_2,hfz11_0,hfz11_1,hfz11_2⟩:=zC3 BK804)|(go_at_call 93;(with_reducible refine(spec_l12May.calls k _ _ l0 a1_0 a1_1 _ _ l1_2 t807 _ ?side1 ?side2 ?side3 ?side4 A7.out).mono ?_);(case side1=>exact zR HR0 HB);(case side2=>exact HC0.out);(case side3=>exact zR HR1_2 HB);(case side4=>exact HC1_2.out);rintro e w12 ⟨rfl,hb⟩;replace BK804:=Aside0.mk (qaa (zB BK804) hb);replace HB:=Aside0.mk (qab (za0 HB GE804) hb);(try clear hb)))
   go_ret
   exact⟨za9,za0 HB GE804⟩
  ·replace c6:=Bool.eq_false_iff.mpr c6
   subst c6
   have H1:(some false)=some r:=by rw[if_neg (show ¬(false=true) by decide)] at H;exact H
   clear H
   have H:=H1
   clear H1
   obtain rfl:=Option.some.inj H
   go_enter Try.func49,Try.ntmps49
   go_wp2_with(first|((with_reducible refine qah (N:=3) rfl ?_);refine zX (N:=3) (cs:=#[.int .i64 a1_0,.int .i64 a1_1,.slice A1_2 l1_2.length c1_2]) (t:=62) ?_;intro gb804 hg w13 hbox hb;have BK804:=Aside0.mk hbox;have GW804:=zH (w:=w) hg (za1 HB);have GE804:=GW804;replace HB:=Aside0.mk (qab (za1 HB) hb);clear hb hbox hg)|((with_reducible refine qaf (f:=47) rfl ?_);refine zF (some 6) Try.func47 #[.slice A0 l0.length c0] ?_;(with_reducible refine(spec_TripsOk.calls k _ _ l0 true _ ?side1 ?side2 A3.out).mono ?_);(case side1=>exact zR HR0 HB);(case side2=>exact HC0.out);rintro e w' ⟨rfl,⟨nd,rfl⟩⟩;refine⟨_,rfl,?_⟩;obtain⟨hcz14_0,hcz14_1,hcz14_2,hfz14_0,hfz14_1,hfz14_2⟩:=zC3 BK804)|(go_at_call 44;(with_reducible refine(spec_RecOk.calls k a1_0 a1_1 _ _ l1_2 false _ ?side1 ?side2 A5.out).mono ?_);(case side1=>repeat(first|exact(Kd.C_below HR1_2.out (za0 HB GE804))|(with_reducible refine Kd.C_alloc ?_ _)|(with_reducible refine Kd.C_drewN ?_ _)|(with_reducible refine Kd.C_drew ?_)));(case side2=>exact HC1_2.out);rintro e w15 ⟨rfl,hb⟩;replace BK804:=Aside0.mk (qaa (zB BK804) hb);replace HB:=Aside0.mk (qab (za0 HB GE804) hb);(try clear hb)))
   go_ret
   exact⟨za9,za0 HB GE804⟩
 ·replace c4:=Bool.eq_false_iff.mpr c4
  subst c4
  have H1:(some false)=some r:=by rw[if_neg (show ¬(false=true) by decide)] at H;exact H
  clear H
  have H:=H1
  clear H1
  obtain rfl:=Option.some.inj H
  go_enter Try.func49,Try.ntmps49
  go_wp2_with(first|((with_reducible refine qah (N:=3) rfl ?_);refine zX (N:=3) (cs:=#[.int .i64 a1_0,.int .i64 a1_1,.slice A1_2 l1_2.length c1_2]) (t:=62) ?_;intro gb804 hg w16 hbox hb;have BK804:=Aside0.mk hbox;have GW804:=zH (w:=w) hg (za1 HB);have GE804:=GW804;replace HB:=Aside0.mk (qab (za1 HB) hb);clear hb hbox hg)|((with_reducible refine qaf (f:=47) rfl ?_);refine zF (some 6) Try.func47 #[.slice A0 l0.length c0] ?_;(with_reducible refine(spec_TripsOk.calls k _ _ l0 false _ ?side1 ?side2 A3.out).mono ?_);(case side1=>exact zR HR0 HB);(case side2=>exact HC0.out);rintro e w' ⟨rfl,⟨nd,rfl⟩⟩;refine⟨_,rfl,?_⟩))
  go_ret
  exact⟨za9,za0 HB GE804⟩
def impl_TripsOk_1.f (l0_0:List Int) (a0_1:Int):Option (Bool):=(impl_wantedOk.f l0_0).bind fun t915=>(if t915=true then((impl_in.f a0_1 1 5).bind fun t916=>(some (!t916))) else(some true))
set_option maxHeartbeats 8000000 in
set_option maxRecDepth 100000 in
theorem impl_TripsOk_1.calls (A0_0:Option Addr) (c0_0:Nat) (l0_0:List Int) (a0_1:Int) (r:Bool) (w:World) (hr0_0:Kd.C (Kd.int .i64) w A0_0 l0_0.length l0_0) (hc0_0:l0_0.length≤c0_0) (h:impl_TripsOk_1.f l0_0 a0_1=some r) :
  Calls Try.prog 89 #[.agg #[.slice A0_0 l0_0.length c0_0,.int .i64 a0_1]] w fun e w'=>e=.returned (.bool r)∧Below w.heap.size w w':=by
 have hu73:=Try.underlying73
 have HR0_0:=Aside0.mk hr0_0
 have HC0_0:=Aside0.mk hc0_0
 clear hr0_0 hc0_0
 have HB:=Aside0.mk (Below.refl w.heap.size w)
 have H:((impl_wantedOk.f l0_0).bind fun t915=>(if t915=true then((impl_in.f a0_1 1 5).bind fun t916=>(some (!t916))) else(some true)))=some r:=h
 clear h
 replace H:=Option.bind_eq_some_iff.mp H
 obtain⟨t915,A20,H⟩:=H
 replace H:(if t915=true then((impl_in.f a0_1 1 5).bind fun t916=>(some (!t916))) else(some true))=some r:=H
 have A2:=Aside0.mk A20
 clear A20
 by_cases c3:t915=true
 ·subst c3
  have H1:((impl_in.f a0_1 1 5).bind fun t916=>(some (!t916)))=some r:=by rw[if_pos rfl] at H;exact H
  clear H
  have H:=H1
  clear H1
  replace H:=Option.bind_eq_some_iff.mp H
  obtain⟨t916,A40,H⟩:=H
  replace H:(some (!t916))=some r:=H
  have A4:=Aside0.mk A40
  clear A40
  obtain rfl:=Option.some.inj H
  go_enter Try.func89,Try.ntmps89
  go_wp2_with(first|((with_reducible refine qah (N:=1) rfl ?_);refine zX (N:=1) (cs:=#[.slice A0_0 l0_0.length c0_0,.int .i64 a0_1]) (t:=73) ?_;intro gb914 hg w5 hbox hb;have BK914:=Aside0.mk hbox;have GW914:=zH (w:=w) hg (za1 HB);have GE914:=GW914;replace HB:=Aside0.mk (qab (za1 HB) hb);clear hb hbox hg;obtain⟨hcz6_0,hcz6_1,hfz6_0,hfz6_1⟩:=zC2 BK914)|((with_reducible refine qaf (f:=90) rfl ?_);refine zF (some 5) Try.func90 #[.slice A0_0 l0_0.length c0_0] ?_;(with_reducible refine(impl_wantedOk.calls _ _ l0_0 true _ ?side1 ?side2 A2.out).mono ?_);(case side1=>exact zR HR0_0 HB);(case side2=>exact HC0_0.out);rintro e w' ⟨rfl,⟨nd,rfl⟩⟩;refine⟨_,rfl,?_⟩)|(go_at_call 60;(with_reducible refine(impl_in.calls a0_1 1 5 t916 _ A4.out).mono ?_);rintro e w' ⟨rfl,⟨nd,rfl⟩⟩))
  go_ret
  exact⟨za9,za0 HB GE914⟩
 ·replace c3:=Bool.eq_false_iff.mpr c3
  subst c3
  have H1:(some true)=some r:=by rw[if_neg (show ¬(false=true) by decide)] at H;exact H
  clear H
  have H:=H1
  clear H1
  obtain rfl:=Option.some.inj H
  go_enter Try.func89,Try.ntmps89
  go_wp2_with(first|((with_reducible refine qah (N:=1) rfl ?_);refine zX (N:=1) (cs:=#[.slice A0_0 l0_0.length c0_0,.int .i64 a0_1]) (t:=73) ?_;intro gb914 hg w7 hbox hb;have BK914:=Aside0.mk hbox;have GW914:=zH (w:=w) hg (za1 HB);have GE914:=GW914;replace HB:=Aside0.mk (qab (za1 HB) hb);clear hb hbox hg;obtain⟨hcz8_0,hcz8_1,hfz8_0,hfz8_1⟩:=zC2 BK914)|((with_reducible refine qaf (f:=90) rfl ?_);refine zF (some 5) Try.func90 #[.slice A0_0 l0_0.length c0_0] ?_;(with_reducible refine(impl_wantedOk.calls _ _ l0_0 false _ ?side1 ?side2 A2.out).mono ?_);(case side1=>exact zR HR0_0 HB);(case side2=>exact HC0_0.out);rintro e w' ⟨rfl,⟨nd,rfl⟩⟩;refine⟨_,rfl,?_⟩))
  go_ret
  exact⟨za9,za0 HB GE914⟩
theorem drop_cons_T73 {l:List S73} {k:Nat} (h:k<l.length):l.drop k=rd_T73 l (k:Int) :: l.drop (k+1):=by
 rw[List.drop_eq_getElem_cons h]
 simp[rd_T73,List.getD_eq_getElem?_getD,List.getElem?_eq_getElem h]
set_option maxHeartbeats 4000000 in
set_option maxRecDepth 100000 in
theorem idx_T73 (p:S73→Option Bool) (g:Nat) (A_:Option Addr) (c_:Nat) (l0:List S73) (r:Bool) (w:World) (hr0:Kd.C k73 w A_ l0.length l0) (hc0:l0.length≤c_)
  (eg:∀args w,(callFunc g args).run Try.prog w=.ok (.enter g args) w)
  (hg:∀(W:World) (x:S73) (A0:Option Addr) (c0:Nat) (b:Bool),Kd.C (Kd.int .i64) W A0 (x.f0).length (x.f0)→(x.f0).length≤c0→p x=some b→Calls Try.prog g #[.agg #[.slice A0 (x.f0).length c0,.int .i64 (x.f1)]] W fun e w'=>e=.returned (.bool b)∧Below W.heap.size W w') (h:anyO p l0=some r) :
  Calls Try.prog 118 #[.slice A_ l0.length c_,.func (.func g) #[] #[]] w (IdxB r w):=by
 have HR:=Aside0.mk hr0
 have HG:=Aside0.mk hg
 have HH:=Aside0.mk h
 clear hr0 hc0 hg h
 have hbig:l0.length≤9223372036854775807:=by
  have:=HR.out
  exact this.2.1
 go_enter Try.func118,Try.ntmps118
 go_wp2
 go_loopg [5,8] l0.length (fun gg _ s8 wr=>∃kk:Nat,kk≤l0.length∧l0.length - kk≤gg∧s8=.int .i64 kk∧Aside0 (Below w.heap.size w wr)∧Aside0 (anyO p (l0.drop kk)=some r))
 case atStart=>exact⟨0,Nat.zero_le _,by omega,rfl,⟨Below.refl _ _⟩,HH⟩
 case round=>
  obtain⟨kk,hkk,hg',rfl,BW,B⟩:=hrel
  clear HH
  by_cases hlt:kk<l0.length
  ·have hltz:(kk:Int)<(l0.length:Int):=by omega
   obtain⟨ad,A0,c0,e0,hx0,hx1,hl0,hi0⟩:=at_T73 HR.out (kk:Int) (by omega) hltz
   cases e0
   rw[Int.toNat_natCast] at hx0
   rw[Int.toNat_natCast] at hx1
   replace hx0:=(BW.out.cell (World.block_lt_of_cell? w _ hx0)).trans hx0
   replace hx1:=(BW.out.cell (World.block_lt_of_cell? w _ hx1)).trans hx1
   have HI0:=Aside0.mk hi0
   have HL0:=Aside0.mk hl0
   clear hi0 hl0
   have B':=B.out
   rw[drop_cons_T73 hlt] at B'
   obtain⟨b,hb,hb'⟩:=anyO_cons B'
   clear B B'
   generalize rd_T73 l0 (kk:Int)=x at *
   have HB:=Aside0.mk hb
   clear hb
   rcases hb' with⟨rfl,rfl⟩|⟨rfl,hb'⟩
   ·have hcall:=HG.out wr x _ _ true (Kd.C_below HI0.out BW.out) HL0.out HB.out
    go_wp2_with(go_at_fn g;refine hcall.mono ?_;rintro e w' ⟨rfl,hbl⟩)
    go_ret
    exact⟨kk,rfl,by simp,qab BW.out hbl⟩
   ·have B2:=Aside0.mk hb'
    clear hb'
    have hcall:=HG.out wr x _ _ false (Kd.C_below HI0.out BW.out) HL0.out HB.out
    go_wp2_with(go_at_fn g;refine hcall.mono ?_;rintro e w' ⟨rfl,hbl⟩)
    go_roundg (l0.length - (kk+1))
    case measure=>omega
    case rel=>exact⟨kk+1,by omega,by omega,by go_num,⟨qab BW.out hbl⟩,B2⟩
  ·have hltz:¬(kk:Int)<(l0.length:Int):=by omega
   have B':=B.out
   rw[List.drop_eq_nil_of_le (by omega)] at B'
   have hr:false=r:=by injection B'
   subst hr
   clear B'
   go_wp2
   go_ret
   exact⟨-1,rfl,by decide,BW.out⟩
set_option maxHeartbeats 4000000 in
theorem contains_T73 (p:S73→Option Bool) (g:Nat) (A_:Option Addr) (c_:Nat) (l0:List S73) (r:Bool) (w:World) (hr0:Kd.C k73 w A_ l0.length l0) (hc0:l0.length≤c_)
  (eg:∀args w,(callFunc g args).run Try.prog w=.ok (.enter g args) w)
  (hg:∀(W:World) (x:S73) (A0:Option Addr) (c0:Nat) (b:Bool),Kd.C (Kd.int .i64) W A0 (x.f0).length (x.f0)→(x.f0).length≤c0→p x=some b→Calls Try.prog g #[.agg #[.slice A0 (x.f0).length c0,.int .i64 (x.f1)]] W fun e w'=>e=.returned (.bool b)∧Below W.heap.size W w') (h:anyO p l0=some r) :
  Calls Try.prog 91 #[.slice A_ l0.length c_,.func (.func g) #[] #[]] w fun e w'=>e=.returned (.bool r)∧Below w.heap.size w w':=by
 have hI:=fun W=>idx_T73 p g A_ c_ l0 r W
 have HR:=Aside0.mk hr0
 have HG:=Aside0.mk hg
 have HH:=Aside0.mk h
 have HC:=Aside0.mk hc0
 clear hr0 hc0 hg h
 go_enter Try.func91,Try.ntmps91
 go_wp2_with(go_at_call 118;refine(hI _ HR.out HC.out eg HG.out HH.out).mono ?_;rintro e w' ⟨i,rfl,hi,hb⟩)
 go_ret
 exact⟨by rw[←hi];rfl,hb⟩
def impl_TripsOk.f (l0:List (S73)):Option (Bool):=if(l0.length:Int)≤6 then((anyO (fun x:S73=>impl_TripsOk_1.f x.f0 x.f1) l0).bind fun a=>some (!a)) else some false
set_option maxHeartbeats 8000000 in
set_option maxRecDepth 100000 in
theorem impl_TripsOk.calls (A0:Option Addr) (c0:Nat) (l0:List (S73)) (r:Bool) (w:World) (hr0:Kd.C k73 w A0 l0.length l0) (hc0:l0.length≤c0) (h:impl_TripsOk.f l0=some r) :
  Calls Try.prog 46 #[.slice A0 l0.length c0] w fun e w'=>e=.returned (.bool r)∧Below w.heap.size w w':=by
 have HR:=Aside0.mk hr0
 have HC:=Aside0.mk hc0
 have c1:=fun(W:World) (r':Bool) (hr:Kd.C k73 W A0 l0.length l0) (h:anyO (fun x:S73=>impl_TripsOk_1.f x.f0 x.f1) l0=some r')=>contains_T73 _ 89 A0 c0 l0 r' W hr HC.out (enters_of Try.func89 (by kernel_rfl) rfl) (fun W x A c b h1 h2 hb=>(impl_TripsOk_1.calls A c x.f0 x.f1 b W h1 h2 hb).mono fun e w' ⟨he,hd⟩=>⟨he,hd⟩) h
 have C1:=Aside0.mk c1
 clear hr0 hc0 c1
 unfold impl_TripsOk.f at h
 by_cases h3:(l0.length:Int)≤6
 ·rw[if_pos h3] at h
  have h3b:decide ((l0.length:Int)≤6)=true:=decide_eq_true h3
  have h3c:decide (l0.length≤6)=true:=decide_eq_true (by omega)
  clear h3
  obtain⟨a,ha,h⟩:=Option.bind_eq_some_iff.mp h
  injection h with h
  subst h
  have HA:=Aside0.mk ha
  clear ha
  go_enter Try.func46,Try.ntmps46
  go_wp2_with(go_at_call 91;refine(C1.out _ a HR.out HA.out).mono ?_;rintro e w' ⟨rfl,hb⟩)
  go_ret
  exact⟨rfl,hb⟩
 ·rw[if_neg h3] at h
  injection h with h
  subst h
  have h3b:decide ((l0.length:Int)≤6)=false:=decide_eq_false h3
  have h3c:decide (l0.length≤6)=false:=decide_eq_false (by omega)
  clear h3
  go_enter Try.func46,Try.ntmps46
  go_wp2
  go_ret
  exact⟨rfl,Below.refl _ _⟩
end Go.Proofs.Ytjccnaklodbbfaa.Print
