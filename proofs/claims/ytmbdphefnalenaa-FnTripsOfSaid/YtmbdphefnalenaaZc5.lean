-- Written by squeeze.py: not trusted, Lean checks it.
import Derived.Test.YtmbdphefnalenaaZK
import Derived.Test.YtmbdphefnalenaaZc4
import Derived.Test.YtmbdphefnalenaaZd0
import Derived.Test.YtmbdphefnalenaaZd1
namespace Go.Proofs.Ytmbdphefnalenaa.Print
open Go.RowKit Go.Proofs.YtmbdphefnalenaaW.PrintWords Go.Proofs.YtmbdphefnalenaaW.PrintLast Go.Proofs.YtmbdphefnalenaaW.PrintMore
attribute [local go_sem] max2_int min2_int max_two min_two max_three min_three max_four min_four
set_option linter.unusedVariables false
set_option linter.unusedSimpArgs false
def impl_stateOf.f (l0:List (S81)) (a1:Int):Option (Int):=(impl_in.f a1 1 (l0.length:Int)).bind fun t327=>(if t327=true then(if 0≤(wrap64 (a1 - 1)) then(if(wrap64 (a1 - 1))<(l0.length:Int) then(some ((rd_T81 l0 (wrap64 (a1 - 1))).f1)) else(none)) else(none)) else(some 0))
set_option maxHeartbeats 8000000 in
set_option maxRecDepth 100000 in
theorem impl_stateOf.calls (A0:Option Addr) (c0:Nat) (l0:List (S81)) (a1:Int) (r:Int) (w:World) (hr0:Kd.C k81 w A0 l0.length l0) (hc0:l0.length≤c0) (h:impl_stateOf.f l0 a1=some r) :
  Calls Try.prog 88 #[.slice A0 l0.length c0,.int .i64 a1] w fun e w'=>e=.returned (.int .i64 r)∧Drawn0 w w':=by
 have HR0:=qaf.mk hr0;have HC0:=qaf.mk hc0;clear hr0 hc0;have H:((impl_in.f a1 1 (l0.length:Int)).bind fun t327=>(if t327=true then(if 0≤(wrap64 (a1 - 1)) then(if(wrap64 (a1 - 1))<(l0.length:Int) then(some ((rd_T81 l0 (wrap64 (a1 - 1))).f1)) else(none)) else(none)) else(some 0)))=some r:=h;clear h;replace H:=Option.bind_eq_some_iff.mp H;obtain⟨t327,A30,H⟩:=H;replace H:(if t327=true then(if 0≤(wrap64 (a1 - 1)) then(if(wrap64 (a1 - 1))<(l0.length:Int) then(some ((rd_T81 l0 (wrap64 (a1 - 1))).f1)) else(none)) else(none)) else(some 0))=some r:=H;have A3:=qaf.mk A30;clear A30;by_cases c4:t327=true
 ·subst c4
  have H1:(if 0≤(wrap64 (a1 - 1)) then(if(wrap64 (a1 - 1))<(l0.length:Int) then(some ((rd_T81 l0 (wrap64 (a1 - 1))).f1)) else(none)) else(none))=some r:=by rw[if_pos rfl] at H;exact H
  clear H;have H:=H1;clear H1;obtain⟨ji5,hji5⟩:∃j_:Int,(wrap64 (a1 - 1))=j_:=⟨_,rfl⟩
  replace H:(if 0≤(ji5) then(if(ji5)<(l0.length:Int) then(some ((rd_T81 l0 (ji5)).f1)) else(none)) else(none))=some r:=by first|(rw[hji5] at H;exact H)|(simp only[hji5] at H ⊢;exact H)
  (try rw[hji5] at A3);have hji5w:(IntKind.i64.wrap (a1 - 1))=ji5:=(qai _).trans hji5;by_cases c6:0≤(ji5)
  ·rw[if_pos c6] at H;have c6b0:decide (0≤(ji5))=true:=decide_eq_true c6;clear c6;by_cases c7:(ji5)<(l0.length:Int)
   ·rw[if_pos c7] at H;have c7b0:decide ((ji5)<(l0.length:Int))=true:=decide_eq_true c7;clear c7;obtain rfl:=Option.some.inj H;go_enter Try.func88,Try.ntmps88
    go_wp2_with(first|((with_reducible refine qag (f:=66) rfl ?_);refine zF (some 8) Try.func66 #[.int .i64 a1,.int .i64 1,.int .i64 (l0.length:Int)] ?_;(with_reducible refine(impl_in.calls a1 1 (l0.length:Int) true _ A3.out).mono ?_);rintro e w' ⟨rfl,⟨nd,rfl⟩⟩;refine⟨_,rfl,?_⟩;have p328:0≤((ji5):Int):=of_decide_eq_true (za10);have q328:(ji5)<(l0.length:Int):=of_decide_eq_true (za10);obtain⟨ad328,A328_0,c328_0,e328,hx328_0,hx328_1,hl328_0,hi328_0⟩:=at_T81 HR0.out (ji5) p328 q328;cases e328;have hxo328_0:=qaf.mk hx328_0;have HR328_0:=qaf.mk hi328_0;have HC328_0:=qaf.mk hl328_0;clear hi328_0 hl328_0;replace p328:=eq_true p328;replace q328:=eq_true q328))
    go_ret;exact⟨by first|rfl|(simp;done)|(simp only[←hji5]<;>(first|rfl|simp))|(simp[*];done),za62⟩
   ·rw[if_neg c7] at H;exact absurd H (by simp)
  ·rw[if_neg c6] at H;exact absurd H (by simp)
 ·replace c4:=Bool.eq_false_iff.mpr c4;subst c4
  have H1:(some 0)=some r:=by rw[if_neg (show ¬(false=true) by decide)] at H;exact H
  clear H;have H:=H1;clear H1;obtain rfl:=Option.some.inj H;go_enter Try.func88,Try.ntmps88
  go_wp2_with(first|((with_reducible refine qag (f:=66) rfl ?_);refine zF (some 8) Try.func66 #[.int .i64 a1,.int .i64 1,.int .i64 (l0.length:Int)] ?_;(with_reducible refine(impl_in.calls a1 1 (l0.length:Int) false _ A3.out).mono ?_);rintro e w' ⟨rfl,⟨nd,rfl⟩⟩;refine⟨_,rfl,?_⟩))
  go_ret;exact⟨za38,za62⟩
mutual
def impl_TripsMay.j0:Nat→List (S81)→Bool→Int→Int→List Int→Option (Bool)
 |0,_,_,_,_,_=>none
 |k+1,x0,x13,x330000,x330001,x330002=>if x13=true then(some false) else((impl_stateOf.f x0 x330001).bind fun t332=>(if x330000=4 then(some (x330001 == (wrap64 ((x0.length:Int)+1)))) else(if x330000=5 then(impl_TripsMay.j1 k t332 x330000 (x330000 == 5)) else(impl_TripsMay.j1 k t332 x330000 (x330000 == 6)))))
def impl_TripsMay.j1:Nat→Int→Int→Bool→Option (Bool)
 |0,_,_,_=>none
 |k+1,x5,x19,x28=>if x28=true then(some (x5 == 1)) else(if x19=7 then(if x5=2 then(some true) else(some (x5 == 3))) else(some false))
end
def impl_TripsMay.f (k:Nat) (l0:List (S81)) (a1_0:Int) (a1_1:Int) (l1_2:List Int):Option (Bool):=(impl_TripsOk.f l0).bind fun t330=>(if t330=true then((impl_RecOk.f a1_0 a1_1 l1_2).bind fun t331=>(impl_TripsMay.j0 k l0 (!t331) a1_0 a1_1 l1_2)) else(impl_TripsMay.j0 k l0 true a1_0 a1_1 l1_2))
theorem impl_TripsMay.mono_l:∀k,(∀y0 y1 y2 y3 y4,LeO (impl_TripsMay.j0 k y0 y1 y2 y3 y4) (impl_TripsMay.j0 (k+1) y0 y1 y2 y3 y4))∧(∀y0 y1 y2,LeO (impl_TripsMay.j1 k y0 y1 y2) (impl_TripsMay.j1 (k+1) y0 y1 y2))
 |0=>⟨fun _ _ _ _ _ r h=>by simp[impl_TripsMay.j0] at h,fun _ _ _ r h=>by simp[impl_TripsMay.j1] at h⟩
 |k+1=>by
  obtain⟨ih0,ih1⟩:=impl_TripsMay.mono_l k;refine⟨?_,?_⟩
  ·intro y0 y1 y2 y3 y4;unfold impl_TripsMay.j0
   repeat' first|(with_reducible exact ih0 _ _ _ _ _)|(with_reducible exact ih1 _ _ _)|(with_reducible exact LeO.refl _)|(with_reducible exact LeO.none _)|(with_reducible refine LeO.ite ?_ ?_)|(with_reducible refine LeO.bind ?_ (fun _=>?_))|exact ih0 _ _ _ _ _|exact ih1 _ _ _|exact LeO.none _|refine LeO.ite ?_ ?_|refine LeO.bind ?_ (fun _=>?_)
  ·intro y0 y1 y2;unfold impl_TripsMay.j1
   repeat' first|(with_reducible exact ih0 _ _ _ _ _)|(with_reducible exact ih1 _ _ _)|(with_reducible exact LeO.refl _)|(with_reducible exact LeO.none _)|(with_reducible refine LeO.ite ?_ ?_)|(with_reducible refine LeO.bind ?_ (fun _=>?_))|exact ih0 _ _ _ _ _|exact ih1 _ _ _|exact LeO.none _|refine LeO.ite ?_ ?_|refine LeO.bind ?_ (fun _=>?_)
theorem impl_TripsMay.mono:∀a0 a1 a2 a3 k,LeO (impl_TripsMay.f k a0 a1 a2 a3) (impl_TripsMay.f (k+1) a0 a1 a2 a3):=by
 intro a0 a1 a2 a3 k;obtain⟨ih0,ih1⟩:=impl_TripsMay.mono_l k;unfold impl_TripsMay.f
 repeat' first|(with_reducible exact ih0 _ _ _ _ _)|(with_reducible exact ih1 _ _ _)|(with_reducible exact LeO.refl _)|(with_reducible exact LeO.none _)|(with_reducible refine LeO.ite ?_ ?_)|(with_reducible refine LeO.bind ?_ (fun _=>?_))|exact ih0 _ _ _ _ _|exact ih1 _ _ _|exact LeO.none _|refine LeO.ite ?_ ?_|refine LeO.bind ?_ (fun _=>?_)
set_option maxHeartbeats 8000000 in
set_option maxRecDepth 100000 in
theorem impl_TripsMay.calls (k:Nat) (A0:Option Addr) (c0:Nat) (l0:List (S81)) (a1_0:Int) (a1_1:Int) (A1_2:Option Addr) (c1_2:Nat) (l1_2:List Int) (r:Bool) (w:World) (hr0:Kd.C k81 w A0 l0.length l0) (hc0:l0.length≤c0) (hr1_2:Kd.C (Kd.int .i64) w A1_2 l1_2.length l1_2) (hc1_2:l1_2.length≤c1_2) (h:impl_TripsMay.f k l0 a1_0 a1_1 l1_2=some r) :
  Calls Try.prog 52 #[.slice A0 l0.length c0,.agg #[.int .i64 a1_0,.int .i64 a1_1,.slice A1_2 l1_2.length c1_2]] w fun e w'=>e=.returned (.bool r)∧Below w.heap.size w w':=by
 have hu32:=Try.underlying32;have HR0:=qaf.mk hr0;have HC0:=qaf.mk hc0;clear hr0 hc0;have HR1_2:=qaf.mk hr1_2;have HC1_2:=qaf.mk hc1_2;clear hr1_2 hc1_2;have HB:=qaf.mk (Below.refl w.heap.size w);have H:((impl_TripsOk.f l0).bind fun t330=>(if t330=true then((impl_RecOk.f a1_0 a1_1 l1_2).bind fun t331=>(impl_TripsMay.j0 k l0 (!t331) a1_0 a1_1 l1_2)) else(impl_TripsMay.j0 k l0 true a1_0 a1_1 l1_2)))=some r:=h;clear h;have HC3:=qaf.mk H;clear H;go_enter Try.func52,Try.ntmps52
 go_upto_region 1 with(first|((with_reducible refine qam (N:=3) rfl ?_);refine zX (N:=3) (cs:=#[.int .i64 a1_0,.int .i64 a1_1,.slice A1_2 l1_2.length c1_2]) (t:=32) ?_;intro gb329 hg w4 hbox hb;have BK329:=qaf.mk hbox;have GW329:=zH (w:=w) hg (za2 HB);have GE329:=GW329;replace HB:=qaf.mk (qad (za2 HB) hb);clear hb hbox hg))
 (try simp only[Act.put,List.setIfInBounds_toArray,List.set_cons_zero,List.set_cons_succ])
 go_cut [13] (fun v13 wc=>∃(kq:Nat) (x13_2:Bool),v13=.bool x13_2∧qaf (impl_TripsMay.j0 kq l0 x13_2 a1_0 a1_1 l1_2=some r)∧qaf (kq≤k)∧qaf (wc.heap[gb329]?=some (.cells #[.int .i64 a1_0,.int .i64 a1_1,(.slice A1_2 l1_2.length c1_2)] 32 (0,0)))∧qaf (Below w.heap.size w wc))
 case first=>
  have H:=HC3.out;clear HC3;replace H:=Option.bind_eq_some_iff.mp H;obtain⟨t330,A50,H⟩:=H;replace H:(if t330=true then((impl_RecOk.f a1_0 a1_1 l1_2).bind fun t331=>(impl_TripsMay.j0 k l0 (!t331) a1_0 a1_1 l1_2)) else(impl_TripsMay.j0 k l0 true a1_0 a1_1 l1_2))=some r:=H;have A5:=qaf.mk A50;clear A50;by_cases c6:t330=true
  ·subst c6
   have H1:((impl_RecOk.f a1_0 a1_1 l1_2).bind fun t331=>(impl_TripsMay.j0 k l0 (!t331) a1_0 a1_1 l1_2))=some r:=by rw[if_pos rfl] at H;exact H
   clear H;have H:=H1;clear H1;replace H:=Option.bind_eq_some_iff.mp H;obtain⟨t331,A70,H⟩:=H;replace H:(impl_TripsMay.j0 k l0 (!t331) a1_0 a1_1 l1_2)=some r:=H;have A7:=qaf.mk A70;clear A70;have H':=qaf.mk H;clear H
   go_wp2_with(first|((with_reducible refine qag (f:=87) rfl ?_);refine zF (some 7) Try.func87 #[.slice A0 l0.length c0] ?_;(with_reducible refine(impl_TripsOk.calls _ _ l0 true _ ?side1 ?side2 A5.out).mono ?_);(case side1=>exact zR HR0 HB);(case side2=>exact HC0.out);rintro e w8 ⟨rfl,hb⟩;refine⟨_,rfl,?_⟩;replace BK329:=zY BK329 hb;replace HB:=qaf.mk (qad (za3 HB GE329) hb);(try clear hb);obtain⟨hcz9_0,hcz9_1,hcz9_2,hfz9_0,hfz9_1,hfz9_2⟩:=zC3 BK329)|(go_at_call 63;(with_reducible refine(impl_RecOk.calls a1_0 a1_1 _ _ l1_2 t331 _ ?side1 ?side2 A7.out).mono ?_);(case side1=>exact zR HR1_2 HB);(case side2=>exact HC1_2.out);rintro e w10 ⟨rfl,hb⟩;replace BK329:=zY BK329 hb;replace HB:=qaf.mk (qad (za3 HB GE329) hb);(try clear hb)))
   go_meet
   case rel=>exact⟨_,(!t331),(za38),H',⟨za64⟩,⟨za11 BK329⟩,⟨za3 HB GE329⟩⟩
  ·replace c6:=Bool.eq_false_iff.mpr c6;subst c6
   have H1:(impl_TripsMay.j0 k l0 true a1_0 a1_1 l1_2)=some r:=by rw[if_neg (show ¬(false=true) by decide)] at H;exact H
   clear H;have H:=H1;clear H1;have H':=qaf.mk H;clear H
   go_wp2_with(first|((with_reducible refine qag (f:=87) rfl ?_);refine zF (some 7) Try.func87 #[.slice A0 l0.length c0] ?_;(with_reducible refine(impl_TripsOk.calls _ _ l0 false _ ?side1 ?side2 A5.out).mono ?_);(case side1=>exact zR HR0 HB);(case side2=>exact HC0.out);rintro e w11 ⟨rfl,hb⟩;refine⟨_,rfl,?_⟩;replace BK329:=zY BK329 hb;replace HB:=qaf.mk (qad (za3 HB GE329) hb);(try clear hb)))
   go_meet
   case rel=>exact⟨_,(true),(za38),H',⟨za64⟩,⟨za11 BK329⟩,⟨za3 HB GE329⟩⟩
 case rest=>
  clear HC3
  try clear c1
  try clear p2
  try clear c5
  try clear c6
  try clear c8
  try clear hcz9_0
  try clear hcz9_1
  try clear hcz9_2
  try clear hfz9_0
  try clear hfz9_1
  try clear hfz9_2
  obtain⟨kq,x13_2,rfl,HA,HJ2,BK329,HB⟩:=hcut
  cases kq with
  |zero=>exact absurd HA.out (by simp[impl_TripsMay.j0])
  |succ kj2=>
   have H:=HA.out;clear HA;simp only[impl_TripsMay.j0] at H;by_cases c12:x13_2=true
   ·subst c12
    have H1:(some false)=some r:=by rw[if_pos rfl] at H;exact H
    clear H;have H:=H1;clear H1;obtain rfl:=Option.some.inj H;go_wp2;go_ret;exact⟨za12,za3 HB GE329⟩
   ·replace c12:=Bool.eq_false_iff.mpr c12;subst c12
    have H1:((impl_stateOf.f l0 a1_1).bind fun t332=>(if a1_0=4 then(some (a1_1 == (wrap64 ((l0.length:Int)+1)))) else(if a1_0=5 then(impl_TripsMay.j1 kj2 t332 a1_0 (a1_0 == 5)) else(impl_TripsMay.j1 kj2 t332 a1_0 (a1_0 == 6)))))=some r:=by rw[if_neg (show ¬(false=true) by decide)] at H;exact H
    clear H;have H:=H1;clear H1;replace H:=Option.bind_eq_some_iff.mp H;obtain⟨t332,A130,H⟩:=H;replace H:(if a1_0=4 then(some (a1_1 == (wrap64 ((l0.length:Int)+1)))) else(if a1_0=5 then(impl_TripsMay.j1 kj2 t332 a1_0 (a1_0 == 5)) else(impl_TripsMay.j1 kj2 t332 a1_0 (a1_0 == 6))))=some r:=H;have A13:=qaf.mk A130;clear A130;by_cases c14:a1_0=4
    ·rw[if_pos c14] at H;have c14b0:(a1_0 == 4)=true:=beq_iff_eq.mpr c14;have c14b1:(a1_0 != 4)=false:=bne_eq_false_iff_eq.mpr c14;clear c14;obtain rfl:=Option.some.inj H;obtain⟨hcz15_0,hcz15_1,hcz15_2,hfz15_0,hfz15_1,hfz15_2⟩:=zC3 BK329
     go_wp2_with(first|((with_reducible refine qag (f:=88) rfl ?_);refine zF (some 17) Try.func88 #[.slice A0 l0.length c0,.int .i64 a1_1] ?_;(with_reducible refine(impl_stateOf.calls _ _ l0 a1_1 t332 _ ?side1 ?side2 A13.out).mono ?_);(case side1=>exact zR HR0 HB);(case side2=>exact HC0.out);rintro e w' ⟨rfl,⟨nd,rfl⟩⟩;refine⟨_,rfl,?_⟩))
     go_ret;exact⟨za12,za3 HB GE329⟩
    ·rw[if_neg c14] at H;have c14b0:(a1_0 == 4)=false:=beq_eq_false_iff_ne.mpr c14;have c14b1:(a1_0 != 4)=true:=bne_iff_ne.mpr c14;have HC16:=qaf.mk H;clear H;obtain⟨hcz17_0,hcz17_1,hcz17_2,hfz17_0,hfz17_1,hfz17_2⟩:=zC3 BK329
     go_upto_if 28 with(first|((with_reducible refine qag (f:=88) rfl ?_);refine zF (some 17) Try.func88 #[.slice A0 l0.length c0,.int .i64 a1_1] ?_;(with_reducible refine(impl_stateOf.calls _ _ l0 a1_1 t332 _ ?side1 ?side2 A13.out).mono ?_);(case side1=>exact zR HR0 HB);(case side2=>exact HC0.out);rintro e w' ⟨rfl,⟨nd,rfl⟩⟩;refine⟨_,rfl,?_⟩))
     (try simp only[Act.put,List.setIfInBounds_toArray,List.set_cons_zero,List.set_cons_succ])
     go_cut [28] (fun v28 wc=>∃(kq:Nat) (x28_15:Bool),v28=.bool x28_15∧qaf (impl_TripsMay.j1 kq t332 a1_0 x28_15=some r)∧qaf (kq≤kj2)∧qaf (wc.heap[gb329]?=some (.cells #[.int .i64 a1_0,.int .i64 a1_1,(.slice A1_2 l1_2.length c1_2)] 32 (0,0)))∧qaf (Below w.heap.size w wc))
     case first=>
      have H:=HC16.out;clear HC16;by_cases c18:a1_0=5
      ·rw[if_pos c18] at H;have c18b0:(a1_0 == 5)=true:=beq_iff_eq.mpr c18;have c18b1:(a1_0 != 5)=false:=bne_eq_false_iff_eq.mpr c18;clear c18;(first|rw[c18b0]|(simp only[qai,qaj];rw[c18b0])|skip);have H':=qaf.mk H;clear H;go_wp2
       go_meet
       case rel=>exact⟨_,((a1_0 == 5)),(za38),H',⟨za66 HJ2⟩,⟨za11 BK329⟩,⟨za3 HB GE329⟩⟩
      ·rw[if_neg c18] at H;have c18b0:(a1_0 == 5)=false:=beq_eq_false_iff_ne.mpr c18;have c18b1:(a1_0 != 5)=true:=bne_iff_ne.mpr c18;(first|rw[c18b0]|(simp only[qai,qaj];rw[c18b0])|skip);have H':=qaf.mk H;clear H;go_wp2
       go_meet
       case rel=>exact⟨_,((a1_0 == 6)),(za38),H',⟨za66 HJ2⟩,⟨za11 BK329⟩,⟨za3 HB GE329⟩⟩
     case rest=>
      clear HC16
      try clear c1
      try clear p2
      try clear c5
      try clear c6
      try clear p6
      try clear c8
      try clear c12
      try clear c14
      try clear c14b0
      try clear c14b1
      try clear c18
      try clear c18b0
      try clear c18b1
      try clear hcz15_0
      try clear hcz15_1
      try clear hcz15_2
      try clear hcz17_0
      try clear hcz17_1
      try clear hcz17_2
      try clear hcz9_0
      try clear hcz9_1
      try clear hcz9_2
      try clear hfz15_0
      try clear hfz15_1
      try clear hfz15_2
      try clear hfz17_0
      try clear hfz17_1
      try clear hfz17_2
      try clear hfz9_0
      try clear hfz9_1
      try clear hfz9_2
      try clear p2
      obtain⟨kq,x28_15,rfl,HA,HJ15,BK329,HB⟩:=hcut
      cases kq with
      |zero=>exact absurd HA.out (by simp[impl_TripsMay.j1])
      |succ kj15=>
       have H:=HA.out;clear HA;simp only[impl_TripsMay.j1] at H;by_cases c19:x28_15=true
       ·subst c19
        have H1:(some (t332 == 1))=some r:=by rw[if_pos rfl] at H;exact H
        clear H;have H:=H1;clear H1;obtain rfl:=Option.some.inj H;go_wp2;go_ret;exact⟨za12,za3 HB GE329⟩
       ·replace c19:=Bool.eq_false_iff.mpr c19;subst c19
        have H1:(if a1_0=7 then(if t332=2 then(some true) else(some (t332 == 3))) else(some false))=some r:=by rw[if_neg (show ¬(false=true) by decide)] at H;exact H
        clear H;have H:=H1;clear H1;by_cases c20:a1_0=7
        ·rw[if_pos c20] at H;have c20b0:(a1_0 == 7)=true:=beq_iff_eq.mpr c20;have c20b1:(a1_0 != 7)=false:=bne_eq_false_iff_eq.mpr c20;clear c20;by_cases c21:t332=2
         ·rw[if_pos c21] at H;have c21b0:(t332 == 2)=true:=beq_iff_eq.mpr c21;have c21b1:(t332 != 2)=false:=bne_eq_false_iff_eq.mpr c21;clear c21;obtain rfl:=Option.some.inj H;go_wp2;go_ret;exact⟨za12,za3 HB GE329⟩
         ·rw[if_neg c21] at H;have c21b0:(t332 == 2)=false:=beq_eq_false_iff_ne.mpr c21;have c21b1:(t332 != 2)=true:=bne_iff_ne.mpr c21;obtain rfl:=Option.some.inj H;go_wp2;go_ret;exact⟨za12,za3 HB GE329⟩
        ·rw[if_neg c20] at H;have c20b0:(a1_0 == 7)=false:=beq_eq_false_iff_ne.mpr c20;have c20b1:(a1_0 != 7)=true:=bne_iff_ne.mpr c20;obtain rfl:=Option.some.inj H;go_wp2;go_ret;exact⟨za12,za3 HB GE329⟩
def slices_Clone_int_int.f (l0:List Int):Option (List Int):=if l0.length<17592186044416 then some l0 else none
set_option maxHeartbeats 8000000 in
set_option maxRecDepth 100000 in
theorem slices_Clone_int_int.calls (A0:Option Addr) (c0:Nat) (l0:List Int) (r:List Int) (w:World) (hr0:Kd.C (Kd.int .i64) w A0 l0.length l0) (hc0:l0.length≤c0) (h:slices_Clone_int_int.f l0=some r) :
  Calls Try.prog 53 #[.slice A0 l0.length c0] w fun e w'=>∃v0_:Value,e=.returned (v0_)∧Kd.R (Kd.int .i64) 3 w' w.heap.size (fun _=>True) v0_ r∧Below w.heap.size w w':=by
 unfold slices_Clone_int_int.f at h;by_cases hl:l0.length<17592186044416
 ·rw[if_pos hl] at h
  injection h with h
  subst h;have HL:=qaf.mk hl;have HR:=qaf.mk hr0;clear hl hr0
  cases A0 with
  |none=>
   have hl0:l0.length=0:=by
    rcases Nat.eq_zero_or_pos l0.length with h0|h0
    ·exact h0
    ·obtain⟨ad,h,_⟩:=HR.out.2.2 h0
     cases h
   obtain rfl:l0=[]:=List.eq_nil_of_length_eq_zero hl0;clear hl0 HL HR
   have heq:=fun(W:World) (n_:Nat)=>Lib.run_eql_slice_nil (P:=Try.prog) W 30 3 none n_ c0 0 0 Try.underlying30
   go_enter Try.func53,Try.ntmps53;go_wp2;go_ret;exact⟨_,rfl,Kd.R_nil _ _ _ _ _,Below.refl _ _⟩
  |some ad=>
   have heq:=fun W:World=>Lib.run_eql_slice_nil (P:=Try.prog) W 30 3 (some ad) l0.length c0 0 0 Try.underlying30
   go_enter Try.func53,Try.ntmps53
   go_wp2_with(first|((with_reducible refine qam (N:=5) rfl ?_);refine Kd.R_lit (Kd.int .i64) _ 3 (by rfl) (N:=5) (by rfl) (xs:=([]:List Int)) (inner:=[]) (ok:=fun _=>True) (okp:=fun _=>True) (by first|(go_simp;done)|(go_simp;rfl)) (Reps.none _ _) (fun _ hk=>hk) trivial (Below.refl _ _) (Nat.le_refl _) (by simp) ?_;intro v1 w1 ho1 hb hg_ hnew_;have HO1:=qaf.mk ho1;have HB:=qaf.mk hb;clear ho1 hb hg_ hnew_)|((with_reducible refine gate_builtin (b:=.append) (xs:=#[.tmp 5,.tmp 6]) rfl ?_);(try(refine qaw (by rfl) ?_;dsimp only));at_builtin;refine Kd.R_append_rows (Kd.int .i64) (w0:=w) w.heap.size rfl (.tmp 5) (.tmp 6) 30 3 (.int .i64 0) 8 rfl Try.underlying30 info3 rfl (by decide) (by omega) v1 [] l0 _ _ _ (fun _=>True) (fun _=>False) rfl rfl ?aO ?aR (fun _ _ h=>h) (fun _ h=>h.elim) ?aF ?aB ?aS ?aL ?_;(case aR=>exact Kd.C_below HR.out HB.out);(case aB=>exact HB.out);(case aF=>exact(fun _ _=>trivial));(case aO=>exact HO1.out);(case aS=>exact(qan HB.out));(case aL=>have:=HL.out;simp only[List.length_nil];omega);intro v2 w2 ho2 hb2 hg2 hat2;have HO2:=qaf.mk ho2;have HB2:=qaf.mk hb2;clear ho2 hb2 hg2 hat2))
   go_ret;exact⟨_,rfl,HO2.out,HB2.out⟩
 ·rw[if_neg hl] at h;exact absurd h (by simp)
end Go.Proofs.Ytmbdphefnalenaa.Print
