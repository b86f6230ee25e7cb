-- Written by squeeze.py: not trusted, Lean checks it.
import Derived.Test.YtjccnaklodbbfaaZK
import Derived.Test.YtjccnaklodbbfaaZeb1
import Derived.Test.YtjccnaklodbbfaaZq0
namespace Go.Proofs.Ytjccnaklodbbfaa.Print
open Go.RowKit Go.Proofs.YtjccnaklodbbfaaW.PrintWords Go.Proofs.YtjccnaklodbbfaaW.PrintLast Go.Proofs.YtjccnaklodbbfaaW.PrintMore
attribute [local go_sem] max2_int min2_int max_two min_two max_three min_three max_four min_four
set_option linter.unusedVariables false
set_option linter.unusedSimpArgs false
def impl_TripsOf.l0:Nat→List (S62)→List (S73)→Bool→Int→Option ((List (S73)) × Bool)
 |0,_,_,_,_=>none
 |k+1,x0,x4,x5,x6=>if x5=true then(if x6<(x0.length:Int) then(if 0≤x6 then((impl_TripsDo.f k x4 ((rd_T62 x0 x6).f0) ((rd_T62 x0 x6).f1) ((rd_T62 x0 x6).f2)).bind fun bt1136=>(impl_TripsOf.l0 k x0 bt1136.1 bt1136.2 (wrap64 (x6+1)))) else(none)) else(some (x4,x5))) else(some (x4,x5))
def impl_TripsOf.f (k:Nat) (l0:List (S62)):Option ((List (S73)) × Bool):=impl_TripsOf.l0 k l0 ([]:List (S73)) true 0
theorem impl_TripsOf.mono_l:∀k,(∀y0 y1 y2 y3,LeO (impl_TripsOf.l0 k y0 y1 y2 y3) (impl_TripsOf.l0 (k+1) y0 y1 y2 y3))
 |0=>fun _ _ _ _ r h=>by simp[impl_TripsOf.l0] at h
 |k+1=>by
  have ih0:=impl_TripsOf.mono_l k
  ·intro y0 y1 y2 y3
   unfold impl_TripsOf.l0
   repeat' first
   |(with_reducible exact ih0 _ _ _ _)
   |(with_reducible exact impl_TripsDo.mono _ _ _ _ _)
   |(with_reducible exact LeO.refl _)
   |(with_reducible exact LeO.none _)
   |(with_reducible refine LeO.ite ?_ ?_)
   |(with_reducible refine LeO.bind ?_ (fun _=>?_))
   |exact ih0 _ _ _ _
   |exact impl_TripsDo.mono _ _ _ _ _
   |exact LeO.none _
   |refine LeO.ite ?_ ?_
   |refine LeO.bind ?_ (fun _=>?_)
theorem impl_TripsOf.mono:∀a0 k,LeO (impl_TripsOf.f k a0) (impl_TripsOf.f (k+1) a0):=by
 intro a0 k
 have ih0:=impl_TripsOf.mono_l k
 unfold impl_TripsOf.f
 repeat' first
   |(with_reducible exact ih0 _ _ _ _)
   |(with_reducible exact impl_TripsDo.mono _ _ _ _ _)
   |(with_reducible exact LeO.refl _)
   |(with_reducible exact LeO.none _)
   |(with_reducible refine LeO.ite ?_ ?_)
   |(with_reducible refine LeO.bind ?_ (fun _=>?_))
   |exact ih0 _ _ _ _
   |exact impl_TripsDo.mono _ _ _ _ _
   |exact LeO.none _
   |refine LeO.ite ?_ ?_
   |refine LeO.bind ?_ (fun _=>?_)
set_option maxHeartbeats 8000000 in
set_option maxRecDepth 100000 in
theorem impl_TripsOf.calls (k:Nat) (A0:Option Addr) (c0:Nat) (l0:List (S62)) (r1:List (S73)) (r2:Bool) (w:World) (hr0:Kd.C k62 w A0 l0.length l0) (hc0:l0.length≤c0) (h:impl_TripsOf.f k l0=some (r1,r2)) :
  Calls Try.prog 56 #[.slice A0 l0.length c0] w fun e w'=>∃v0_:Value,e=.returned (.tuple #[v0_,.bool r2])∧Kd.S k73 73 w' w.heap.size (fun _=>True) v0_ r1∧Below w.heap.size w w':=by
 have hu62:=Try.underlying62
 have HR0:=Aside0.mk hr0
 have HC0:=Aside0.mk hc0
 clear hr0 hc0
 have HB:=Aside0.mk (Below.refl w.heap.size w)
 have H:(impl_TripsOf.l0 k l0 ([]:List (S73)) true 0)=some (r1,r2):=h
 clear h
 have H':=Aside0.mk H
 clear H
 go_enter Try.func56,Try.ntmps56
 go_wp2
 go_loopg [4,5,6] k (fun kq v4 v5 v6 w'=>∃(x4_1:List (S73)) (x5_1:Bool) (x6_1:Int),v5=.bool x5_1∧v6=.int .i64 x6_1∧Aside0 (impl_TripsOf.l0 kq l0 x4_1 x5_1 x6_1=some (r1,r2))∧Aside0 (kq≤k)∧Aside0 (Kd.S k73 73 w' w.heap.size (fun _=>True) v4 x4_1)∧Aside0 (Below w.heap.size w w'))
 case atStart=>exact⟨(([]:List (S73))),(true),(0),(za17),(za17),H',⟨Nat.le_refl _⟩,⟨za25⟩,⟨za1 HB⟩⟩
 case round=>
  clear H'
  obtain⟨x4_1,x5_1,x6_1,rfl,rfl,HA,HK1,HO_4,HB⟩:=hrel
  cases gk with
  |zero=>exact absurd HA.out (by simp[impl_TripsOf.l0])
  |succ k1=>
   have H:=HA.out
   clear HA
   simp only[impl_TripsOf.l0] at H
   by_cases c2:x5_1=true
   ·subst c2
    have H1:(if x6_1<(l0.length:Int) then(if 0≤x6_1 then((impl_TripsDo.f k1 x4_1 ((rd_T62 l0 x6_1).f0) ((rd_T62 l0 x6_1).f1) ((rd_T62 l0 x6_1).f2)).bind fun bt1136=>(impl_TripsOf.l0 k1 l0 bt1136.1 bt1136.2 (wrap64 (x6_1+1)))) else(none)) else(some (x4_1,true)))=some (r1,r2):=by rw[if_pos rfl] at H;exact H
    clear H
    have H:=H1
    clear H1
    by_cases c3:x6_1<(l0.length:Int)
    ·rw[if_pos c3] at H
     have c3b0:decide (x6_1<(l0.length:Int))=true:=decide_eq_true c3
     clear c3
     by_cases c4:0≤x6_1
     ·rw[if_pos c4] at H
      have c4b0:decide (0≤x6_1)=true:=decide_eq_true c4
      clear c4
      replace H:=Option.bind_eq_some_iff.mp H
      obtain⟨⟨t1136,t1139⟩,A50,H⟩:=H
      replace H:(impl_TripsOf.l0 k1 l0 t1136 t1139 (wrap64 (x6_1+1)))=some (r1,r2):=H
      have A5:=Aside0.mk A50
      clear A50
      have H':=Aside0.mk H
      clear H
      have p1135:0≤(x6_1:Int):=of_decide_eq_true (za5)
      have q1135:x6_1<(l0.length:Int):=of_decide_eq_true (za5)
      obtain⟨ad1135,A1135_2,c1135_2,e1135,hx1135_0,hx1135_1,hx1135_2,hl1135_2,hi1135_2⟩:=at_T62 HR0.out x6_1 p1135 q1135
      cases e1135
      have hxo1135_2:=Aside0.mk hx1135_2
      replace hx1135_0:=(HB.out.cell (World.block_lt_of_cell? w _ hx1135_0)).trans hx1135_0
      replace hx1135_1:=(HB.out.cell (World.block_lt_of_cell? w _ hx1135_1)).trans hx1135_1
      replace hx1135_2:=(HB.out.cell (World.block_lt_of_cell? w _ hx1135_2)).trans hx1135_2
      have HR1135_2:=Aside0.mk hi1135_2
      have HC1135_2:=Aside0.mk hl1135_2
      clear hi1135_2 hl1135_2
      replace p1135:=eq_true p1135
      replace q1135:=eq_true q1135
      obtain⟨Ao6,co6,eo6⟩:=Kd.S_slice HO_4.out
      subst eo6
      go_wp2_with(first|((with_reducible refine qaf (f:=99) rfl ?_);refine zF (some 22) Try.func99 #[.slice Ao6 x4_1.length co6,.agg #[.int .i64 ((rd_T62 l0 x6_1).f0),.int .i64 ((rd_T62 l0 x6_1).f1),.slice A1135_2 ((rd_T62 l0 x6_1).f2).length c1135_2]] ?_;(with_reducible refine(impl_TripsDo.calls k1 _ _ x4_1 ((rd_T62 l0 x6_1).f0) ((rd_T62 l0 x6_1).f1) _ _ ((rd_T62 l0 x6_1).f2) t1136 t1139 _ ?side1 ?side2 ?side3 ?side4 A5.out).mono ?_);(case side1=>repeat(first|exact(Kd.S_reads' HO_4.out).2.2|(with_reducible refine Kd.C_alloc ?_ _)|(with_reducible refine Kd.C_drewN ?_ _)|(with_reducible refine Kd.C_drew ?_)));(case side2=>exact(Kd.S_reads' HO_4.out).2.1);(case side3=>exact zR HR1135_2 HB);(case side4=>exact HC1135_2.out);rintro e w7 ⟨v1137,rfl,ho0,hb⟩;refine⟨_,rfl,?_⟩;have HO1138:=Aside0.mk (Kd.S_lower (Kd.S_new' ho0 (Kd.S_lt (za8 HO_4))) (below_size (za1 HB)));replace HO_4:=Aside0.mk (Kd.S_elder' (za8 HO_4) (Kd.S_base ho0) hb);replace HB:=Aside0.mk (qab (za1 HB) hb);(try clear hb);(try clear ho0)))
      go_roundg k1
      case measure=>have:=HK1.out;omega
      case rel=>exact⟨(t1136),(t1139),(wrap64 (x6_1+1)),(za17),(za17),H',⟨by have:=HK1.out;omega⟩,⟨by(with_reducible repeat(first|apply Kd.S_alloc|apply Kd.S_drewN|apply Kd.S_drew));exact Kd.S_mono HO1138.out (fun _ hk=>trivial)⟩,⟨za1 HB⟩⟩
     ·rw[if_neg c4] at H
      exact absurd H (by simp)
    ·rw[if_neg c3] at H
     have c3b0:decide (x6_1<(l0.length:Int))=false:=decide_eq_false c3
     clear c3
     simp only[Option.some.injEq,Prod.mk.injEq] at H
     obtain⟨rfl,rfl⟩:=H
     go_wp2
     go_ret2
     exact⟨_,za9,za8 HO_4,za1 HB⟩
   ·replace c2:=Bool.eq_false_iff.mpr c2
    subst c2
    have H1:(some (x4_1,false))=some (r1,r2):=by rw[if_neg (show ¬(false=true) by decide)] at H;exact H
    clear H
    have H:=H1
    clear H1
    simp only[Option.some.injEq,Prod.mk.injEq] at H
    obtain⟨rfl,rfl⟩:=H
    go_wp2
    go_ret2
    exact⟨_,za9,za8 HO_4,za1 HB⟩
def laws_lnTrips.l0:Nat→List (S73)→List (S73)→Int→Option (Bool)
 |0,_,_,_=>none
 |k+1,x0,x1,x5=>if x5<(x0.length:Int) then(if 0≤x5 then(if x5<(x1.length:Int) then(if((rd_T73 x0 x5).f1)=((rd_T73 x1 x5).f1) then((laws_lnInts.f k ((rd_T73 x0 x5).f0) ((rd_T73 x1 x5).f0)).bind fun t1144=>(if t1144=true then(laws_lnTrips.l0 k x0 x1 (wrap64 (x5+1))) else(some false))) else(some false)) else(none)) else(none)) else(some true)
def laws_lnTrips.f (k:Nat) (l0:List (S73)) (l1:List (S73)):Option (Bool):=if(l0.length:Int)=(l1.length:Int) then(laws_lnTrips.l0 k l0 l1 0) else(some false)
theorem laws_lnTrips.mono_l:∀k,(∀y0 y1 y2,LeO (laws_lnTrips.l0 k y0 y1 y2) (laws_lnTrips.l0 (k+1) y0 y1 y2))
 |0=>fun _ _ _ r h=>by simp[laws_lnTrips.l0] at h
 |k+1=>by
  have ih0:=laws_lnTrips.mono_l k
  ·intro y0 y1 y2
   unfold laws_lnTrips.l0
   repeat' first
   |(with_reducible exact ih0 _ _ _)
   |(with_reducible exact laws_lnInts.mono _ _ _)
   |(with_reducible exact LeO.refl _)
   |(with_reducible exact LeO.none _)
   |(with_reducible refine LeO.ite ?_ ?_)
   |(with_reducible refine LeO.bind ?_ (fun _=>?_))
   |exact ih0 _ _ _
   |exact laws_lnInts.mono _ _ _
   |exact LeO.none _
   |refine LeO.ite ?_ ?_
   |refine LeO.bind ?_ (fun _=>?_)
theorem laws_lnTrips.mono:∀a0 a1 k,LeO (laws_lnTrips.f k a0 a1) (laws_lnTrips.f (k+1) a0 a1):=by
 intro a0 a1 k
 have ih0:=laws_lnTrips.mono_l k
 unfold laws_lnTrips.f
 repeat' first
   |(with_reducible exact ih0 _ _ _)
   |(with_reducible exact laws_lnInts.mono _ _ _)
   |(with_reducible exact LeO.refl _)
   |(with_reducible exact LeO.none _)
   |(with_reducible refine LeO.ite ?_ ?_)
   |(with_reducible refine LeO.bind ?_ (fun _=>?_))
   |exact ih0 _ _ _
   |exact laws_lnInts.mono _ _ _
   |exact LeO.none _
   |refine LeO.ite ?_ ?_
   |refine LeO.bind ?_ (fun _=>?_)
set_option maxHeartbeats 8000000 in
set_option maxRecDepth 100000 in
theorem laws_lnTrips.calls (k:Nat) (A0:Option Addr) (c0:Nat) (l0:List (S73)) (A1:Option Addr) (c1:Nat) (l1:List (S73)) (r:Bool) (w:World) (hr0:Kd.C k73 w A0 l0.length l0) (hc0:l0.length≤c0) (hr1:Kd.C k73 w A1 l1.length l1) (hc1:l1.length≤c1) (h:laws_lnTrips.f k l0 l1=some r) :
  Calls Try.prog 57 #[.slice A0 l0.length c0,.slice A1 l1.length c1] w fun e w'=>e=.returned (.bool r)∧Drawn0 w w':=by
 have HR0:=Aside0.mk hr0
 have HC0:=Aside0.mk hc0
 clear hr0 hc0
 have HR1:=Aside0.mk hr1
 have HC1:=Aside0.mk hc1
 clear hr1 hc1
 have H:(if(l0.length:Int)=(l1.length:Int) then(laws_lnTrips.l0 k l0 l1 0) else(some false))=some r:=h
 clear h
 by_cases c3:(l0.length:Int)=(l1.length:Int)
 ·rw[if_pos c3] at H
  have c3b0:((l0.length:Int) == (l1.length:Int))=true:=beq_iff_eq.mpr c3
  have c3b1:((l0.length:Int) != (l1.length:Int))=false:=bne_eq_false_iff_eq.mpr c3
  have c3b2:(l0.length == l1.length)=true:=by first|simpa using c3|(simp at c3 ⊢;omega)
  clear c3
  have H':=Aside0.mk H
  clear H
  go_enter Try.func57,Try.ntmps57
  go_wp2
  repeat(go_quiet(fail);try go_wp2)
  go_loopg [5] k (fun kq v5 w'=>∃(x5_1:Int),v5=.int .i64 x5_1∧Aside0 (laws_lnTrips.l0 kq l0 l1 x5_1=some r)∧Aside0 (kq≤k)∧Drawn0 w w')
  case atStart=>exact⟨(0),(za17),H',⟨Nat.le_refl _⟩,za20⟩
  case round=>
   clear H'
   try clear c1
   try clear p2
   try clear c3
   try clear c3b0
   try clear c3b1
   try clear c3b2
   obtain⟨x5_1,rfl,HA,HK1,⟨m1,rfl⟩⟩:=hrel
   cases gk with
   |zero=>exact absurd HA.out (by simp[laws_lnTrips.l0])
   |succ k1=>
    have H:=HA.out
    clear HA
    simp only[laws_lnTrips.l0] at H
    by_cases c4:x5_1<(l0.length:Int)
    ·rw[if_pos c4] at H
     have c4b0:decide (x5_1<(l0.length:Int))=true:=decide_eq_true c4
     clear c4
     by_cases c5:0≤x5_1
     ·rw[if_pos c5] at H
      have c5b0:decide (0≤x5_1)=true:=decide_eq_true c5
      clear c5
      by_cases c6:x5_1<(l1.length:Int)
      ·rw[if_pos c6] at H
       have c6b0:decide (x5_1<(l1.length:Int))=true:=decide_eq_true c6
       clear c6
       by_cases c7:((rd_T73 l0 x5_1).f1)=((rd_T73 l1 x5_1).f1)
       ·rw[if_pos c7] at H
        have c7b0:(((rd_T73 l0 x5_1).f1) == ((rd_T73 l1 x5_1).f1))=true:=beq_iff_eq.mpr c7
        have c7b1:(((rd_T73 l0 x5_1).f1) != ((rd_T73 l1 x5_1).f1))=false:=bne_eq_false_iff_eq.mpr c7
        clear c7
        replace H:=Option.bind_eq_some_iff.mp H
        obtain⟨t1144,A80,H⟩:=H
        replace H:(if t1144=true then(laws_lnTrips.l0 k1 l0 l1 (wrap64 (x5_1+1))) else(some false))=some r:=H
        have A8:=Aside0.mk A80
        clear A80
        by_cases c9:t1144=true
        ·subst c9
         have H1:(laws_lnTrips.l0 k1 l0 l1 (wrap64 (x5_1+1)))=some r:=by rw[if_pos rfl] at H;exact H
         clear H
         have H:=H1
         clear H1
         have H':=Aside0.mk H
         clear H
         have p1140:0≤(x5_1:Int):=of_decide_eq_true (za5)
         have q1140:x5_1<(l0.length:Int):=of_decide_eq_true (za5)
         obtain⟨ad1140,A1140_0,c1140_0,e1140,hx1140_0,hx1140_1,hl1140_0,hi1140_0⟩:=at_T73 HR0.out x5_1 p1140 q1140
         cases e1140
         have hxo1140_0:=Aside0.mk hx1140_0
         have HR1140_0:=Aside0.mk hi1140_0
         have HC1140_0:=Aside0.mk hl1140_0
         clear hi1140_0 hl1140_0
         replace p1140:=eq_true p1140
         replace q1140:=eq_true q1140
         have p1141:0≤(x5_1:Int):=of_decide_eq_true (za5)
         have q1141:x5_1<(l1.length:Int):=of_decide_eq_true (za5)
         obtain⟨ad1141,A1141_0,c1141_0,e1141,hx1141_0,hx1141_1,hl1141_0,hi1141_0⟩:=at_T73 HR1.out x5_1 p1141 q1141
         cases e1141
         have hxo1141_0:=Aside0.mk hx1141_0
         have HR1141_0:=Aside0.mk hi1141_0
         have HC1141_0:=Aside0.mk hl1141_0
         clear hi1141_0 hl1141_0
         replace p1141:=eq_true p1141
         replace q1141:=eq_true q1141
         have p1142:0≤(x5_1:Int):=of_decide_eq_true (za5)
         have q1142:x5_1<(l0.length:Int):=of_decide_eq_true (za5)
         obtain⟨ad1142,A1142_0,c1142_0,e1142,hx1142_0,hx1142_1,hl1142_0,hi1142_0⟩:=at_T73 HR0.out x5_1 p1142 q1142
         obtain rfl:ad1140=ad1142:=(by injection e1142)
         have ea_:=Option.some.inj (hxo1140_0.out.symm.trans hx1142_0)
         injection ea_ with ea_ en_ ec_
         subst ea_
         subst ec_
         clear en_
         have HR1142_0:=Aside0.mk hi1142_0
         have HC1142_0:=Aside0.mk hl1142_0
         clear hi1142_0 hl1142_0
         replace p1142:=eq_true p1142
         replace q1142:=eq_true q1142
         have p1143:0≤(x5_1:Int):=of_decide_eq_true (za5)
         have q1143:x5_1<(l1.length:Int):=of_decide_eq_true (za5)
         obtain⟨ad1143,A1143_0,c1143_0,e1143,hx1143_0,hx1143_1,hl1143_0,hi1143_0⟩:=at_T73 HR1.out x5_1 p1143 q1143
         obtain rfl:ad1141=ad1143:=(by injection e1143)
         have ea_:=Option.some.inj (hxo1141_0.out.symm.trans hx1143_0)
         injection ea_ with ea_ en_ ec_
         subst ea_
         subst ec_
         clear en_
         have HR1143_0:=Aside0.mk hi1143_0
         have HC1143_0:=Aside0.mk hl1143_0
         clear hi1143_0 hl1143_0
         replace p1143:=eq_true p1143
         replace q1143:=eq_true q1143
         go_wp2_with(first|(go_at_call 100;(with_reducible refine(laws_lnInts.calls k1 _ _ ((rd_T73 l0 x5_1).f0) _ _ ((rd_T73 l1 x5_1).f0) true _ ?side1 ?side2 ?side3 ?side4 A8.out).mono ?_);(case side1=>repeat(first|exact HR1142_0.out|(with_reducible refine Kd.C_alloc ?_ _)|(with_reducible refine Kd.C_drewN ?_ _)|(with_reducible refine Kd.C_drew ?_)));(case side2=>exact HC1142_0.out);(case side3=>repeat(first|exact HR1143_0.out|(with_reducible refine Kd.C_alloc ?_ _)|(with_reducible refine Kd.C_drewN ?_ _)|(with_reducible refine Kd.C_drew ?_)));(case side4=>exact HC1143_0.out);rintro e w' ⟨rfl,⟨nd,rfl⟩⟩;(try first|exact⟨rfl,_,World.drewN_drewN _ _ _⟩|exact⟨rfl,_,Eq.trans (World.drewN_drewN _ _ _) (congrArg (World.drewN _) (Nat.add_assoc _ _ _))⟩)))
         repeat(go_quiet(first|(go_at_call 100;(with_reducible refine(laws_lnInts.calls k1 _ _ ((rd_T73 l0 x5_1).f0) _ _ ((rd_T73 l1 x5_1).f0) true _ ?side1 ?side2 ?side3 ?side4 A8.out).mono ?_);(case side1=>repeat(first|exact HR1142_0.out|(with_reducible refine Kd.C_alloc ?_ _)|(with_reducible refine Kd.C_drewN ?_ _)|(with_reducible refine Kd.C_drew ?_)));(case side2=>exact HC1142_0.out);(case side3=>repeat(first|exact HR1143_0.out|(with_reducible refine Kd.C_alloc ?_ _)|(with_reducible refine Kd.C_drewN ?_ _)|(with_reducible refine Kd.C_drew ?_)));(case side4=>exact HC1143_0.out);rintro e w' ⟨rfl,⟨nd,rfl⟩⟩;(try first|exact⟨rfl,_,World.drewN_drewN _ _ _⟩|exact⟨rfl,_,Eq.trans (World.drewN_drewN _ _ _) (congrArg (World.drewN _) (Nat.add_assoc _ _ _))⟩)));try go_wp2_with(first|(go_at_call 100;(with_reducible refine(laws_lnInts.calls k1 _ _ ((rd_T73 l0 x5_1).f0) _ _ ((rd_T73 l1 x5_1).f0) true _ ?side1 ?side2 ?side3 ?side4 A8.out).mono ?_);(case side1=>repeat(first|exact HR1142_0.out|(with_reducible refine Kd.C_alloc ?_ _)|(with_reducible refine Kd.C_drewN ?_ _)|(with_reducible refine Kd.C_drew ?_)));(case side2=>exact HC1142_0.out);(case side3=>repeat(first|exact HR1143_0.out|(with_reducible refine Kd.C_alloc ?_ _)|(with_reducible refine Kd.C_drewN ?_ _)|(with_reducible refine Kd.C_drew ?_)));(case side4=>exact HC1143_0.out);rintro e w' ⟨rfl,⟨nd,rfl⟩⟩;(try first|exact⟨rfl,_,World.drewN_drewN _ _ _⟩|exact⟨rfl,_,Eq.trans (World.drewN_drewN _ _ _) (congrArg (World.drewN _) (Nat.add_assoc _ _ _))⟩))))
         go_roundg k1
         case measure=>have:=HK1.out;omega
         case rel=>exact⟨(wrap64 (x5_1+1)),(za17),H',⟨by have:=HK1.out;omega⟩,za20⟩
        ·replace c9:=Bool.eq_false_iff.mpr c9
         subst c9
         have H1:(some false)=some r:=by rw[if_neg (show ¬(false=true) by decide)] at H;exact H
         clear H
         have H:=H1
         clear H1
         obtain rfl:=Option.some.inj H
         have p1140:0≤(x5_1:Int):=of_decide_eq_true (za5)
         have q1140:x5_1<(l0.length:Int):=of_decide_eq_true (za5)
         obtain⟨ad1140,A1140_0,c1140_0,e1140,hx1140_0,hx1140_1,hl1140_0,hi1140_0⟩:=at_T73 HR0.out x5_1 p1140 q1140
         cases e1140
         have hxo1140_0:=Aside0.mk hx1140_0
         have HR1140_0:=Aside0.mk hi1140_0
         have HC1140_0:=Aside0.mk hl1140_0
         clear hi1140_0 hl1140_0
         replace p1140:=eq_true p1140
         replace q1140:=eq_true q1140
         have p1141:0≤(x5_1:Int):=of_decide_eq_true (za5)
         have q1141:x5_1<(l1.length:Int):=of_decide_eq_true (za5)
         obtain⟨ad1141,A1141_0,c1141_0,e1141,hx1141_0,hx1141_1,hl1141_0,hi1141_0⟩:=at_T73 HR1.out x5_1 p1141 q1141
         cases e1141
         have hxo1141_0:=Aside0.mk hx1141_0
         have HR1141_0:=Aside0.mk hi1141_0
         have HC1141_0:=Aside0.mk hl1141_0
         clear hi1141_0 hl1141_0
         replace p1141:=eq_true p1141
         replace q1141:=eq_true q1141
         have p1142:0≤(x5_1:Int):=of_decide_eq_true (za5)
         have q1142:x5_1<(l0.length:Int):=of_decide_eq_true (za5)
         obtain⟨ad1142,A1142_0,c1142_0,e1142,hx1142_0,hx1142_1,hl1142_0,hi1142_0⟩:=at_T73 HR0.out x5_1 p1142 q1142
         obtain rfl:ad1140=ad1142:=(by injection e1142)
         have ea_:=Option.some.inj (hxo1140_0.out.symm.trans hx1142_0)
         injection ea_ with ea_ en_ ec_
         subst ea_
         subst ec_
         clear en_
         have HR1142_0:=Aside0.mk hi1142_0
         have HC1142_0:=Aside0.mk hl1142_0
         clear hi1142_0 hl1142_0
         replace p1142:=eq_true p1142
         replace q1142:=eq_true q1142
         have p1143:0≤(x5_1:Int):=of_decide_eq_true (za5)
         have q1143:x5_1<(l1.length:Int):=of_decide_eq_true (za5)
         obtain⟨ad1143,A1143_0,c1143_0,e1143,hx1143_0,hx1143_1,hl1143_0,hi1143_0⟩:=at_T73 HR1.out x5_1 p1143 q1143
         obtain rfl:ad1141=ad1143:=(by injection e1143)
         have ea_:=Option.some.inj (hxo1141_0.out.symm.trans hx1143_0)
         injection ea_ with ea_ en_ ec_
         subst ea_
         subst ec_
         clear en_
         have HR1143_0:=Aside0.mk hi1143_0
         have HC1143_0:=Aside0.mk hl1143_0
         clear hi1143_0 hl1143_0
         replace p1143:=eq_true p1143
         replace q1143:=eq_true q1143
         go_wp2_with(first|(go_at_call 100;(with_reducible refine(laws_lnInts.calls k1 _ _ ((rd_T73 l0 x5_1).f0) _ _ ((rd_T73 l1 x5_1).f0) false _ ?side1 ?side2 ?side3 ?side4 A8.out).mono ?_);(case side1=>repeat(first|exact HR1142_0.out|(with_reducible refine Kd.C_alloc ?_ _)|(with_reducible refine Kd.C_drewN ?_ _)|(with_reducible refine Kd.C_drew ?_)));(case side2=>exact HC1142_0.out);(case side3=>repeat(first|exact HR1143_0.out|(with_reducible refine Kd.C_alloc ?_ _)|(with_reducible refine Kd.C_drewN ?_ _)|(with_reducible refine Kd.C_drew ?_)));(case side4=>exact HC1143_0.out);rintro e w' ⟨rfl,⟨nd,rfl⟩⟩;(try first|exact⟨rfl,_,World.drewN_drewN _ _ _⟩|exact⟨rfl,_,Eq.trans (World.drewN_drewN _ _ _) (congrArg (World.drewN _) (Nat.add_assoc _ _ _))⟩)))
         repeat(go_quiet(first|(go_at_call 100;(with_reducible refine(laws_lnInts.calls k1 _ _ ((rd_T73 l0 x5_1).f0) _ _ ((rd_T73 l1 x5_1).f0) false _ ?side1 ?side2 ?side3 ?side4 A8.out).mono ?_);(case side1=>repeat(first|exact HR1142_0.out|(with_reducible refine Kd.C_alloc ?_ _)|(with_reducible refine Kd.C_drewN ?_ _)|(with_reducible refine Kd.C_drew ?_)));(case side2=>exact HC1142_0.out);(case side3=>repeat(first|exact HR1143_0.out|(with_reducible refine Kd.C_alloc ?_ _)|(with_reducible refine Kd.C_drewN ?_ _)|(with_reducible refine Kd.C_drew ?_)));(case side4=>exact HC1143_0.out);rintro e w' ⟨rfl,⟨nd,rfl⟩⟩;(try first|exact⟨rfl,_,World.drewN_drewN _ _ _⟩|exact⟨rfl,_,Eq.trans (World.drewN_drewN _ _ _) (congrArg (World.drewN _) (Nat.add_assoc _ _ _))⟩)));try go_wp2_with(first|(go_at_call 100;(with_reducible refine(laws_lnInts.calls k1 _ _ ((rd_T73 l0 x5_1).f0) _ _ ((rd_T73 l1 x5_1).f0) false _ ?side1 ?side2 ?side3 ?side4 A8.out).mono ?_);(case side1=>repeat(first|exact HR1142_0.out|(with_reducible refine Kd.C_alloc ?_ _)|(with_reducible refine Kd.C_drewN ?_ _)|(with_reducible refine Kd.C_drew ?_)));(case side2=>exact HC1142_0.out);(case side3=>repeat(first|exact HR1143_0.out|(with_reducible refine Kd.C_alloc ?_ _)|(with_reducible refine Kd.C_drewN ?_ _)|(with_reducible refine Kd.C_drew ?_)));(case side4=>exact HC1143_0.out);rintro e w' ⟨rfl,⟨nd,rfl⟩⟩;(try first|exact⟨rfl,_,World.drewN_drewN _ _ _⟩|exact⟨rfl,_,Eq.trans (World.drewN_drewN _ _ _) (congrArg (World.drewN _) (Nat.add_assoc _ _ _))⟩))))
         go_ret
         exact⟨za17,za20⟩
       ·rw[if_neg c7] at H
        have c7b0:(((rd_T73 l0 x5_1).f1) == ((rd_T73 l1 x5_1).f1))=false:=beq_eq_false_iff_ne.mpr c7
        have c7b1:(((rd_T73 l0 x5_1).f1) != ((rd_T73 l1 x5_1).f1))=true:=bne_iff_ne.mpr c7
        obtain rfl:=Option.some.inj H
        have p1140:0≤(x5_1:Int):=of_decide_eq_true (za5)
        have q1140:x5_1<(l0.length:Int):=of_decide_eq_true (za5)
        obtain⟨ad1140,A1140_0,c1140_0,e1140,hx1140_0,hx1140_1,hl1140_0,hi1140_0⟩:=at_T73 HR0.out x5_1 p1140 q1140
        cases e1140
        have hxo1140_0:=Aside0.mk hx1140_0
        have HR1140_0:=Aside0.mk hi1140_0
        have HC1140_0:=Aside0.mk hl1140_0
        clear hi1140_0 hl1140_0
        replace p1140:=eq_true p1140
        replace q1140:=eq_true q1140
        have p1141:0≤(x5_1:Int):=of_decide_eq_true (za5)
        have q1141:x5_1<(l1.length:Int):=of_decide_eq_true (za5)
        obtain⟨ad1141,A1141_0,c1141_0,e1141,hx1141_0,hx1141_1,hl1141_0,hi1141_0⟩:=at_T73 HR1.out x5_1 p1141 q1141
        cases e1141
        have hxo1141_0:=Aside0.mk hx1141_0
        have HR1141_0:=Aside0.mk hi1141_0
        have HC1141_0:=Aside0.mk hl1141_0
        clear hi1141_0 hl1141_0
        replace p1141:=eq_true p1141
        replace q1141:=eq_true q1141
        go_wp2
        repeat(go_quiet(fail);try go_wp2)
        go_ret
        exact⟨za17,za20⟩
      ·rw[if_neg c6] at H
       exact absurd H (by simp)
     ·rw[if_neg c5] at H
      exact absurd H (by simp)
    ·rw[if_neg c4] at H
     have c4b0:decide (x5_1<(l0.length:Int))=false:=decide_eq_false c4
     clear c4
     obtain rfl:=Option.some.inj H
     go_wp2
     repeat(go_quiet(fail);try go_wp2)
     go_ret
     exact⟨za17,za20⟩
 ·rw[if_neg c3] at H
  have c3b0:((l0.length:Int) == (l1.length:Int))=false:=beq_eq_false_iff_ne.mpr c3
  have c3b1:((l0.length:Int) != (l1.length:Int))=true:=bne_iff_ne.mpr c3
  have c3b2:(l0.length == l1.length)=false:=by first|simpa using c3|(simp at c3 ⊢;omega)
  obtain rfl:=Option.some.inj H
  go_enter Try.func57,Try.ntmps57
  go_wp2
  repeat(go_quiet(fail);try go_wp2)
  go_ret
  exact⟨za17,za20⟩
end Go.Proofs.Ytjccnaklodbbfaa.Print
