-- Written by squeeze.py: not trusted, Lean checks it.
import Derived.Test.YtmbdphefnalenaaZK
import Derived.Test.YtmbdphefnalenaaZc6
namespace Go.Proofs.Ytmbdphefnalenaa.Print
open Go.RowKit Go.Proofs.YtmbdphefnalenaaW.PrintWords Go.Proofs.YtmbdphefnalenaaW.PrintLast Go.Proofs.YtmbdphefnalenaaW.PrintMore
attribute [local go_sem] max2_int min2_int max_two min_two max_three min_three max_four min_four
set_option linter.unusedVariables false
set_option linter.unusedSimpArgs false
def impl_TripsOf.l0:Nat→List (S32)→List (S81)→Bool→Int→Option ((List (S81)) × Bool)
 |0,_,_,_,_=>none
 |k+1,x0,x4,x5,x6=>if x5=true then(if x6<(x0.length:Int) then(if 0≤x6 then((impl_TripsDo.f k x4 ((rd_T32 x0 x6).f0) ((rd_T32 x0 x6).f1) ((rd_T32 x0 x6).f2)).bind fun bt354=>(impl_TripsOf.l0 k x0 bt354.1 bt354.2 (wrap64 (x6+1)))) else(none)) else(some (x4,x5))) else(some (x4,x5))
def impl_TripsOf.f (k:Nat) (l0:List (S32)):Option ((List (S81)) × Bool):=impl_TripsOf.l0 k l0 ([]:List (S81)) true 0
theorem impl_TripsOf.mono_l:∀k,(∀y0 y1 y2 y3,LeO (impl_TripsOf.l0 k y0 y1 y2 y3) (impl_TripsOf.l0 (k+1) y0 y1 y2 y3))
 |0=>fun _ _ _ _ r h=>by simp[impl_TripsOf.l0] at h
 |k+1=>by
  have ih0:=impl_TripsOf.mono_l k
  ·intro y0 y1 y2 y3;unfold impl_TripsOf.l0
   repeat' first|(with_reducible exact ih0 _ _ _ _)|(with_reducible exact impl_TripsDo.mono _ _ _ _ _)|(with_reducible exact LeO.refl _)|(with_reducible exact LeO.none _)|(with_reducible refine LeO.ite ?_ ?_)|(with_reducible refine LeO.bind ?_ (fun _=>?_))|exact ih0 _ _ _ _|exact impl_TripsDo.mono _ _ _ _ _|exact LeO.none _|refine LeO.ite ?_ ?_|refine LeO.bind ?_ (fun _=>?_)
theorem impl_TripsOf.mono:∀a0 k,LeO (impl_TripsOf.f k a0) (impl_TripsOf.f (k+1) a0):=by
 intro a0 k;have ih0:=impl_TripsOf.mono_l k;unfold impl_TripsOf.f
 repeat' first|(with_reducible exact ih0 _ _ _ _)|(with_reducible exact impl_TripsDo.mono _ _ _ _ _)|(with_reducible exact LeO.refl _)|(with_reducible exact LeO.none _)|(with_reducible refine LeO.ite ?_ ?_)|(with_reducible refine LeO.bind ?_ (fun _=>?_))|exact ih0 _ _ _ _|exact impl_TripsDo.mono _ _ _ _ _|exact LeO.none _|refine LeO.ite ?_ ?_|refine LeO.bind ?_ (fun _=>?_)
set_option maxHeartbeats 8000000 in
set_option maxRecDepth 100000 in
theorem impl_TripsOf.calls (k:Nat) (A0:Option Addr) (c0:Nat) (l0:List (S32)) (r1:List (S81)) (r2:Bool) (w:World) (hr0:Kd.C k32 w A0 l0.length l0) (hc0:l0.length≤c0) (h:impl_TripsOf.f k l0=some (r1,r2)) :
  Calls Try.prog 17 #[.slice A0 l0.length c0] w fun e w'=>∃v0_:Value,e=.returned (.tuple #[v0_,.bool r2])∧Kd.S k81 81 w' w.heap.size (fun _=>True) v0_ r1∧Below w.heap.size w w':=by
 have hu32:=Try.underlying32;have HR0:=qaf.mk hr0;have HC0:=qaf.mk hc0;clear hr0 hc0;have HB:=qaf.mk (Below.refl w.heap.size w);have H:(impl_TripsOf.l0 k l0 ([]:List (S81)) true 0)=some (r1,r2):=h;clear h;have H':=qaf.mk H;clear H;go_enter Try.func17,Try.ntmps17;go_wp2
 go_loopg [4,5,6] k (fun kq v4 v5 v6 w'=>∃(x4_1:List (S81)) (x5_1:Bool) (x6_1:Int),v5=.bool x5_1∧v6=.int .i64 x6_1∧qaf (impl_TripsOf.l0 kq l0 x4_1 x5_1 x6_1=some (r1,r2))∧qaf (kq≤k)∧qaf (Kd.S k81 81 w' w.heap.size (fun _=>True) v4 x4_1)∧qaf (Below w.heap.size w w'))
 case atStart=>exact⟨(([]:List (S81))),(true),(0),(za38),(za38),H',⟨Nat.le_refl _⟩,⟨za69⟩,⟨za2 HB⟩⟩
 case round=>
  clear H'
  try clear c1
  obtain⟨x4_1,x5_1,x6_1,rfl,rfl,HA,HK1,HO_4,HB⟩:=hrel
  cases gk with
  |zero=>exact absurd HA.out (by simp[impl_TripsOf.l0])
  |succ k1=>
   have H:=HA.out;clear HA;simp only[impl_TripsOf.l0] at H;by_cases c2:x5_1=true
   ·subst c2
    have H1:(if x6_1<(l0.length:Int) then(if 0≤x6_1 then((impl_TripsDo.f k1 x4_1 ((rd_T32 l0 x6_1).f0) ((rd_T32 l0 x6_1).f1) ((rd_T32 l0 x6_1).f2)).bind fun bt354=>(impl_TripsOf.l0 k1 l0 bt354.1 bt354.2 (wrap64 (x6_1+1)))) else(none)) else(some (x4_1,true)))=some (r1,r2):=by rw[if_pos rfl] at H;exact H
    clear H;have H:=H1;clear H1;by_cases c3:x6_1<(l0.length:Int)
    ·rw[if_pos c3] at H;have c3b0:decide (x6_1<(l0.length:Int))=true:=decide_eq_true c3;clear c3;by_cases c4:0≤x6_1
     ·rw[if_pos c4] at H;have c4b0:decide (0≤x6_1)=true:=decide_eq_true c4;clear c4;replace H:=Option.bind_eq_some_iff.mp H;obtain⟨⟨t354,t357⟩,A50,H⟩:=H;replace H:(impl_TripsOf.l0 k1 l0 t354 t357 (wrap64 (x6_1+1)))=some (r1,r2):=H;have A5:=qaf.mk A50;clear A50;have H':=qaf.mk H;clear H;have p353:0≤(x6_1:Int):=of_decide_eq_true (za10);have q353:x6_1<(l0.length:Int):=of_decide_eq_true (za10);obtain⟨ad353,A353_2,c353_2,e353,hx353_0,hx353_1,hx353_2,hl353_2,hi353_2⟩:=at_T32 HR0.out x6_1 p353 q353
      cases e353
      have hxo353_2:=qaf.mk hx353_2;replace hx353_0:=(HB.out.cell (World.block_lt_of_cell? w _ hx353_0)).trans hx353_0;replace hx353_1:=(HB.out.cell (World.block_lt_of_cell? w _ hx353_1)).trans hx353_1;replace hx353_2:=(HB.out.cell (World.block_lt_of_cell? w _ hx353_2)).trans hx353_2;have HR353_2:=qaf.mk hi353_2;have HC353_2:=qaf.mk hl353_2;clear hi353_2 hl353_2;replace p353:=eq_true p353;replace q353:=eq_true q353;obtain⟨Ao6,co6,eo6⟩:=Kd.S_slice HO_4.out;subst eo6
      go_wp2_with(first|((with_reducible refine qag (f:=19) rfl ?_);refine zF (some 22) Try.func19 #[.slice Ao6 x4_1.length co6,.agg #[.int .i64 ((rd_T32 l0 x6_1).f0),.int .i64 ((rd_T32 l0 x6_1).f1),.slice A353_2 ((rd_T32 l0 x6_1).f2).length c353_2]] ?_;(with_reducible refine(impl_TripsDo.calls k1 _ _ x4_1 ((rd_T32 l0 x6_1).f0) ((rd_T32 l0 x6_1).f1) _ _ ((rd_T32 l0 x6_1).f2) t354 t357 _ ?side1 ?side2 ?side3 ?side4 A5.out).mono ?_);(case side1=>repeat(first|exact(Kd.S_reads' HO_4.out).2.2|(with_reducible refine Kd.C_alloc ?_ _)|(with_reducible refine Kd.C_drewN ?_ _)|(with_reducible refine Kd.C_drew ?_)));(case side2=>exact(Kd.S_reads' HO_4.out).2.1);(case side3=>exact zR HR353_2 HB);(case side4=>exact HC353_2.out);rintro e w7 ⟨v355,rfl,ho0,hb⟩;refine⟨_,rfl,?_⟩;have HO356:=qaf.mk (Kd.S_lower (Kd.S_new' ho0 (Kd.S_lt (za24 HO_4))) (qan (za2 HB)));replace HO_4:=qaf.mk (Kd.S_elder' (za24 HO_4) (Kd.S_base ho0) hb);replace HB:=qaf.mk (qad (za2 HB) hb);(try clear hb);(try clear ho0)))
      go_roundg k1
      case measure=>have:=HK1.out;omega
      case rel=>exact⟨(t354),(t357),(wrap64 (x6_1+1)),(za38),(za38),H',⟨by have:=HK1.out;omega⟩,⟨by(with_reducible repeat(first|apply Kd.S_alloc|apply Kd.S_drewN|apply Kd.S_drew));exact Kd.S_mono HO356.out (fun _ hk=>trivial)⟩,⟨za2 HB⟩⟩
     ·rw[if_neg c4] at H;exact absurd H (by simp)
    ·rw[if_neg c3] at H;have c3b0:decide (x6_1<(l0.length:Int))=false:=decide_eq_false c3;clear c3;simp only[Option.some.injEq,Prod.mk.injEq] at H;obtain⟨rfl,rfl⟩:=H;go_wp2
     go_ret2
     exact⟨_,za12,za24 HO_4,za2 HB⟩
   ·replace c2:=Bool.eq_false_iff.mpr c2;subst c2
    have H1:(some (x4_1,false))=some (r1,r2):=by rw[if_neg (show ¬(false=true) by decide)] at H;exact H
    clear H;have H:=H1;clear H1;simp only[Option.some.injEq,Prod.mk.injEq] at H;obtain⟨rfl,rfl⟩:=H;go_wp2
    go_ret2
    exact⟨_,za12,za24 HO_4,za2 HB⟩
def laws_lnInts.l0:Nat→List Int→List Int→Int→Option (Bool)
 |0,_,_,_=>none
 |k+1,x0,x1,x5=>if x5<(x0.length:Int) then(if 0≤x5 then(if x5<(x1.length:Int) then(if(rd x0 x5)=(rd x1 x5) then(laws_lnInts.l0 k x0 x1 (wrap64 (x5+1))) else(some false)) else(none)) else(none)) else(some true)
def laws_lnInts.f (k:Nat) (l0:List Int) (l1:List Int):Option (Bool):=if(l0.length:Int)=(l1.length:Int) then(laws_lnInts.l0 k l0 l1 0) else(some false)
theorem laws_lnInts.mono_l:∀k,(∀y0 y1 y2,LeO (laws_lnInts.l0 k y0 y1 y2) (laws_lnInts.l0 (k+1) y0 y1 y2))
 |0=>fun _ _ _ r h=>by simp[laws_lnInts.l0] at h
 |k+1=>by
  have ih0:=laws_lnInts.mono_l k
  ·intro y0 y1 y2;unfold laws_lnInts.l0
   repeat' first|(with_reducible exact ih0 _ _ _)|(with_reducible exact LeO.refl _)|(with_reducible exact LeO.none _)|(with_reducible refine LeO.ite ?_ ?_)|(with_reducible refine LeO.bind ?_ (fun _=>?_))|exact ih0 _ _ _|exact LeO.none _|refine LeO.ite ?_ ?_|refine LeO.bind ?_ (fun _=>?_)
theorem laws_lnInts.mono:∀a0 a1 k,LeO (laws_lnInts.f k a0 a1) (laws_lnInts.f (k+1) a0 a1):=by
 intro a0 a1 k;have ih0:=laws_lnInts.mono_l k;unfold laws_lnInts.f
 repeat' first|(with_reducible exact ih0 _ _ _)|(with_reducible exact LeO.refl _)|(with_reducible exact LeO.none _)|(with_reducible refine LeO.ite ?_ ?_)|(with_reducible refine LeO.bind ?_ (fun _=>?_))|exact ih0 _ _ _|exact LeO.none _|refine LeO.ite ?_ ?_|refine LeO.bind ?_ (fun _=>?_)
set_option maxHeartbeats 8000000 in
set_option maxRecDepth 100000 in
theorem laws_lnInts.calls (k:Nat) (A0:Option Addr) (c0:Nat) (l0:List Int) (A1:Option Addr) (c1:Nat) (l1:List Int) (r:Bool) (w:World) (hr0:Kd.C (Kd.int .i64) w A0 l0.length l0) (hc0:l0.length≤c0) (hr1:Kd.C (Kd.int .i64) w A1 l1.length l1) (hc1:l1.length≤c1) (h:laws_lnInts.f k l0 l1=some r) :
  Calls Try.prog 51 #[.slice A0 l0.length c0,.slice A1 l1.length c1] w fun e w'=>e=.returned (.bool r)∧Drawn0 w w':=by
 have HR0:=qaf.mk hr0;have HC0:=qaf.mk hc0;clear hr0 hc0;have HR1:=qaf.mk hr1;have HC1:=qaf.mk hc1;clear hr1 hc1;have H:(if(l0.length:Int)=(l1.length:Int) then(laws_lnInts.l0 k l0 l1 0) else(some false))=some r:=h;clear h;by_cases c3:(l0.length:Int)=(l1.length:Int)
 ·rw[if_pos c3] at H;have c3b0:((l0.length:Int) == (l1.length:Int))=true:=beq_iff_eq.mpr c3;have c3b1:((l0.length:Int) != (l1.length:Int))=false:=bne_eq_false_iff_eq.mpr c3
  have c3b2:(l0.length == l1.length)=true:=by first|simpa using c3|(simp at c3 ⊢;omega)
  clear c3;have H':=qaf.mk H;clear H;go_enter Try.func51,Try.ntmps51;go_wp2
  repeat(go_quiet(fail);try go_wp2)
  go_loopg [5] k (fun kq v5 w'=>∃(x5_1:Int),v5=.int .i64 x5_1∧qaf (laws_lnInts.l0 kq l0 l1 x5_1=some r)∧qaf (kq≤k)∧Drawn0 w w')
  case atStart=>exact⟨(0),(za38),H',⟨Nat.le_refl _⟩,za62⟩
  case round=>
   clear H'
   try clear c1
   try clear p2
   try clear c3
   try clear c3b0
   try clear c3b1
   try clear c3b2
   obtain⟨x5_1,rfl,HA,HK1,⟨m1,rfl⟩⟩:=hrel
   cases gk with
   |zero=>exact absurd HA.out (by simp[laws_lnInts.l0])
   |succ k1=>
    have H:=HA.out;clear HA;simp only[laws_lnInts.l0] at H;by_cases c4:x5_1<(l0.length:Int)
    ·rw[if_pos c4] at H;have c4b0:decide (x5_1<(l0.length:Int))=true:=decide_eq_true c4;clear c4;by_cases c5:0≤x5_1
     ·rw[if_pos c5] at H;have c5b0:decide (0≤x5_1)=true:=decide_eq_true c5;clear c5;by_cases c6:x5_1<(l1.length:Int)
      ·rw[if_pos c6] at H;have c6b0:decide (x5_1<(l1.length:Int))=true:=decide_eq_true c6;clear c6;by_cases c7:(rd l0 x5_1)=(rd l1 x5_1)
       ·rw[if_pos c7] at H;have c7b0:((rd l0 x5_1) == (rd l1 x5_1))=true:=beq_iff_eq.mpr c7;have c7b1:((rd l0 x5_1) != (rd l1 x5_1))=false:=bne_eq_false_iff_eq.mpr c7;clear c7;have H':=qaf.mk H;clear H;have p358:0≤(x5_1:Int):=of_decide_eq_true (za10);have q358:x5_1<(l0.length:Int):=of_decide_eq_true (za10);obtain⟨ad358,e358,hx358_0⟩:=Kd.at_int HR0.out x5_1 p358 q358
        cases e358
        replace p358:=eq_true p358;replace q358:=eq_true q358;have p359:0≤(x5_1:Int):=of_decide_eq_true (za10);have q359:x5_1<(l1.length:Int):=of_decide_eq_true (za10);obtain⟨ad359,e359,hx359_0⟩:=Kd.at_int HR1.out x5_1 p359 q359
        cases e359
        replace p359:=eq_true p359;replace q359:=eq_true q359;go_wp2
        repeat(go_quiet(fail);try go_wp2)
        go_roundg k1
        case measure=>have:=HK1.out;omega
        case rel=>exact⟨(wrap64 (x5_1+1)),(za38),H',⟨by have:=HK1.out;omega⟩,za62⟩
       ·rw[if_neg c7] at H;have c7b0:((rd l0 x5_1) == (rd l1 x5_1))=false:=beq_eq_false_iff_ne.mpr c7;have c7b1:((rd l0 x5_1) != (rd l1 x5_1))=true:=bne_iff_ne.mpr c7;obtain rfl:=Option.some.inj H;have p358:0≤(x5_1:Int):=of_decide_eq_true (za10);have q358:x5_1<(l0.length:Int):=of_decide_eq_true (za10);obtain⟨ad358,e358,hx358_0⟩:=Kd.at_int HR0.out x5_1 p358 q358
        cases e358
        replace p358:=eq_true p358;replace q358:=eq_true q358;have p359:0≤(x5_1:Int):=of_decide_eq_true (za10);have q359:x5_1<(l1.length:Int):=of_decide_eq_true (za10);obtain⟨ad359,e359,hx359_0⟩:=Kd.at_int HR1.out x5_1 p359 q359
        cases e359
        replace p359:=eq_true p359;replace q359:=eq_true q359;go_wp2
        repeat(go_quiet(fail);try go_wp2)
        go_ret;exact⟨za38,za62⟩
      ·rw[if_neg c6] at H;exact absurd H (by simp)
     ·rw[if_neg c5] at H;exact absurd H (by simp)
    ·rw[if_neg c4] at H;have c4b0:decide (x5_1<(l0.length:Int))=false:=decide_eq_false c4;clear c4;obtain rfl:=Option.some.inj H;go_wp2
     repeat(go_quiet(fail);try go_wp2)
     go_ret;exact⟨za38,za62⟩
 ·rw[if_neg c3] at H;have c3b0:((l0.length:Int) == (l1.length:Int))=false:=beq_eq_false_iff_ne.mpr c3;have c3b1:((l0.length:Int) != (l1.length:Int))=true:=bne_iff_ne.mpr c3
  have c3b2:(l0.length == l1.length)=false:=by first|simpa using c3|(simp at c3 ⊢;omega)
  obtain rfl:=Option.some.inj H;go_enter Try.func51,Try.ntmps51;go_wp2
  repeat(go_quiet(fail);try go_wp2)
  go_ret;exact⟨za38,za62⟩
def laws_lnTrips.l0:Nat→List (S81)→List (S81)→Int→Option (Bool)
 |0,_,_,_=>none
 |k+1,x0,x1,x5=>if x5<(x0.length:Int) then(if 0≤x5 then(if x5<(x1.length:Int) then(if((rd_T81 x0 x5).f1)=((rd_T81 x1 x5).f1) then((laws_lnInts.f k ((rd_T81 x0 x5).f0) ((rd_T81 x1 x5).f0)).bind fun t364=>(if t364=true then(laws_lnTrips.l0 k x0 x1 (wrap64 (x5+1))) else(some false))) else(some false)) else(none)) else(none)) else(some true)
def laws_lnTrips.f (k:Nat) (l0:List (S81)) (l1:List (S81)):Option (Bool):=if(l0.length:Int)=(l1.length:Int) then(laws_lnTrips.l0 k l0 l1 0) else(some false)
theorem laws_lnTrips.mono_l:∀k,(∀y0 y1 y2,LeO (laws_lnTrips.l0 k y0 y1 y2) (laws_lnTrips.l0 (k+1) y0 y1 y2))
 |0=>fun _ _ _ r h=>by simp[laws_lnTrips.l0] at h
 |k+1=>by
  have ih0:=laws_lnTrips.mono_l k
  ·intro y0 y1 y2;unfold laws_lnTrips.l0
   repeat' first|(with_reducible exact ih0 _ _ _)|(with_reducible exact laws_lnInts.mono _ _ _)|(with_reducible exact LeO.refl _)|(with_reducible exact LeO.none _)|(with_reducible refine LeO.ite ?_ ?_)|(with_reducible refine LeO.bind ?_ (fun _=>?_))|exact ih0 _ _ _|exact laws_lnInts.mono _ _ _|exact LeO.none _|refine LeO.ite ?_ ?_|refine LeO.bind ?_ (fun _=>?_)
theorem laws_lnTrips.mono:∀a0 a1 k,LeO (laws_lnTrips.f k a0 a1) (laws_lnTrips.f (k+1) a0 a1):=by
 intro a0 a1 k;have ih0:=laws_lnTrips.mono_l k;unfold laws_lnTrips.f
 repeat' first|(with_reducible exact ih0 _ _ _)|(with_reducible exact laws_lnInts.mono _ _ _)|(with_reducible exact LeO.refl _)|(with_reducible exact LeO.none _)|(with_reducible refine LeO.ite ?_ ?_)|(with_reducible refine LeO.bind ?_ (fun _=>?_))|exact ih0 _ _ _|exact laws_lnInts.mono _ _ _|exact LeO.none _|refine LeO.ite ?_ ?_|refine LeO.bind ?_ (fun _=>?_)
set_option maxHeartbeats 8000000 in
set_option maxRecDepth 100000 in
theorem laws_lnTrips.calls (k:Nat) (A0:Option Addr) (c0:Nat) (l0:List (S81)) (A1:Option Addr) (c1:Nat) (l1:List (S81)) (r:Bool) (w:World) (hr0:Kd.C k81 w A0 l0.length l0) (hc0:l0.length≤c0) (hr1:Kd.C k81 w A1 l1.length l1) (hc1:l1.length≤c1) (h:laws_lnTrips.f k l0 l1=some r) :
  Calls Try.prog 18 #[.slice A0 l0.length c0,.slice A1 l1.length c1] w fun e w'=>e=.returned (.bool r)∧Drawn0 w w':=by
 have HR0:=qaf.mk hr0;have HC0:=qaf.mk hc0;clear hr0 hc0;have HR1:=qaf.mk hr1;have HC1:=qaf.mk hc1;clear hr1 hc1;have H:(if(l0.length:Int)=(l1.length:Int) then(laws_lnTrips.l0 k l0 l1 0) else(some false))=some r:=h;clear h;by_cases c3:(l0.length:Int)=(l1.length:Int)
 ·rw[if_pos c3] at H;have c3b0:((l0.length:Int) == (l1.length:Int))=true:=beq_iff_eq.mpr c3;have c3b1:((l0.length:Int) != (l1.length:Int))=false:=bne_eq_false_iff_eq.mpr c3
  have c3b2:(l0.length == l1.length)=true:=by first|simpa using c3|(simp at c3 ⊢;omega)
  clear c3;have H':=qaf.mk H;clear H;go_enter Try.func18,Try.ntmps18;go_wp2
  repeat(go_quiet(fail);try go_wp2)
  go_loopg [5] k (fun kq v5 w'=>∃(x5_1:Int),v5=.int .i64 x5_1∧qaf (laws_lnTrips.l0 kq l0 l1 x5_1=some r)∧qaf (kq≤k)∧Drawn0 w w')
  case atStart=>exact⟨(0),(za38),H',⟨Nat.le_refl _⟩,za62⟩
  case round=>
   clear H'
   try clear c1
   try clear p2
   try clear c3
   try clear c3b0
   try clear c3b1
   try clear c3b2
   obtain⟨x5_1,rfl,HA,HK1,⟨m1,rfl⟩⟩:=hrel
   cases gk with
   |zero=>exact absurd HA.out (by simp[laws_lnTrips.l0])
   |succ k1=>
    have H:=HA.out;clear HA;simp only[laws_lnTrips.l0] at H;by_cases c4:x5_1<(l0.length:Int)
    ·rw[if_pos c4] at H;have c4b0:decide (x5_1<(l0.length:Int))=true:=decide_eq_true c4;clear c4;by_cases c5:0≤x5_1
     ·rw[if_pos c5] at H;have c5b0:decide (0≤x5_1)=true:=decide_eq_true c5;clear c5;by_cases c6:x5_1<(l1.length:Int)
      ·rw[if_pos c6] at H;have c6b0:decide (x5_1<(l1.length:Int))=true:=decide_eq_true c6;clear c6;by_cases c7:((rd_T81 l0 x5_1).f1)=((rd_T81 l1 x5_1).f1)
       ·rw[if_pos c7] at H;have c7b0:(((rd_T81 l0 x5_1).f1) == ((rd_T81 l1 x5_1).f1))=true:=beq_iff_eq.mpr c7;have c7b1:(((rd_T81 l0 x5_1).f1) != ((rd_T81 l1 x5_1).f1))=false:=bne_eq_false_iff_eq.mpr c7;clear c7;replace H:=Option.bind_eq_some_iff.mp H;obtain⟨t364,A80,H⟩:=H;replace H:(if t364=true then(laws_lnTrips.l0 k1 l0 l1 (wrap64 (x5_1+1))) else(some false))=some r:=H;have A8:=qaf.mk A80;clear A80;by_cases c9:t364=true
        ·subst c9
         have H1:(laws_lnTrips.l0 k1 l0 l1 (wrap64 (x5_1+1)))=some r:=by rw[if_pos rfl] at H;exact H
         clear H;have H:=H1;clear H1;have H':=qaf.mk H;clear H;have p360:0≤(x5_1:Int):=of_decide_eq_true (za10);have q360:x5_1<(l0.length:Int):=of_decide_eq_true (za10);obtain⟨ad360,A360_0,c360_0,e360,hx360_0,hx360_1,hl360_0,hi360_0⟩:=at_T81 HR0.out x5_1 p360 q360
         cases e360
         have hxo360_0:=qaf.mk hx360_0;have HR360_0:=qaf.mk hi360_0;have HC360_0:=qaf.mk hl360_0;clear hi360_0 hl360_0;replace p360:=eq_true p360;replace q360:=eq_true q360;have p361:0≤(x5_1:Int):=of_decide_eq_true (za10);have q361:x5_1<(l1.length:Int):=of_decide_eq_true (za10);obtain⟨ad361,A361_0,c361_0,e361,hx361_0,hx361_1,hl361_0,hi361_0⟩:=at_T81 HR1.out x5_1 p361 q361
         cases e361
         have hxo361_0:=qaf.mk hx361_0;have HR361_0:=qaf.mk hi361_0;have HC361_0:=qaf.mk hl361_0;clear hi361_0 hl361_0;replace p361:=eq_true p361;replace q361:=eq_true q361;have p362:0≤(x5_1:Int):=of_decide_eq_true (za10);have q362:x5_1<(l0.length:Int):=of_decide_eq_true (za10);obtain⟨ad362,A362_0,c362_0,e362,hx362_0,hx362_1,hl362_0,hi362_0⟩:=at_T81 HR0.out x5_1 p362 q362;obtain rfl:ad360=ad362:=(by injection e362);have ea_:=Option.some.inj (hxo360_0.out.symm.trans hx362_0)
         injection ea_ with ea_ en_ ec_
         subst ea_;subst ec_;clear en_;have HR362_0:=qaf.mk hi362_0;have HC362_0:=qaf.mk hl362_0;clear hi362_0 hl362_0;replace p362:=eq_true p362;replace q362:=eq_true q362;have p363:0≤(x5_1:Int):=of_decide_eq_true (za10);have q363:x5_1<(l1.length:Int):=of_decide_eq_true (za10);obtain⟨ad363,A363_0,c363_0,e363,hx363_0,hx363_1,hl363_0,hi363_0⟩:=at_T81 HR1.out x5_1 p363 q363;obtain rfl:ad361=ad363:=(by injection e363);have ea_:=Option.some.inj (hxo361_0.out.symm.trans hx363_0)
         injection ea_ with ea_ en_ ec_
         subst ea_;subst ec_;clear en_;have HR363_0:=qaf.mk hi363_0;have HC363_0:=qaf.mk hl363_0;clear hi363_0 hl363_0;replace p363:=eq_true p363;replace q363:=eq_true q363
         go_wp2_with(first|(go_at_call 51;(with_reducible refine(laws_lnInts.calls k1 _ _ ((rd_T81 l0 x5_1).f0) _ _ ((rd_T81 l1 x5_1).f0) true _ ?side1 ?side2 ?side3 ?side4 A8.out).mono ?_);(case side1=>repeat(first|exact HR362_0.out|(with_reducible refine Kd.C_alloc ?_ _)|(with_reducible refine Kd.C_drewN ?_ _)|(with_reducible refine Kd.C_drew ?_)));(case side2=>exact HC362_0.out);(case side3=>repeat(first|exact HR363_0.out|(with_reducible refine Kd.C_alloc ?_ _)|(with_reducible refine Kd.C_drewN ?_ _)|(with_reducible refine Kd.C_drew ?_)));(case side4=>exact HC363_0.out);rintro e w' ⟨rfl,⟨nd,rfl⟩⟩;(try first|exact⟨rfl,_,World.drewN_drewN _ _ _⟩|exact⟨rfl,_,Eq.trans (World.drewN_drewN _ _ _) (congrArg (World.drewN _) (Nat.add_assoc _ _ _))⟩)))
         repeat(go_quiet(first|(go_at_call 51;(with_reducible refine(laws_lnInts.calls k1 _ _ ((rd_T81 l0 x5_1).f0) _ _ ((rd_T81 l1 x5_1).f0) true _ ?side1 ?side2 ?side3 ?side4 A8.out).mono ?_);(case side1=>repeat(first|exact HR362_0.out|(with_reducible refine Kd.C_alloc ?_ _)|(with_reducible refine Kd.C_drewN ?_ _)|(with_reducible refine Kd.C_drew ?_)));(case side2=>exact HC362_0.out);(case side3=>repeat(first|exact HR363_0.out|(with_reducible refine Kd.C_alloc ?_ _)|(with_reducible refine Kd.C_drewN ?_ _)|(with_reducible refine Kd.C_drew ?_)));(case side4=>exact HC363_0.out);rintro e w' ⟨rfl,⟨nd,rfl⟩⟩;(try first|exact⟨rfl,_,World.drewN_drewN _ _ _⟩|exact⟨rfl,_,Eq.trans (World.drewN_drewN _ _ _) (congrArg (World.drewN _) (Nat.add_assoc _ _ _))⟩)));try go_wp2_with(first|(go_at_call 51;(with_reducible refine(laws_lnInts.calls k1 _ _ ((rd_T81 l0 x5_1).f0) _ _ ((rd_T81 l1 x5_1).f0) true _ ?side1 ?side2 ?side3 ?side4 A8.out).mono ?_);(case side1=>repeat(first|exact HR362_0.out|(with_reducible refine Kd.C_alloc ?_ _)|(with_reducible refine Kd.C_drewN ?_ _)|(with_reducible refine Kd.C_drew ?_)));(case side2=>exact HC362_0.out);(case side3=>repeat(first|exact HR363_0.out|(with_reducible refine Kd.C_alloc ?_ _)|(with_reducible refine Kd.C_drewN ?_ _)|(with_reducible refine Kd.C_drew ?_)));(case side4=>exact HC363_0.out);rintro e w' ⟨rfl,⟨nd,rfl⟩⟩;(try first|exact⟨rfl,_,World.drewN_drewN _ _ _⟩|exact⟨rfl,_,Eq.trans (World.drewN_drewN _ _ _) (congrArg (World.drewN _) (Nat.add_assoc _ _ _))⟩))))
         go_roundg k1
         case measure=>have:=HK1.out;omega
         case rel=>exact⟨(wrap64 (x5_1+1)),(za38),H',⟨by have:=HK1.out;omega⟩,za62⟩
        ·replace c9:=Bool.eq_false_iff.mpr c9;subst c9
         have H1:(some false)=some r:=by rw[if_neg (show ¬(false=true) by decide)] at H;exact H
         clear H;have H:=H1;clear H1;obtain rfl:=Option.some.inj H;have p360:0≤(x5_1:Int):=of_decide_eq_true (za10);have q360:x5_1<(l0.length:Int):=of_decide_eq_true (za10);obtain⟨ad360,A360_0,c360_0,e360,hx360_0,hx360_1,hl360_0,hi360_0⟩:=at_T81 HR0.out x5_1 p360 q360
         cases e360
         have hxo360_0:=qaf.mk hx360_0;have HR360_0:=qaf.mk hi360_0;have HC360_0:=qaf.mk hl360_0;clear hi360_0 hl360_0;replace p360:=eq_true p360;replace q360:=eq_true q360;have p361:0≤(x5_1:Int):=of_decide_eq_true (za10);have q361:x5_1<(l1.length:Int):=of_decide_eq_true (za10);obtain⟨ad361,A361_0,c361_0,e361,hx361_0,hx361_1,hl361_0,hi361_0⟩:=at_T81 HR1.out x5_1 p361 q361
         cases e361
         have hxo361_0:=qaf.mk hx361_0;have HR361_0:=qaf.mk hi361_0;have HC361_0:=qaf.mk hl361_0;clear hi361_0 hl361_0;replace p361:=eq_true p361;replace q361:=eq_true q361;have p362:0≤(x5_1:Int):=of_decide_eq_true (za10);have q362:x5_1<(l0.length:Int):=of_decide_eq_true (za10);obtain⟨ad362,A362_0,c362_0,e362,hx362_0,hx362_1,hl362_0,hi362_0⟩:=at_T81 HR0.out x5_1 p362 q362;obtain rfl:ad360=ad362:=(by injection e362);have ea_:=Option.some.inj (hxo360_0.out.symm.trans hx362_0)
         injection ea_ with ea_ en_ ec_
         subst ea_;subst ec_;clear en_;have HR362_0:=qaf.mk hi362_0;have HC362_0:=qaf.mk hl362_0;clear hi362_0 hl362_0;replace p362:=eq_true p362;replace q362:=eq_true q362;have p363:0≤(x5_1:Int):=of_decide_eq_true (za10);have q363:x5_1<(l1.length:Int):=of_decide_eq_true (za10);obtain⟨ad363,A363_0,c363_0,e363,hx363_0,hx363_1,hl363_0,hi363_0⟩:=at_T81 HR1.out x5_1 p363 q363;obtain rfl:ad361=ad363:=(by injection e363);have ea_:=Option.some.inj (hxo361_0.out.symm.trans hx363_0)
         injection ea_ with ea_ en_ ec_
         subst ea_;subst ec_;clear en_;have HR363_0:=qaf.mk hi363_0;have HC363_0:=qaf.mk hl363_0;clear hi363_0 hl363_0;replace p363:=eq_true p363;replace q363:=eq_true q363
         go_wp2_with(first|(go_at_call 51;(with_reducible refine(laws_lnInts.calls k1 _ _ ((rd_T81 l0 x5_1).f0) _ _ ((rd_T81 l1 x5_1).f0) false _ ?side1 ?side2 ?side3 ?side4 A8.out).mono ?_);(case side1=>repeat(first|exact HR362_0.out|(with_reducible refine Kd.C_alloc ?_ _)|(with_reducible refine Kd.C_drewN ?_ _)|(with_reducible refine Kd.C_drew ?_)));(case side2=>exact HC362_0.out);(case side3=>repeat(first|exact HR363_0.out|(with_reducible refine Kd.C_alloc ?_ _)|(with_reducible refine Kd.C_drewN ?_ _)|(with_reducible refine Kd.C_drew ?_)));(case side4=>exact HC363_0.out);rintro e w' ⟨rfl,⟨nd,rfl⟩⟩;(try first|exact⟨rfl,_,World.drewN_drewN _ _ _⟩|exact⟨rfl,_,Eq.trans (World.drewN_drewN _ _ _) (congrArg (World.drewN _) (Nat.add_assoc _ _ _))⟩)))
         repeat(go_quiet(first|(go_at_call 51;(with_reducible refine(laws_lnInts.calls k1 _ _ ((rd_T81 l0 x5_1).f0) _ _ ((rd_T81 l1 x5_1).f0) false _ ?side1 ?side2 ?side3 ?side4 A8.out).mono ?_);(case side1=>repeat(first|exact HR362_0.out|(with_reducible refine Kd.C_alloc ?_ _)|(with_reducible refine Kd.C_drewN ?_ _)|(with_reducible refine Kd.C_drew ?_)));(case side2=>exact HC362_0.out);(case side3=>repeat(first|exact HR363_0.out|(with_reducible refine Kd.C_alloc ?_ _)|(with_reducible refine Kd.C_drewN ?_ _)|(with_reducible refine Kd.C_drew ?_)));(case side4=>exact HC363_0.out);rintro e w' ⟨rfl,⟨nd,rfl⟩⟩;(try first|exact⟨rfl,_,World.drewN_drewN _ _ _⟩|exact⟨rfl,_,Eq.trans (World.drewN_drewN _ _ _) (congrArg (World.drewN _) (Nat.add_assoc _ _ _))⟩)));try go_wp2_with(first|(go_at_call 51;(with_reducible refine(laws_lnInts.calls k1 _ _ ((rd_T81 l0 x5_1).f0) _ _ ((rd_T81 l1 x5_1).f0) false _ ?side1 ?side2 ?side3 ?side4 A8.out).mono ?_);(case side1=>repeat(first|exact HR362_0.out|(with_reducible refine Kd.C_alloc ?_ _)|(with_reducible refine Kd.C_drewN ?_ _)|(with_reducible refine Kd.C_drew ?_)));(case side2=>exact HC362_0.out);(case side3=>repeat(first|exact HR363_0.out|(with_reducible refine Kd.C_alloc ?_ _)|(with_reducible refine Kd.C_drewN ?_ _)|(with_reducible refine Kd.C_drew ?_)));(case side4=>exact HC363_0.out);rintro e w' ⟨rfl,⟨nd,rfl⟩⟩;(try first|exact⟨rfl,_,World.drewN_drewN _ _ _⟩|exact⟨rfl,_,Eq.trans (World.drewN_drewN _ _ _) (congrArg (World.drewN _) (Nat.add_assoc _ _ _))⟩))))
         go_ret;exact⟨za38,za62⟩
       ·rw[if_neg c7] at H;have c7b0:(((rd_T81 l0 x5_1).f1) == ((rd_T81 l1 x5_1).f1))=false:=beq_eq_false_iff_ne.mpr c7;have c7b1:(((rd_T81 l0 x5_1).f1) != ((rd_T81 l1 x5_1).f1))=true:=bne_iff_ne.mpr c7;obtain rfl:=Option.some.inj H;have p360:0≤(x5_1:Int):=of_decide_eq_true (za10);have q360:x5_1<(l0.length:Int):=of_decide_eq_true (za10);obtain⟨ad360,A360_0,c360_0,e360,hx360_0,hx360_1,hl360_0,hi360_0⟩:=at_T81 HR0.out x5_1 p360 q360
        cases e360
        have hxo360_0:=qaf.mk hx360_0;have HR360_0:=qaf.mk hi360_0;have HC360_0:=qaf.mk hl360_0;clear hi360_0 hl360_0;replace p360:=eq_true p360;replace q360:=eq_true q360;have p361:0≤(x5_1:Int):=of_decide_eq_true (za10);have q361:x5_1<(l1.length:Int):=of_decide_eq_true (za10);obtain⟨ad361,A361_0,c361_0,e361,hx361_0,hx361_1,hl361_0,hi361_0⟩:=at_T81 HR1.out x5_1 p361 q361
        cases e361
        have hxo361_0:=qaf.mk hx361_0;have HR361_0:=qaf.mk hi361_0;have HC361_0:=qaf.mk hl361_0;clear hi361_0 hl361_0;replace p361:=eq_true p361;replace q361:=eq_true q361;go_wp2
        repeat(go_quiet(fail);try go_wp2)
        go_ret;exact⟨za38,za62⟩
      ·rw[if_neg c6] at H;exact absurd H (by simp)
     ·rw[if_neg c5] at H;exact absurd H (by simp)
    ·rw[if_neg c4] at H;have c4b0:decide (x5_1<(l0.length:Int))=false:=decide_eq_false c4;clear c4;obtain rfl:=Option.some.inj H;go_wp2
     repeat(go_quiet(fail);try go_wp2)
     go_ret;exact⟨za38,za62⟩
 ·rw[if_neg c3] at H;have c3b0:((l0.length:Int) == (l1.length:Int))=false:=beq_eq_false_iff_ne.mpr c3;have c3b1:((l0.length:Int) != (l1.length:Int))=true:=bne_iff_ne.mpr c3
  have c3b2:(l0.length == l1.length)=false:=by first|simpa using c3|(simp at c3 ⊢;omega)
  obtain rfl:=Option.some.inj H;go_enter Try.func18,Try.ntmps18;go_wp2
  repeat(go_quiet(fail);try go_wp2)
  go_ret;exact⟨za38,za62⟩
end Go.Proofs.Ytmbdphefnalenaa.Print
