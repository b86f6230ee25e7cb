-- Written by squeeze.py: not trusted, Lean checks it.
import Derived.Test.YtmbdphefnalenaaZK
import Derived.Test.YtmbdphefnalenaaZc4
import Derived.Test.YtmbdphefnalenaaZc6
import Derived.Test.YtmbdphefnalenaaZc7
namespace Go.Proofs.Ytmbdphefnalenaa.Print
open Go.RowKit Go.Proofs.YtmbdphefnalenaaW.PrintWords Go.Proofs.YtmbdphefnalenaaW.PrintLast Go.Proofs.YtmbdphefnalenaaW.PrintMore
attribute [local go_sem] max2_int min2_int max_two min_two max_three min_three max_four min_four
set_option linter.unusedVariables false
set_option linter.unusedSimpArgs false
mutual
def laws_FnTripsOf.j0:Nat→List Int→List Int→Bool→Option (Bool)
 |0,_,_,_=>none
 |k+1,x0,x1,x21=>if x21=true then(some true) else((spec_DrawTripsOf.f k x0).bind fun t365=>((spec_TripsOf.f k t365).bind fun bt368=>((impl_TripsOf.f k t365).bind fun bt372=>(if(bt372.2 != bt368.2)=true then(laws_FnTripsOf.j1 k x1 t365 bt372.1 bt372.2 true) else((laws_lnTrips.f k bt372.1 bt368.1).bind fun t376=>(laws_FnTripsOf.j1 k x1 t365 bt372.1 bt372.2 (!t376)))))))
def laws_FnTripsOf.j1:Nat→List Int→List (S32)→List (S81)→Bool→Bool→Option (Bool)
 |0,_,_,_,_,_=>none
 |k+1,x1,x5,x8,x9,x42=>if x42=true then(some false) else(if(wrap64 ((x5.length:Int)+1))=0 then(none) else(if 0≤((x1.length:Int)%(wrap64 ((x5.length:Int)+1))) then(if((x1.length:Int)%(wrap64 ((x5.length:Int)+1)))≤(x5.length:Int) then((impl_TripsOf.f k (x5.take (((x1.length:Int)%(wrap64 ((x5.length:Int)+1))):Int).toNat)).bind fun bt382=>(laws_FnTripsOf.l0 k x5 x8 x9 bt382.1 bt382.2 ((x1.length:Int)%(wrap64 ((x5.length:Int)+1))))) else(none)) else(none)))
def laws_FnTripsOf.l0:Nat→List (S32)→List (S81)→Bool→List (S81)→Bool→Int→Option (Bool)
 |0,_,_,_,_,_,_=>none
 |k+1,x5,x8,x9,x11,x12,x13=>if x13<(x5.length:Int) then(if x12=true then(if 0≤x13 then((impl_TripsDo.f k x11 ((rd_T32 x5 x13).f0) ((rd_T32 x5 x13).f1) ((rd_T32 x5 x13).f2)).bind fun bt387=>(laws_FnTripsOf.l0 k x5 x8 x9 bt387.1 bt387.2 (wrap64 (x13+1)))) else(none)) else(laws_FnTripsOf.l0 k x5 x8 x9 x11 x12 (wrap64 (x13+1)))) else(if(x12 == x9)=true then(if x9=true then((laws_lnTrips.f k x11 x8).bind fun t391=>(some t391)) else(some true)) else(some false))
end
def laws_FnTripsOf.f (k:Nat) (l0:List Int) (l1:List Int):Option (Bool):=if(l0.length:Int)>1048576 then(laws_FnTripsOf.j0 k l0 l1 true) else(laws_FnTripsOf.j0 k l0 l1 (decide ((l1.length:Int)>1048576)))
theorem laws_FnTripsOf.mono_l:∀k,(∀y0 y1 y2,LeO (laws_FnTripsOf.j0 k y0 y1 y2) (laws_FnTripsOf.j0 (k+1) y0 y1 y2))∧(∀y0 y1 y2 y3 y4,LeO (laws_FnTripsOf.j1 k y0 y1 y2 y3 y4) (laws_FnTripsOf.j1 (k+1) y0 y1 y2 y3 y4))∧(∀y0 y1 y2 y3 y4 y5,LeO (laws_FnTripsOf.l0 k y0 y1 y2 y3 y4 y5) (laws_FnTripsOf.l0 (k+1) y0 y1 y2 y3 y4 y5))
 |0=>⟨fun _ _ _ r h=>by simp[laws_FnTripsOf.j0] at h,fun _ _ _ _ _ r h=>by simp[laws_FnTripsOf.j1] at h,fun _ _ _ _ _ _ r h=>by simp[laws_FnTripsOf.l0] at h⟩
 |k+1=>by
  obtain⟨ih0,ih1,ih2⟩:=laws_FnTripsOf.mono_l k;refine⟨?_,?_,?_⟩
  ·intro y0 y1 y2;unfold laws_FnTripsOf.j0
   repeat' first|(with_reducible exact ih0 _ _ _)|(with_reducible exact ih1 _ _ _ _ _)|(with_reducible exact ih2 _ _ _ _ _ _)|(with_reducible exact impl_TripsDo.mono _ _ _ _ _)|(with_reducible exact impl_TripsOf.mono _ _)|(with_reducible exact laws_lnTrips.mono _ _ _)|(with_reducible exact spec_DrawTripsOf.mono _ _)|(with_reducible exact spec_TripsOf.mono _ _)|(with_reducible exact LeO.refl _)|(with_reducible exact LeO.none _)|(with_reducible refine LeO.ite ?_ ?_)|(with_reducible refine LeO.bind ?_ (fun _=>?_))|exact ih0 _ _ _|exact ih1 _ _ _ _ _|exact ih2 _ _ _ _ _ _|exact impl_TripsDo.mono _ _ _ _ _|exact impl_TripsOf.mono _ _|exact laws_lnTrips.mono _ _ _|exact spec_DrawTripsOf.mono _ _|exact spec_TripsOf.mono _ _|exact LeO.none _|refine LeO.ite ?_ ?_|refine LeO.bind ?_ (fun _=>?_)
  ·intro y0 y1 y2 y3 y4;unfold laws_FnTripsOf.j1
   repeat' first|(with_reducible exact ih0 _ _ _)|(with_reducible exact ih1 _ _ _ _ _)|(with_reducible exact ih2 _ _ _ _ _ _)|(with_reducible exact impl_TripsDo.mono _ _ _ _ _)|(with_reducible exact impl_TripsOf.mono _ _)|(with_reducible exact laws_lnTrips.mono _ _ _)|(with_reducible exact spec_DrawTripsOf.mono _ _)|(with_reducible exact spec_TripsOf.mono _ _)|(with_reducible exact LeO.refl _)|(with_reducible exact LeO.none _)|(with_reducible refine LeO.ite ?_ ?_)|(with_reducible refine LeO.bind ?_ (fun _=>?_))|exact ih0 _ _ _|exact ih1 _ _ _ _ _|exact ih2 _ _ _ _ _ _|exact impl_TripsDo.mono _ _ _ _ _|exact impl_TripsOf.mono _ _|exact laws_lnTrips.mono _ _ _|exact spec_DrawTripsOf.mono _ _|exact spec_TripsOf.mono _ _|exact LeO.none _|refine LeO.ite ?_ ?_|refine LeO.bind ?_ (fun _=>?_)
  ·intro y0 y1 y2 y3 y4 y5;unfold laws_FnTripsOf.l0
   repeat' first|(with_reducible exact ih0 _ _ _)|(with_reducible exact ih1 _ _ _ _ _)|(with_reducible exact ih2 _ _ _ _ _ _)|(with_reducible exact impl_TripsDo.mono _ _ _ _ _)|(with_reducible exact impl_TripsOf.mono _ _)|(with_reducible exact laws_lnTrips.mono _ _ _)|(with_reducible exact spec_DrawTripsOf.mono _ _)|(with_reducible exact spec_TripsOf.mono _ _)|(with_reducible exact LeO.refl _)|(with_reducible exact LeO.none _)|(with_reducible refine LeO.ite ?_ ?_)|(with_reducible refine LeO.bind ?_ (fun _=>?_))|exact ih0 _ _ _|exact ih1 _ _ _ _ _|exact ih2 _ _ _ _ _ _|exact impl_TripsDo.mono _ _ _ _ _|exact impl_TripsOf.mono _ _|exact laws_lnTrips.mono _ _ _|exact spec_DrawTripsOf.mono _ _|exact spec_TripsOf.mono _ _|exact LeO.none _|refine LeO.ite ?_ ?_|refine LeO.bind ?_ (fun _=>?_)
theorem laws_FnTripsOf.mono:∀a0 a1 k,LeO (laws_FnTripsOf.f k a0 a1) (laws_FnTripsOf.f (k+1) a0 a1):=by
 intro a0 a1 k;obtain⟨ih0,ih1,ih2⟩:=laws_FnTripsOf.mono_l k;unfold laws_FnTripsOf.f
 repeat' first|(with_reducible exact ih0 _ _ _)|(with_reducible exact ih1 _ _ _ _ _)|(with_reducible exact ih2 _ _ _ _ _ _)|(with_reducible exact impl_TripsDo.mono _ _ _ _ _)|(with_reducible exact impl_TripsOf.mono _ _)|(with_reducible exact laws_lnTrips.mono _ _ _)|(with_reducible exact spec_DrawTripsOf.mono _ _)|(with_reducible exact spec_TripsOf.mono _ _)|(with_reducible exact LeO.refl _)|(with_reducible exact LeO.none _)|(with_reducible refine LeO.ite ?_ ?_)|(with_reducible refine LeO.bind ?_ (fun _=>?_))|exact ih0 _ _ _|exact ih1 _ _ _ _ _|exact ih2 _ _ _ _ _ _|exact impl_TripsDo.mono _ _ _ _ _|exact impl_TripsOf.mono _ _|exact laws_lnTrips.mono _ _ _|exact spec_DrawTripsOf.mono _ _|exact spec_TripsOf.mono _ _|exact LeO.none _|refine LeO.ite ?_ ?_|refine LeO.bind ?_ (fun _=>?_)
set_option maxHeartbeats 8000000 in
set_option maxRecDepth 100000 in
theorem laws_FnTripsOf.calls (k:Nat) (A0:Option Addr) (c0:Nat) (l0:List Int) (A1:Option Addr) (c1:Nat) (l1:List Int) (r:Bool) (w:World) (hr0:Kd.C (Kd.int .u8) w A0 l0.length l0) (hc0:l0.length≤c0) (hr1:Kd.C (Kd.int .u8) w A1 l1.length l1) (hc1:l1.length≤c1) (h:laws_FnTripsOf.f k l0 l1=some r) :
  Calls Try.prog 3 #[.slice A0 l0.length c0,.slice A1 l1.length c1] w fun e w'=>e=.returned (.bool r)∧Below w.heap.size w w':=by
 have hu32:=Try.underlying32;have HR0:=qaf.mk hr0;have HC0:=qaf.mk hc0;clear hr0 hc0;have HR1:=qaf.mk hr1;have HC1:=qaf.mk hc1;clear hr1 hc1;have HB:=qaf.mk (Below.refl w.heap.size w);have H:(if(l0.length:Int)>1048576 then(laws_FnTripsOf.j0 k l0 l1 true) else(laws_FnTripsOf.j0 k l0 l1 (decide ((l1.length:Int)>1048576))))=some r:=h;clear h;have HC3:=qaf.mk H;clear H;go_enter Try.func3,Try.ntmps3
 go_upto_region 1 with(fail)
 go_cut [21] (fun v21 wc=>∃(kq:Nat) (x21_2:Bool),v21=.bool x21_2∧qaf (laws_FnTripsOf.j0 kq l0 l1 x21_2=some r)∧qaf (kq≤k)∧qaf (Below w.heap.size w wc))
 case first=>
  have H:=HC3.out;clear HC3;by_cases c4:(l0.length:Int)>1048576
  ·rw[if_pos c4] at H;have c4b0:decide (1048576<(l0.length:Int))=true:=decide_eq_true c4;have c4b1:decide (1048576<l0.length)=true:=decide_eq_true (by omega);clear c4;(first|rw[c4b0]|(simp only[qai,qaj];rw[c4b0])|skip);have H':=qaf.mk H;clear H;go_wp2
   go_meet
   case rel=>exact⟨_,(true),(za38),H',⟨za64⟩,⟨za2 HB⟩⟩
  ·rw[if_neg c4] at H;have c4b0:decide (1048576<(l0.length:Int))=false:=decide_eq_false c4;have c4b1:decide (1048576<l0.length)=false:=decide_eq_false (by omega);clear c4;(first|rw[c4b0]|(simp only[qai,qaj];rw[c4b0])|skip);have H':=qaf.mk H;clear H;go_wp2
   go_meet
   case rel=>exact⟨_,(decide ((l1.length:Int)>1048576)),(za38),H',⟨za64⟩,⟨za2 HB⟩⟩
 case rest=>
  clear HC3
  try clear c1
  try clear p2
  try clear c3
  try clear c4
  try clear c4b0
  try clear c4b1
  obtain⟨kq,x21_2,rfl,HA,HJ2,HB⟩:=hcut
  cases kq with
  |zero=>exact absurd HA.out (by simp[laws_FnTripsOf.j0])
  |succ kj2=>
   have H:=HA.out;clear HA;simp only[laws_FnTripsOf.j0] at H;by_cases c5:x21_2=true
   ·subst c5
    have H1:(some true)=some r:=by rw[if_pos rfl] at H;exact H
    clear H;have H:=H1;clear H1;obtain rfl:=Option.some.inj H;go_wp2;go_ret;exact⟨za12,za2 HB⟩
   ·replace c5:=Bool.eq_false_iff.mpr c5;subst c5
    have H1:((spec_DrawTripsOf.f kj2 l0).bind fun t365=>((spec_TripsOf.f kj2 t365).bind fun bt368=>((impl_TripsOf.f kj2 t365).bind fun bt372=>(if(bt372.2 != bt368.2)=true then(laws_FnTripsOf.j1 kj2 l1 t365 bt372.1 bt372.2 true) else((laws_lnTrips.f kj2 bt372.1 bt368.1).bind fun t376=>(laws_FnTripsOf.j1 kj2 l1 t365 bt372.1 bt372.2 (!t376)))))))=some r:=by rw[if_neg (show ¬(false=true) by decide)] at H;exact H
    clear H;have H:=H1;clear H1;replace H:=Option.bind_eq_some_iff.mp H;obtain⟨t365,A60,H⟩:=H;replace H:((spec_TripsOf.f kj2 t365).bind fun bt368=>((impl_TripsOf.f kj2 t365).bind fun bt372=>(if(bt372.2 != bt368.2)=true then(laws_FnTripsOf.j1 kj2 l1 t365 bt372.1 bt372.2 true) else((laws_lnTrips.f kj2 bt372.1 bt368.1).bind fun t376=>(laws_FnTripsOf.j1 kj2 l1 t365 bt372.1 bt372.2 (!t376))))))=some r:=H;have A6:=qaf.mk A60;clear A60;replace H:=Option.bind_eq_some_iff.mp H;obtain⟨⟨t368,t369⟩,A70,H⟩:=H;replace H:((impl_TripsOf.f kj2 t365).bind fun bt372=>(if(bt372.2 != t369)=true then(laws_FnTripsOf.j1 kj2 l1 t365 bt372.1 bt372.2 true) else((laws_lnTrips.f kj2 bt372.1 t368).bind fun t376=>(laws_FnTripsOf.j1 kj2 l1 t365 bt372.1 bt372.2 (!t376)))))=some r:=H;have A7:=qaf.mk A70;clear A70;replace H:=Option.bind_eq_some_iff.mp H;obtain⟨⟨t372,t373⟩,A80,H⟩:=H;replace H:(if(t373 != t369)=true then(laws_FnTripsOf.j1 kj2 l1 t365 t372 t373 true) else((laws_lnTrips.f kj2 t372 t368).bind fun t376=>(laws_FnTripsOf.j1 kj2 l1 t365 t372 t373 (!t376))))=some r:=H;have A8:=qaf.mk A80;clear A80;have HC9:=qaf.mk H;clear H
    go_upto_region 6 with(first|((with_reducible refine qag (f:=15) rfl ?_);refine zF (some 23) Try.func15 #[.slice A0 l0.length c0] ?_;(with_reducible refine(spec_DrawTripsOf.calls kj2 _ _ l0 t365 _ ?side1 ?side2 A6.out).mono ?_);(case side1=>exact zR HR0 HB);(case side2=>exact HC0.out);rintro e w10 ⟨v366,rfl,ho0,hb⟩;refine⟨_,rfl,?_⟩;have HO367:=qaf.mk (Kd.N_lower (Kd.N_mono (ok':=fun k_=>True) ho0 (fun k_ hk_=>trivial)) (qan (za2 HB)));replace HB:=qaf.mk (qad (za2 HB) hb);(try clear hb);(try clear ho0);obtain⟨Ao11,co11,eo11⟩:=Kd.N_slice HO367.out;subst eo11)|((with_reducible refine qag (f:=16) rfl ?_);refine zF (some 26) Try.func16 #[.slice Ao11 t365.length co11] ?_;(with_reducible refine(spec_TripsOf.calls kj2 _ _ t365 t368 t369 _ ?side1 ?side2 A7.out).mono ?_);(case side1=>repeat(first|exact(Kd.N_reads' HO367.out).2.2|(with_reducible refine Kd.C_alloc ?_ _)|(with_reducible refine Kd.C_drewN ?_ _)|(with_reducible refine Kd.C_drew ?_)));(case side2=>exact(Kd.N_reads' HO367.out).2.1);rintro e w12 ⟨v370,rfl,ho0,hb⟩;refine⟨_,rfl,?_⟩;have HO371:=qaf.mk (Kd.N_lower (Kd.N_mono (ok':=fun k_=>some k_≠(.slice Ao11 t365.length co11:Value).ownBlock) (Kd.S_N (Kd.S_bound ho0)) (fun k_ hk_=>(Kd.fresh' (Kd.N_lt (za39 HO367)) k_ hk_.2.1))) (qan (za2 HB)));replace HO367:=qaf.mk (Kd.N_elder' (za39 HO367) (by first|exact Kd.N_base ho0|exact Kd.S_base ho0|exact Kd.R_base ho0) hb);replace HB:=qaf.mk (qad (za2 HB) hb);(try clear hb);(try clear ho0))|((with_reducible refine qag (f:=17) rfl ?_);refine zF (some 31) Try.func17 #[.slice Ao11 t365.length co11] ?_;(with_reducible refine(impl_TripsOf.calls kj2 _ _ t365 t372 t373 _ ?side1 ?side2 A8.out).mono ?_);(case side1=>repeat(first|exact(Kd.N_reads' HO367.out).2.2|(with_reducible refine Kd.C_alloc ?_ _)|(with_reducible refine Kd.C_drewN ?_ _)|(with_reducible refine Kd.C_drew ?_)));(case side2=>exact(Kd.N_reads' HO367.out).2.1);rintro e w13 ⟨v374,rfl,ho0,hb⟩;refine⟨_,rfl,?_⟩;have HO375:=qaf.mk (Kd.N_lower (Kd.N_mono (ok':=fun k_=>some k_≠(.slice Ao11 t365.length co11:Value).ownBlock∧some k_≠(v370:Value).ownBlock) (Kd.S_N (Kd.S_bound ho0)) (fun k_ hk_=>⟨(Kd.fresh' (Kd.N_lt (za39 HO367)) k_ hk_.2.1),(Kd.fresh' (Kd.N_lt (za39 HO371)) k_ hk_.2.1)⟩)) (qan (za2 HB)));replace HO367:=qaf.mk (Kd.N_elder' (za39 HO367) (by first|exact Kd.N_base ho0|exact Kd.S_base ho0|exact Kd.R_base ho0) hb);replace HO371:=qaf.mk (Kd.N_elder' (za39 HO371) (by first|exact Kd.N_base ho0|exact Kd.S_base ho0|exact Kd.R_base ho0) hb);replace HB:=qaf.mk (qad (za2 HB) hb);(try clear hb);(try clear ho0)))
    (try simp only[Act.put,List.setIfInBounds_toArray,List.set_cons_zero,List.set_cons_succ])
    go_cut [42] (fun v42 wc=>∃(kq:Nat) (x42_8:Bool),v42=.bool x42_8∧qaf (laws_FnTripsOf.j1 kq l1 t365 t372 t373 x42_8=some r)∧qaf (kq≤kj2)∧qaf (Kd.N k32 32 wc w.heap.size (fun k_=>some k_≠(v374:Value).ownBlock) (.slice Ao11 t365.length co11) t365)∧qaf (Kd.N k81 81 wc w.heap.size (fun k_=>some k_≠((.slice Ao11 t365.length co11):Value).ownBlock) v374 t372)∧qaf (Below w.heap.size w wc))
    case first=>
     have H:=HC9.out;clear HC9;by_cases c14:(t373 != t369)=true
     ·rw[if_pos c14] at H;have c14b0:(t373 != t369)=true:=c14;(try(have c14b1:decide (t373=t369)=false:=by simpa using c14));(try(have c14b2:(t373 == t369)=false:=by simpa using c14));(try(have c14b3:¬(t373=t369):=by simpa using c14));clear c14;(first|rw[c14b0]|(simp only[qai,qaj];rw[c14b0])|skip);have H':=qaf.mk H;clear H;go_wp2
      go_meet
      case rel=>exact⟨_,(true),(za38),H',⟨za66 HJ2⟩,⟨by(with_reducible repeat(first|apply Kd.N_alloc|apply Kd.N_drewN|apply Kd.N_drew));exact Kd.N_mono HO367.out (fun _ hk=>hk.2)⟩,⟨by(with_reducible repeat(first|apply Kd.N_alloc|apply Kd.N_drewN|apply Kd.N_drew));exact Kd.N_mono HO375.out (fun _ hk=>hk.1)⟩,⟨za2 HB⟩⟩
     ·rw[if_neg c14] at H
      have c14b0:(t373 != t369)=false:=by simpa using c14
      (try(have c14b1:decide (t373=t369)=true:=by simpa using c14));(try(have c14b2:(t373 == t369)=true:=by simpa using c14));clear c14;(first|rw[c14b0]|(simp only[qai,qaj];rw[c14b0])|skip);replace H:=Option.bind_eq_some_iff.mp H;obtain⟨t376,A150,H⟩:=H;replace H:(laws_FnTripsOf.j1 kj2 l1 t365 t372 t373 (!t376))=some r:=H;have A15:=qaf.mk A150;clear A150;have H':=qaf.mk H;clear H;obtain⟨Ao16,co16,eo16⟩:=Kd.N_slice HO375.out;subst eo16;obtain⟨Ao17,co17,eo17⟩:=Kd.N_slice HO371.out;subst eo17
      go_wp2_with(first|(go_at_call 18;(with_reducible refine(laws_lnTrips.calls kj2 _ _ t372 _ _ t368 t376 _ ?side1 ?side2 ?side3 ?side4 A15.out).mono ?_);(case side1=>repeat(first|exact(Kd.N_reads' HO375.out).2.2|(with_reducible refine Kd.C_alloc ?_ _)|(with_reducible refine Kd.C_drewN ?_ _)|(with_reducible refine Kd.C_drew ?_)));(case side2=>exact(Kd.N_reads' HO375.out).2.1);(case side3=>repeat(first|exact(Kd.N_reads' HO371.out).2.2|(with_reducible refine Kd.C_alloc ?_ _)|(with_reducible refine Kd.C_drewN ?_ _)|(with_reducible refine Kd.C_drew ?_)));(case side4=>exact(Kd.N_reads' HO371.out).2.1);rintro e w' ⟨rfl,⟨nd,rfl⟩⟩))
      go_meet
      case rel=>exact⟨_,(!t376),(za38),H',⟨za66 HJ2⟩,⟨by(with_reducible repeat(first|apply Kd.N_alloc|apply Kd.N_drewN|apply Kd.N_drew));exact Kd.N_mono HO367.out (fun _ hk=>hk.2)⟩,⟨by(with_reducible repeat(first|apply Kd.N_alloc|apply Kd.N_drewN|apply Kd.N_drew));exact Kd.N_mono HO375.out (fun _ hk=>hk.1)⟩,⟨za2 HB⟩⟩
    case rest=>
     clear HC9
     try clear c1
     try clear p2
     try clear c3
     try clear c4
     try clear c4b0
     try clear c4b1
     try clear c5
     try clear c14
     try clear c14b0
     try clear c14b1
     try clear c14b2
     try clear c15
     try clear c16
     try clear c17
     try clear p2
     obtain⟨kq,x42_8,rfl,HA,HJ8,HO_5,HO_8,HB⟩:=hcut
     cases kq with
     |zero=>exact absurd HA.out (by simp[laws_FnTripsOf.j1])
     |succ kj8=>
      have H:=HA.out;clear HA;simp only[laws_FnTripsOf.j1] at H;by_cases c18:x42_8=true
      ·subst c18
       have H1:(some false)=some r:=by rw[if_pos rfl] at H;exact H
       clear H;have H:=H1;clear H1;obtain rfl:=Option.some.inj H;go_wp2;go_ret;exact⟨za12,za2 HB⟩
      ·replace c18:=Bool.eq_false_iff.mpr c18;subst c18
       have H1:(if(wrap64 ((t365.length:Int)+1))=0 then(none) else(if 0≤((l1.length:Int)%(wrap64 ((t365.length:Int)+1))) then(if((l1.length:Int)%(wrap64 ((t365.length:Int)+1)))≤(t365.length:Int) then((impl_TripsOf.f kj8 (t365.take (((l1.length:Int)%(wrap64 ((t365.length:Int)+1))):Int).toNat)).bind fun bt382=>(laws_FnTripsOf.l0 kj8 t365 t372 t373 bt382.1 bt382.2 ((l1.length:Int)%(wrap64 ((t365.length:Int)+1))))) else(none)) else(none)))=some r:=by rw[if_neg (show ¬(false=true) by decide)] at H;exact H
       clear H;have H:=H1;clear H1;by_cases c19:(wrap64 ((t365.length:Int)+1))=0
       ·rw[if_pos c19] at H;exact absurd H (by simp)
       ·rw[if_neg c19] at H;have c19b0:((wrap64 ((t365.length:Int)+1)) == 0)=false:=beq_eq_false_iff_ne.mpr c19;have c19b1:((wrap64 ((t365.length:Int)+1)) != 0)=true:=bne_iff_ne.mpr c19;obtain⟨ji20,hji20⟩:∃j_:Int,((l1.length:Int)%(wrap64 ((t365.length:Int)+1)))=j_:=⟨_,rfl⟩
        replace H:(if 0≤(ji20) then(if(ji20)≤(t365.length:Int) then((impl_TripsOf.f kj8 (t365.take ((ji20):Int).toNat)).bind fun bt382=>(laws_FnTripsOf.l0 kj8 t365 t372 t373 bt382.1 bt382.2 ji20)) else(none)) else(none))=some r:=by first|(rw[hji20] at H;exact H)|(simp only[hji20] at H ⊢;exact H)
        by_cases c21:0≤(ji20)
        ·rw[if_pos c21] at H;have c21b0:=eq_true c21;have c21b1:decide (0≤(ji20))=true:=decide_eq_true c21;clear c21;by_cases c22:(ji20)≤(t365.length:Int)
         ·rw[if_pos c22] at H;have c22b0:=eq_true c22;have c22b1:decide ((ji20)≤(t365.length:Int))=true:=decide_eq_true c22;clear c22;obtain⟨y377,hy377⟩:∃y_:List (S32),y_=(t365.take ((ji20):Int).toNat):=⟨_,rfl⟩
          replace H:((impl_TripsOf.f kj8 y377).bind fun bt382=>(laws_FnTripsOf.l0 kj8 t365 t372 t373 bt382.1 bt382.2 ji20))=some r:=by first|(rw[hy377];with_reducible exact H)|(have H2_:=(Option.bind_some _ _).symm.trans H;rw[hy377];with_reducible exact H2_)|(have H2_:=(Option.bind_some _ _).symm.trans H;with_reducible exact H2_)|with_reducible exact H|(rw[hy377];exact H)|exact H
          have Ny377:=qaf.mk hy377;clear hy377;replace H:=Option.bind_eq_some_iff.mp H;obtain⟨⟨t382,t383⟩,A230,H⟩:=H;replace H:(laws_FnTripsOf.l0 kj8 t365 t372 t373 t382 t383 ji20)=some r:=H;have A23:=qaf.mk A230;clear A230;have H':=qaf.mk H;clear H;have q24:((ji20):Int)≤((t365.length:Int):Int):=of_decide_eq_true (za10);obtain⟨i024,hi024,_,hsz24,_⟩:=info_parts info32;have hroom24:t365.length≤co11:=(Kd.N_reads' HO_5.out).2.1;have hC24:Kd.F k32 _ _ Ao11 t365.length t365:=(Kd.V_at (base:=w.heap.size) (Kd.N_V HO_5.out)).2.2;have hcut24:=cut_to (P:=Try.prog) 23 32 .i64 Try.underlying23 hi024 Ao11 t365.length co11 (ji20) (of_decide_eq_true (za10)) q24 hroom24;have hr24:=Kd.F_take (m:=((ji20):Int).toNat) hC24 (by omega);have hy24:y377.length=((ji20):Int).toNat:=(by rw[Ny377.out,List.length_take];omega);rw[←Ny377.out] at hr24;rw[←hy24] at hcut24;have HO381:=qaf.mk (show Kd.V k32 32 _ w.heap.size _ (.slice Ao11 y377.length co11) y377 from Kd.V_mk (by omega) hr24);have HC381:=qaf.mk (show y377.length≤co11 from by omega);clear hr24 hC24 hroom24 hi024 hsz24;have KY24:=qaf.mk hy24;clear hy24;replace q24:=eq_true q24
          go_wp2_with(first|((with_reducible refine qag (f:=17) rfl ?_);refine zF (some 53) Try.func17 #[.slice Ao11 y377.length co11] ?_;(with_reducible refine(impl_TripsOf.calls kj8 _ _ y377 t382 t383 _ ?side1 ?side2 A23.out).mono ?_);(case side1=>repeat(first|exact(Kd.V_reads' HO381.out).2.2|(with_reducible refine Kd.C_alloc ?_ _)|(with_reducible refine Kd.C_drewN ?_ _)|(with_reducible refine Kd.C_drew ?_)));(case side2=>exact(Kd.V_reads' HO381.out).2.1);rintro e w25 ⟨v384,rfl,ho0,hb⟩;refine⟨_,rfl,?_⟩;replace HO381:=qaf.mk (Kd.V_elder' (za25 HO381) (by first|exact Kd.N_base ho0|exact Kd.S_base ho0|exact Kd.R_base ho0) hb);have HO385:=qaf.mk (Kd.N_lower (Kd.N_mono (ok':=fun k_=>some k_≠(.slice Ao11 t365.length co11:Value).ownBlock∧some k_≠(v374:Value).ownBlock) (Kd.S_N (Kd.S_bound ho0)) (fun k_ hk_=>⟨(Kd.fresh' (Kd.N_lt (za39 HO_5)) k_ hk_.2.1),(Kd.fresh' (Kd.N_lt (za39 HO_8)) k_ hk_.2.1)⟩)) (qan (za2 HB)));replace HO_5:=qaf.mk (Kd.N_elder' (za39 HO_5) (by first|exact Kd.N_base ho0|exact Kd.S_base ho0|exact Kd.R_base ho0) hb);replace HO_8:=qaf.mk (Kd.N_elder' (za39 HO_8) (by first|exact Kd.N_base ho0|exact Kd.S_base ho0|exact Kd.R_base ho0) hb);replace HB:=qaf.mk (qad (za2 HB) hb);(try clear hb);(try clear ho0)))
          go_loopg [11,12,13] kj8 (fun kq v11 v12 v13 w'=>∃(x11_3:List (S81)) (x12_3:Bool) (x13_3:Int),v12=.bool x12_3∧v13=.int .i64 x13_3∧qaf (laws_FnTripsOf.l0 kq t365 t372 t373 x11_3 x12_3 x13_3=some r)∧qaf (kq≤kj8)∧qaf (Kd.N k32 32 w' w.heap.size (fun k_=>some k_≠(v374:Value).ownBlock∧some k_≠(v11:Value).ownBlock) (.slice Ao11 t365.length co11) t365)∧qaf (Kd.N k81 81 w' w.heap.size (fun k_=>some k_≠((.slice Ao11 t365.length co11):Value).ownBlock∧some k_≠(v11:Value).ownBlock) v374 t372)∧qaf (Kd.N k81 81 w' w.heap.size (fun k_=>some k_≠((.slice Ao11 t365.length co11):Value).ownBlock∧some k_≠(v374:Value).ownBlock) v11 x11_3)∧qaf (Below w.heap.size w w'))
          case atStart=>exact⟨(t382),(t383),(ji20),(za38),(by first|rfl|(simp;done)|(simp only[←hji20]<;>(first|rfl|simp))|(simp[*];done)),H',⟨Nat.le_refl _⟩,⟨za39 HO_5⟩,⟨za39 HO_8⟩,⟨za39 HO385⟩,⟨za2 HB⟩⟩
          case round=>
           clear H'
           try clear c1
           try clear c2
           try clear p2
           try clear q2
           try clear c3
           try clear c4
           try clear c4b0
           try clear c4b1
           try clear c5
           try clear p6
           try clear c14
           try clear c14b0
           try clear c14b1
           try clear c14b2
           try clear c15
           try clear c16
           try clear c17
           try clear c18
           try clear c19
           try clear c19b0
           try clear c19b1
           try clear c21
           try clear c21b0
           try clear c21b1
           try clear c22
           try clear c22b0
           try clear c22b1
           try clear q24
           try clear p2
           try clear q24
           obtain⟨x11_3,x12_3,x13_3,rfl,rfl,HA,HK3,HO_5,HO_8,HO_11,HB⟩:=hrel
           cases gk with
           |zero=>exact absurd HA.out (by simp[laws_FnTripsOf.l0])
           |succ k3=>
            have H:=HA.out;clear HA;simp only[laws_FnTripsOf.l0] at H;by_cases c26:x13_3<(t365.length:Int)
            ·rw[if_pos c26] at H;have c26b0:decide (x13_3<(t365.length:Int))=true:=decide_eq_true c26;clear c26;by_cases c27:x12_3=true
             ·subst c27
              have H1:(if 0≤x13_3 then((impl_TripsDo.f k3 x11_3 ((rd_T32 t365 x13_3).f0) ((rd_T32 t365 x13_3).f1) ((rd_T32 t365 x13_3).f2)).bind fun bt387=>(laws_FnTripsOf.l0 k3 t365 t372 t373 bt387.1 bt387.2 (wrap64 (x13_3+1)))) else(none))=some r:=by rw[if_pos rfl] at H;exact H
              clear H;have H:=H1;clear H1;by_cases c28:0≤x13_3
              ·rw[if_pos c28] at H;have c28b0:decide (0≤x13_3)=true:=decide_eq_true c28;clear c28;replace H:=Option.bind_eq_some_iff.mp H;obtain⟨⟨t387,t390⟩,A290,H⟩:=H;replace H:(laws_FnTripsOf.l0 k3 t365 t372 t373 t387 t390 (wrap64 (x13_3+1)))=some r:=H;have A29:=qaf.mk A290;clear A290;have H':=qaf.mk H;clear H;have p386:0≤(x13_3:Int):=of_decide_eq_true (za10);have q386:x13_3<(t365.length:Int):=of_decide_eq_true (za10);obtain⟨ad386,A386_2,c386_2,e386,hx386_0,hx386_1,hx386_2,hl386_2,hi386_2⟩:=at_T32 (Kd.N_reads' HO_5.out).2.2 x13_3 p386 q386
               cases e386
               obtain⟨ce386,hce386,hMe386,hcc386⟩:=Kd.N_get HO_5.out z32 x13_3 p386 (by first|exact q386|exact of_decide_eq_true (za10)|(have e_:=(Kd.N_reads' HO_5.out).1;omega));obtain⟨ua386_2,uc386_2,rfl,ul386_2,ge386_2⟩:=k32_openF hMe386;have hv386_2:=hcc386 2 _ rfl;rw[add_field _ _ 2 (by omega)] at hv386_2;replace hv386_2:=Option.some.inj (hv386_2.symm.trans hx386_2)
               injection hv386_2 with hva_ hvn_ hvc_
               rw[hva_] at ge386_2;rw[hvc_] at ul386_2;have HL386_2:=qaf.mk (show Kd.V (Kd.int .i64) 3 _ w.heap.size _ _ ((rd_T32 t365 x13_3).f2) from Kd.V_mk ul386_2 ge386_2);clear hva_ hvn_ hvc_ ge386_2 ul386_2;clear hcc386 hce386;have HR386_2:=qaf.mk hi386_2;have HC386_2:=qaf.mk hl386_2;clear hi386_2 hl386_2;replace p386:=eq_true p386;replace q386:=eq_true q386;obtain⟨Ao30,co30,eo30⟩:=Kd.N_slice HO_11.out;subst eo30
               go_wp2_with(first|((with_reducible refine qag (f:=19) rfl ?_);refine zF (some 70) Try.func19 #[.slice Ao30 x11_3.length co30,.agg #[.int .i64 ((rd_T32 t365 x13_3).f0),.int .i64 ((rd_T32 t365 x13_3).f1),.slice A386_2 ((rd_T32 t365 x13_3).f2).length c386_2]] ?_;(with_reducible refine(impl_TripsDo.calls k3 _ _ x11_3 ((rd_T32 t365 x13_3).f0) ((rd_T32 t365 x13_3).f1) _ _ ((rd_T32 t365 x13_3).f2) t387 t390 _ ?side1 ?side2 ?side3 ?side4 A29.out).mono ?_);(case side1=>repeat(first|exact(Kd.N_reads' HO_11.out).2.2|(with_reducible refine Kd.C_alloc ?_ _)|(with_reducible refine Kd.C_drewN ?_ _)|(with_reducible refine Kd.C_drew ?_)));(case side2=>exact(Kd.N_reads' HO_11.out).2.1);(case side3=>repeat(first|exact(za67 HR386_2)|(with_reducible refine Kd.C_alloc ?_ _)|(with_reducible refine Kd.C_drewN ?_ _)|(with_reducible refine Kd.C_drew ?_)));(case side4=>exact HC386_2.out);rintro e w31 ⟨v388,rfl,ho0,hb⟩;refine⟨_,rfl,?_⟩;replace HL386_2:=qaf.mk (Kd.V_elder' (za25 HL386_2) (by first|exact Kd.N_base ho0|exact Kd.S_base ho0|exact Kd.R_base ho0) hb);have HO389:=qaf.mk (Kd.N_lower (Kd.N_mono (ok':=fun k_=>some k_≠(.slice (some ad386) t365.length co11:Value).ownBlock∧some k_≠(v374:Value).ownBlock∧some k_≠(.slice Ao30 x11_3.length co30:Value).ownBlock) (Kd.S_N (Kd.S_bound ho0)) (fun k_ hk_=>⟨(Kd.fresh' (Kd.N_lt (za39 HO_5)) k_ hk_.2.1),(Kd.fresh' (Kd.N_lt (za39 HO_8)) k_ hk_.2.1),(Kd.fresh' (Kd.N_lt (za39 HO_11)) k_ hk_.2.1)⟩)) (qan (za2 HB)));replace HO_5:=qaf.mk (Kd.N_elder' (za39 HO_5) (by first|exact Kd.N_base ho0|exact Kd.S_base ho0|exact Kd.R_base ho0) hb);replace HO_8:=qaf.mk (Kd.N_elder' (za39 HO_8) (by first|exact Kd.N_base ho0|exact Kd.S_base ho0|exact Kd.R_base ho0) hb);replace HO_11:=qaf.mk (Kd.N_elder' (za39 HO_11) (by first|exact Kd.N_base ho0|exact Kd.S_base ho0|exact Kd.R_base ho0) hb);replace HR386_2:=qaf.mk (Kd.C_below (za67 HR386_2) hb);replace HB:=qaf.mk (qad (za2 HB) hb);(try clear hb);(try clear ho0)))
               go_roundg k3
               case measure=>have:=HJ2.out;have:=HJ8.out;have:=HK3.out;omega
               case rel=>exact⟨(t387),(t390),(wrap64 (x13_3+1)),(za38),(za38),H',⟨by have:=HJ2.out;have:=HJ8.out;have:=HK3.out;omega⟩,⟨by(with_reducible repeat(first|apply Kd.N_alloc|apply Kd.N_drewN|apply Kd.N_drew));exact Kd.N_mono HO_5.out (fun _ hk=>⟨hk.1.1,hk.2⟩)⟩,⟨by(with_reducible repeat(first|apply Kd.N_alloc|apply Kd.N_drewN|apply Kd.N_drew));exact Kd.N_mono HO_8.out (fun _ hk=>⟨hk.1.1,hk.2⟩)⟩,⟨by(with_reducible repeat(first|apply Kd.N_alloc|apply Kd.N_drewN|apply Kd.N_drew));exact Kd.N_mono HO389.out (fun _ hk=>⟨hk.1,hk.2.1⟩)⟩,⟨za2 HB⟩⟩
              ·rw[if_neg c28] at H;exact absurd H (by simp)
             ·replace c27:=Bool.eq_false_iff.mpr c27;subst c27
              have H1:(laws_FnTripsOf.l0 k3 t365 t372 t373 x11_3 false (wrap64 (x13_3+1)))=some r:=by rw[if_neg (show ¬(false=true) by decide)] at H;exact H
              clear H;have H:=H1;clear H1;have H':=qaf.mk H;clear H;go_wp2
              go_roundg k3
              case measure=>have:=HJ2.out;have:=HJ8.out;have:=HK3.out;omega
              case rel=>exact⟨(x11_3),(false),(wrap64 (x13_3+1)),(za38),(za38),H',⟨by have:=HJ2.out;have:=HJ8.out;have:=HK3.out;omega⟩,⟨za39 HO_5⟩,⟨za39 HO_8⟩,⟨za39 HO_11⟩,⟨za2 HB⟩⟩
            ·rw[if_neg c26] at H;have c26b0:decide (x13_3<(t365.length:Int))=false:=decide_eq_false c26;clear c26;by_cases c32:(x12_3 == t373)=true
             ·rw[if_pos c32] at H;have c32b0:(x12_3 == t373)=true:=c32;(try(have c32b1:decide (x12_3=t373)=true:=by simpa using c32));(try(have c32b2:(x12_3 == t373)=true:=by simpa using c32));clear c32;by_cases c33:t373=true
              ·subst c33
               have H1:((laws_lnTrips.f k3 x11_3 t372).bind fun t391=>(some t391))=some r:=by rw[if_pos rfl] at H;exact H
               clear H;have H:=H1;clear H1;replace H:=Option.bind_eq_some_iff.mp H;obtain⟨t391,A340,H⟩:=H;replace H:(some t391)=some r:=H;have A34:=qaf.mk A340;clear A340;obtain rfl:=Option.some.inj H;obtain⟨Ao35,co35,eo35⟩:=Kd.N_slice HO_11.out;subst eo35;obtain⟨Ao36,co36,eo36⟩:=Kd.N_slice HO_8.out;subst eo36
               go_wp2_with(first|(go_at_call 18;(with_reducible refine(laws_lnTrips.calls k3 _ _ x11_3 _ _ t372 t391 _ ?side1 ?side2 ?side3 ?side4 A34.out).mono ?_);(case side1=>repeat(first|exact(Kd.N_reads' HO_11.out).2.2|(with_reducible refine Kd.C_alloc ?_ _)|(with_reducible refine Kd.C_drewN ?_ _)|(with_reducible refine Kd.C_drew ?_)));(case side2=>exact(Kd.N_reads' HO_11.out).2.1);(case side3=>repeat(first|exact(Kd.N_reads' HO_8.out).2.2|(with_reducible refine Kd.C_alloc ?_ _)|(with_reducible refine Kd.C_drewN ?_ _)|(with_reducible refine Kd.C_drew ?_)));(case side4=>exact(Kd.N_reads' HO_8.out).2.1);rintro e w' ⟨rfl,⟨nd,rfl⟩⟩))
               go_ret;exact⟨by first|rfl|(simp[qaq,qap]<;>rfl)|(simp only[←hji20];first|rfl|(simp[qaq,qap]<;>rfl))|(simp[*,qaq,qap]<;>rfl),za2 HB⟩
              ·replace c33:=Bool.eq_false_iff.mpr c33;subst c33
               have H1:(some true)=some r:=by rw[if_neg (show ¬(false=true) by decide)] at H;exact H
               clear H;have H:=H1;clear H1;obtain rfl:=Option.some.inj H;go_wp2;go_ret;exact⟨by first|rfl|(simp[qaq,qap]<;>rfl)|(simp only[←hji20];first|rfl|(simp[qaq,qap]<;>rfl))|(simp[*,qaq,qap]<;>rfl),za2 HB⟩
             ·rw[if_neg c32] at H
              have c32b0:(x12_3 == t373)=false:=by simpa using c32
              (try(have c32b1:decide (x12_3=t373)=false:=by simpa using c32));(try(have c32b2:(x12_3 == t373)=false:=by simpa using c32));(try(have c32b3:¬(x12_3=t373):=by simpa using c32));clear c32;obtain rfl:=Option.some.inj H;go_wp2;go_ret;exact⟨by first|rfl|(simp[qaq,qap]<;>rfl)|(simp only[←hji20];first|rfl|(simp[qaq,qap]<;>rfl))|(simp[*,qaq,qap]<;>rfl),za2 HB⟩
         ·rw[if_neg c22] at H;exact absurd H (by simp)
        ·rw[if_neg c21] at H;exact absurd H (by simp)
def laws_FnTripsOf.Pure:Prop:=∀(l0:List Int) (l1:List Int),l0.length≤maxLen→l0.length*1≤140737488351232→(∀x ∈ l0,(Lit.int .u8 x).wf=true)→l1.length≤maxLen→l1.length*1≤140737488351232→(∀x ∈ l1,(Lit.int .u8 x).wf=true)→∃k,laws_FnTripsOf.f k l0 l1=some true
theorem laws_FnTripsOf.walk (P:laws_FnTripsOf.Pure) (a0:Option Addr) (len0 cap0:Nat) (z0:List Int) (a1:Option Addr) (len1 cap1:Nat) (z1:List Int) (w:World) (w0:(a0=none∧len0=0∧cap0=0∧z0=[])∨∃x,a0=some x∧len0≤cap0∧cap0≤maxLen∧z0.length=cap0∧(∀i,i<z0.length→w.cell? (x.add i)=some (.int .u8 (z0.getD i 0)))∧∀n ∈ z0,(Lit.int .u8 n).wf=true) (y0:len0*1≤140737488351232) (w1:(a1=none∧len1=0∧cap1=0∧z1=[])∨∃x,a1=some x∧len1≤cap1∧cap1≤maxLen∧z1.length=cap1∧(∀i,i<z1.length→w.cell? (x.add i)=some (.int .u8 (z1.getD i 0)))∧∀n ∈ z1,(Lit.int .u8 n).wf=true) (y1:len1*1≤140737488351232) :
  Calls Try.prog 3 #[.slice a0 len0 cap0,.slice a1 len1 cap1] w fun e w'=>e=.returned (.bool true)∧Below w.heap.size w w':=by
 obtain⟨l0,rfl,hr0,hm0,hw0,hc0⟩:=ReadsInt.ofRowC w0;obtain⟨l1,rfl,hr1,hm1,hw1,hc1⟩:=ReadsInt.ofRowC w1;obtain⟨k,h⟩:=P l0 l1 hm0 y0 hw0 hm1 y1 hw1;refine(laws_FnTripsOf.calls k _ _ l0 _ _ l1 true w (Kd.C_of_reads (d:=(0:Int)) (h1:=fun _=>rfl) hr0) hc0 (Kd.C_of_reads (d:=(0:Int)) (h1:=fun _=>rfl) hr1) hc1 h).mono ?_;rintro e w' ⟨rfl,hd⟩;exact⟨rfl,hd⟩
end Go.Proofs.Ytmbdphefnalenaa.Print
