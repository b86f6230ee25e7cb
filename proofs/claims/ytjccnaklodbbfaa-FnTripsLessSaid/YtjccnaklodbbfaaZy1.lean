-- Written by squeeze.py: not trusted, Lean checks it.
import Derived.Test.YtjccnaklodbbfaaZK
import Derived.Test.YtjccnaklodbbfaaZv0
import Derived.Test.YtjccnaklodbbfaaZy0
namespace Go.Proofs.Ytjccnaklodbbfaa.Print
open Go.RowKit Go.Proofs.YtjccnaklodbbfaaW.PrintWords Go.Proofs.YtjccnaklodbbfaaW.PrintLast Go.Proofs.YtjccnaklodbbfaaW.PrintMore
attribute [local go_sem] max2_int min2_int max_two min_two max_three min_three max_four min_four
set_option linter.unusedVariables false
set_option linter.unusedSimpArgs false
mutual
def laws_FnTripsLess.j0:Nat→List Int→List Int→Bool→Option (Bool)
 |0,_,_,_=>none
 |k+1,x0,x1,x17=>if x17=true then(some true) else((spec_DrawTripsOk.f k x0).bind fun t917=>((impl_TripsOk.f t917).bind fun t920=>((spec_TripsOk.f k t917).bind fun t921=>(if(t920 != t921)=true then(laws_FnTripsLess.j1 k x1 t917 t920 true) else(if t920=true then(laws_FnTripsLess.j1 k x1 t917 t920 ((t917.length:Int) == 0)) else(laws_FnTripsLess.j1 k x1 t917 t920 true))))))
def laws_FnTripsLess.j1:Nat→List Int→List (S73)→Bool→Bool→Option (Bool)
 |0,_,_,_,_=>none
 |k+1,x1,x5,x6,x34=>if x34=true then((spec_TripsOk.f k x5).bind fun t922=>(some (x6 == t922))) else(if(x5.length:Int)=0 then(none) else((some (([]:List (S73)):List (S73))).bind fun y923=>(if 0≤((x1.length:Int)%(x5.length:Int)) then(if((x1.length:Int)%(x5.length:Int))≤(x5.length:Int) then((some (x5.take (((x1.length:Int)%(x5.length:Int)):Int).toNat:List (S73))).bind fun y926=>(if y923.length+y926.length<4398046511104 then((some (y923++y926:List (S73))).bind fun y931=>(if y931.length<4398046511104 then((some (([]:List (S73)):List (S73))).bind fun y940=>(if y940.length+y926.length<4398046511104 then((some (y940++y926:List (S73))).bind fun y948=>(if y948.length<4398046511104 then((impl_TripsOk.f y926).bind fun t962=>(if t962=true then((impl_TripsOk.f (y931++[(⟨(([0,0,0]:List Int)),1⟩:S73)])).bind fun t963=>(if t963=true then(some false) else((impl_TripsOk.f (y948++[(⟨(([1,0,0]:List Int)),0⟩:S73)])).bind fun t964=>(some (!t964))))) else(some false))) else(none))) else(none))) else(none))) else(none))) else(none)) else(none))))
end
def laws_FnTripsLess.f (k:Nat) (l0:List Int) (l1:List Int):Option (Bool):=if(l0.length:Int)>1048576 then(laws_FnTripsLess.j0 k l0 l1 true) else(laws_FnTripsLess.j0 k l0 l1 (decide ((l1.length:Int)>1048576)))
theorem laws_FnTripsLess.mono_l:∀k,(∀y0 y1 y2,LeO (laws_FnTripsLess.j0 k y0 y1 y2) (laws_FnTripsLess.j0 (k+1) y0 y1 y2))∧(∀y0 y1 y2 y3,LeO (laws_FnTripsLess.j1 k y0 y1 y2 y3) (laws_FnTripsLess.j1 (k+1) y0 y1 y2 y3))
 |0=>⟨fun _ _ _ r h=>by simp[laws_FnTripsLess.j0] at h,fun _ _ _ _ r h=>by simp[laws_FnTripsLess.j1] at h⟩
 |k+1=>by
  obtain⟨ih0,ih1⟩:=laws_FnTripsLess.mono_l k
  refine⟨?_,?_⟩
  ·intro y0 y1 y2
   unfold laws_FnTripsLess.j0
   repeat' first
   |(with_reducible exact ih0 _ _ _)
   |(with_reducible exact ih1 _ _ _ _)
   |(with_reducible exact spec_DrawTripsOk.mono _ _)
   |(with_reducible exact spec_TripsOk.mono _ _)
   |(with_reducible exact LeO.refl _)
   |(with_reducible exact LeO.none _)
   |(with_reducible refine LeO.ite ?_ ?_)
   |(with_reducible refine LeO.bind ?_ (fun _=>?_))
   |exact ih0 _ _ _
   |exact ih1 _ _ _ _
   |exact spec_DrawTripsOk.mono _ _
   |exact spec_TripsOk.mono _ _
   |exact LeO.none _
   |refine LeO.ite ?_ ?_
   |refine LeO.bind ?_ (fun _=>?_)
  ·intro y0 y1 y2 y3
   unfold laws_FnTripsLess.j1
   repeat' first
   |(with_reducible exact ih0 _ _ _)
   |(with_reducible exact ih1 _ _ _ _)
   |(with_reducible exact spec_DrawTripsOk.mono _ _)
   |(with_reducible exact spec_TripsOk.mono _ _)
   |(with_reducible exact LeO.refl _)
   |(with_reducible exact LeO.none _)
   |(with_reducible refine LeO.ite ?_ ?_)
   |(with_reducible refine LeO.bind ?_ (fun _=>?_))
   |exact ih0 _ _ _
   |exact ih1 _ _ _ _
   |exact spec_DrawTripsOk.mono _ _
   |exact spec_TripsOk.mono _ _
   |exact LeO.none _
   |refine LeO.ite ?_ ?_
   |refine LeO.bind ?_ (fun _=>?_)
theorem laws_FnTripsLess.mono:∀a0 a1 k,LeO (laws_FnTripsLess.f k a0 a1) (laws_FnTripsLess.f (k+1) a0 a1):=by
 intro a0 a1 k
 obtain⟨ih0,ih1⟩:=laws_FnTripsLess.mono_l k
 unfold laws_FnTripsLess.f
 repeat' first
   |(with_reducible exact ih0 _ _ _)
   |(with_reducible exact ih1 _ _ _ _)
   |(with_reducible exact spec_DrawTripsOk.mono _ _)
   |(with_reducible exact spec_TripsOk.mono _ _)
   |(with_reducible exact LeO.refl _)
   |(with_reducible exact LeO.none _)
   |(with_reducible refine LeO.ite ?_ ?_)
   |(with_reducible refine LeO.bind ?_ (fun _=>?_))
   |exact ih0 _ _ _
   |exact ih1 _ _ _ _
   |exact spec_DrawTripsOk.mono _ _
   |exact spec_TripsOk.mono _ _
   |exact LeO.none _
   |refine LeO.ite ?_ ?_
   |refine LeO.bind ?_ (fun _=>?_)
set_option maxHeartbeats 8000000 in
set_option maxRecDepth 100000 in
theorem laws_FnTripsLess.calls (k:Nat) (A0:Option Addr) (c0:Nat) (l0:List Int) (A1:Option Addr) (c1:Nat) (l1:List Int) (r:Bool) (w:World) (hr0:Kd.C (Kd.int .u8) w A0 l0.length l0) (hc0:l0.length≤c0) (hr1:Kd.C (Kd.int .u8) w A1 l1.length l1) (hc1:l1.length≤c1) (h:laws_FnTripsLess.f k l0 l1=some r) :
  Calls Try.prog 10 #[.slice A0 l0.length c0,.slice A1 l1.length c1] w fun e w'=>e=.returned (.bool r)∧Below w.heap.size w w':=by
 have hu73:=Try.underlying73
 have HR0:=Aside0.mk hr0
 have HC0:=Aside0.mk hc0
 clear hr0 hc0
 have HR1:=Aside0.mk hr1
 have HC1:=Aside0.mk hc1
 clear hr1 hc1
 have HB:=Aside0.mk (Below.refl w.heap.size w)
 have H:(if(l0.length:Int)>1048576 then(laws_FnTripsLess.j0 k l0 l1 true) else(laws_FnTripsLess.j0 k l0 l1 (decide ((l1.length:Int)>1048576))))=some r:=h
 clear h
 have HC3:=Aside0.mk H
 clear H
 go_enter Try.func10,Try.ntmps10
 go_upto_region 1 with(fail)
 go_cut [17] (fun v17 wc=>∃(kq:Nat) (x17_2:Bool),v17=.bool x17_2∧Aside0 (laws_FnTripsLess.j0 kq l0 l1 x17_2=some r)∧Aside0 (kq≤k)∧Aside0 (Below w.heap.size w wc))
 case first=>
  have H:=HC3.out
  clear HC3
  by_cases c4:(l0.length:Int)>1048576
  ·rw[if_pos c4] at H
   have c4b0:decide (1048576<(l0.length:Int))=true:=decide_eq_true c4
   have c4b1:decide (1048576<l0.length)=true:=decide_eq_true (by omega)
   clear c4
   (first|rw[c4b0]|(simp only[qaj,qak];rw[c4b0])|skip)
   have H':=Aside0.mk H
   clear H
   go_wp2
   go_meet
   case rel=>exact⟨_,(true),(za17),H',⟨za23⟩,⟨za1 HB⟩⟩
  ·rw[if_neg c4] at H
   have c4b0:decide (1048576<(l0.length:Int))=false:=decide_eq_false c4
   have c4b1:decide (1048576<l0.length)=false:=decide_eq_false (by omega)
   clear c4
   (first|rw[c4b0]|(simp only[qaj,qak];rw[c4b0])|skip)
   have H':=Aside0.mk H
   clear H
   go_wp2
   go_meet
   case rel=>exact⟨_,(decide ((l1.length:Int)>1048576)),(za17),H',⟨za23⟩,⟨za1 HB⟩⟩
 case rest=>
  clear HC3
  try clear c1
  try clear p2
  try clear c4
  try clear c4b0
  try clear c4b1
  obtain⟨kq,x17_2,rfl,HA,HJ2,HB⟩:=hcut
  cases kq with
  |zero=>exact absurd HA.out (by simp[laws_FnTripsLess.j0])
  |succ kj2=>
   have H:=HA.out
   clear HA
   simp only[laws_FnTripsLess.j0] at H
   by_cases c5:x17_2=true
   ·subst c5
    have H1:(some true)=some r:=by rw[if_pos rfl] at H;exact H
    clear H
    have H:=H1
    clear H1
    obtain rfl:=Option.some.inj H
    go_wp2
    go_ret
    exact⟨za9,za1 HB⟩
   ·replace c5:=Bool.eq_false_iff.mpr c5
    subst c5
    have H1:((spec_DrawTripsOk.f kj2 l0).bind fun t917=>((impl_TripsOk.f t917).bind fun t920=>((spec_TripsOk.f kj2 t917).bind fun t921=>(if(t920 != t921)=true then(laws_FnTripsLess.j1 kj2 l1 t917 t920 true) else(if t920=true then(laws_FnTripsLess.j1 kj2 l1 t917 t920 ((t917.length:Int) == 0)) else(laws_FnTripsLess.j1 kj2 l1 t917 t920 true))))))=some r:=by rw[if_neg (show ¬(false=true) by decide)] at H;exact H
    clear H
    have H:=H1
    clear H1
    replace H:=Option.bind_eq_some_iff.mp H
    obtain⟨t917,A60,H⟩:=H
    replace H:((impl_TripsOk.f t917).bind fun t920=>((spec_TripsOk.f kj2 t917).bind fun t921=>(if(t920 != t921)=true then(laws_FnTripsLess.j1 kj2 l1 t917 t920 true) else(if t920=true then(laws_FnTripsLess.j1 kj2 l1 t917 t920 ((t917.length:Int) == 0)) else(laws_FnTripsLess.j1 kj2 l1 t917 t920 true)))))=some r:=H
    have A6:=Aside0.mk A60
    clear A60
    replace H:=Option.bind_eq_some_iff.mp H
    obtain⟨t920,A70,H⟩:=H
    replace H:((spec_TripsOk.f kj2 t917).bind fun t921=>(if(t920 != t921)=true then(laws_FnTripsLess.j1 kj2 l1 t917 t920 true) else(if t920=true then(laws_FnTripsLess.j1 kj2 l1 t917 t920 ((t917.length:Int) == 0)) else(laws_FnTripsLess.j1 kj2 l1 t917 t920 true))))=some r:=H
    have A7:=Aside0.mk A70
    clear A70
    have HC8:=Aside0.mk H
    clear H
    go_upto_region 5 with(first|((with_reducible refine qaf (f:=45) rfl ?_);refine zF (some 19) Try.func45 #[.slice A0 l0.length c0] ?_;(with_reducible refine(spec_DrawTripsOk.calls kj2 _ _ l0 t917 _ ?side1 ?side2 A6.out).mono ?_);(case side1=>exact zR HR0 HB);(case side2=>exact HC0.out);rintro e w9 ⟨v918,rfl,ho0,hb⟩;refine⟨_,rfl,?_⟩;have HO919:=Aside0.mk (Kd.N_lower (Kd.N_mono (ok':=fun k_=>True) ho0 (fun k_ hk_=>trivial)) (below_size (za1 HB)));replace HB:=Aside0.mk (qab (za1 HB) hb);(try clear hb);(try clear ho0);obtain⟨Ao10,co10,eo10⟩:=Kd.N_slice HO919.out;subst eo10)|((with_reducible refine qaf (f:=46) rfl ?_);refine zF (some 21) Try.func46 #[.slice Ao10 t917.length co10] ?_;(with_reducible refine(impl_TripsOk.calls _ _ t917 t920 _ ?side1 ?side2 A7.out).mono ?_);(case side1=>repeat(first|exact(Kd.N_reads' HO919.out).2.2|(with_reducible refine Kd.C_alloc ?_ _)|(with_reducible refine Kd.C_drewN ?_ _)|(with_reducible refine Kd.C_drew ?_)));(case side2=>exact(Kd.N_reads' HO919.out).2.1);rintro e w11 ⟨rfl,hb⟩;refine⟨_,rfl,?_⟩;replace HO919:=Aside0.mk (Kd.N_below (za11 HO919) hb);replace HB:=Aside0.mk (qab (za1 HB) hb);(try clear hb)))
    (try simp only[Act.put,List.setIfInBounds_toArray,List.set_cons_zero,List.set_cons_succ])
    go_cut [34] (fun v34 wc=>∃(kq:Nat) (x34_7:Bool),v34=.bool x34_7∧Aside0 (laws_FnTripsLess.j1 kq l1 t917 t920 x34_7=some r)∧Aside0 (kq≤kj2)∧Aside0 (Kd.N k73 73 wc w.heap.size (fun _=>True) (.slice Ao10 t917.length co10) t917)∧Aside0 (Below w.heap.size w wc))
    case first=>
     have H:=HC8.out
     clear HC8
     replace H:=Option.bind_eq_some_iff.mp H
     obtain⟨t921,A120,H⟩:=H
     replace H:(if(t920 != t921)=true then(laws_FnTripsLess.j1 kj2 l1 t917 t920 true) else(if t920=true then(laws_FnTripsLess.j1 kj2 l1 t917 t920 ((t917.length:Int) == 0)) else(laws_FnTripsLess.j1 kj2 l1 t917 t920 true)))=some r:=H
     have A12:=Aside0.mk A120
     clear A120
     by_cases c13:(t920 != t921)=true
     ·rw[if_pos c13] at H
      have c13b0:(t920 != t921)=true:=c13
      (try(have c13b1:decide (t920=t921)=false:=by simpa using c13))
      (try(have c13b2:(t920 == t921)=false:=by simpa using c13))
      (try(have c13b3:¬(t920=t921):=by simpa using c13))
      clear c13
      (first|rw[c13b0]|(simp only[qaj,qak];rw[c13b0])|skip)
      have H':=Aside0.mk H
      clear H
      go_wp2_with(first|((with_reducible refine qaf (f:=47) rfl ?_);refine zF (some 24) Try.func47 #[.slice Ao10 t917.length co10] ?_;(with_reducible refine(spec_TripsOk.calls kj2 _ _ t917 t921 _ ?side1 ?side2 A12.out).mono ?_);(case side1=>repeat(first|exact(Kd.N_reads' HO919.out).2.2|(with_reducible refine Kd.C_alloc ?_ _)|(with_reducible refine Kd.C_drewN ?_ _)|(with_reducible refine Kd.C_drew ?_)));(case side2=>exact(Kd.N_reads' HO919.out).2.1);rintro e w' ⟨rfl,⟨nd,rfl⟩⟩;refine⟨_,rfl,?_⟩))
      go_meet
      case rel=>exact⟨_,(true),(za17),H',⟨za27 HJ2⟩,⟨za11 HO919⟩,⟨za1 HB⟩⟩
     ·rw[if_neg c13] at H
      have c13b0:(t920 != t921)=false:=by simpa using c13
      (try(have c13b1:decide (t920=t921)=true:=by simpa using c13))
      (try(have c13b2:(t920 == t921)=true:=by simpa using c13))
      clear c13
      (first|rw[c13b0]|(simp only[qaj,qak];rw[c13b0])|skip)
      by_cases c14:t920=true
      ·subst c14
       have H1:(laws_FnTripsLess.j1 kj2 l1 t917 true ((t917.length:Int) == 0))=some r:=by rw[if_pos rfl] at H;exact H
       clear H
       have H:=H1
       clear H1
       have H':=Aside0.mk H
       clear H
       go_wp2_with(first|((with_reducible refine qaf (f:=47) rfl ?_);refine zF (some 24) Try.func47 #[.slice Ao10 t917.length co10] ?_;(with_reducible refine(spec_TripsOk.calls kj2 _ _ t917 t921 _ ?side1 ?side2 A12.out).mono ?_);(case side1=>repeat(first|exact(Kd.N_reads' HO919.out).2.2|(with_reducible refine Kd.C_alloc ?_ _)|(with_reducible refine Kd.C_drewN ?_ _)|(with_reducible refine Kd.C_drew ?_)));(case side2=>exact(Kd.N_reads' HO919.out).2.1);rintro e w' ⟨rfl,⟨nd,rfl⟩⟩;refine⟨_,rfl,?_⟩))
       go_meet
       case rel=>exact⟨_,(((t917.length:Int) == 0)),(za17),H',⟨za27 HJ2⟩,⟨za11 HO919⟩,⟨za1 HB⟩⟩
      ·replace c14:=Bool.eq_false_iff.mpr c14
       subst c14
       have H1:(laws_FnTripsLess.j1 kj2 l1 t917 false true)=some r:=by rw[if_neg (show ¬(false=true) by decide)] at H;exact H
       clear H
       have H:=H1
       clear H1
       have H':=Aside0.mk H
       clear H
       go_wp2_with(first|((with_reducible refine qaf (f:=47) rfl ?_);refine zF (some 24) Try.func47 #[.slice Ao10 t917.length co10] ?_;(with_reducible refine(spec_TripsOk.calls kj2 _ _ t917 t921 _ ?side1 ?side2 A12.out).mono ?_);(case side1=>repeat(first|exact(Kd.N_reads' HO919.out).2.2|(with_reducible refine Kd.C_alloc ?_ _)|(with_reducible refine Kd.C_drewN ?_ _)|(with_reducible refine Kd.C_drew ?_)));(case side2=>exact(Kd.N_reads' HO919.out).2.1);rintro e w' ⟨rfl,⟨nd,rfl⟩⟩;refine⟨_,rfl,?_⟩))
       go_meet
       case rel=>exact⟨_,(true),(za17),H',⟨za27 HJ2⟩,⟨za11 HO919⟩,⟨za1 HB⟩⟩
    case rest=>
     clear HC8
     try clear c1
     try clear p2
     try clear c4
     try clear c4b0
     try clear c4b1
     try clear c5
     try clear c10
     try clear c13
     try clear c13b0
     try clear c13b1
     try clear c13b2
     try clear c14
     try clear p2
     obtain⟨kq,x34_7,rfl,HA,HJ7,HO_5,HB⟩:=hcut
     cases kq with
     |zero=>exact absurd HA.out (by simp[laws_FnTripsLess.j1])
     |succ kj7=>
      have H:=HA.out
      clear HA
      simp only[laws_FnTripsLess.j1] at H
      by_cases c15:x34_7=true
      ·subst c15
       have H1:((spec_TripsOk.f kj7 t917).bind fun t922=>(some (t920 == t922)))=some r:=by rw[if_pos rfl] at H;exact H
       clear H
       have H:=H1
       clear H1
       replace H:=Option.bind_eq_some_iff.mp H
       obtain⟨t922,A160,H⟩:=H
       replace H:(some (t920 == t922))=some r:=H
       have A16:=Aside0.mk A160
       clear A160
       obtain rfl:=Option.some.inj H
       go_wp2_with(first|((with_reducible refine qaf (f:=47) rfl ?_);refine zF (some 37) Try.func47 #[.slice Ao10 t917.length co10] ?_;(with_reducible refine(spec_TripsOk.calls kj7 _ _ t917 t922 _ ?side1 ?side2 A16.out).mono ?_);(case side1=>repeat(first|exact(Kd.N_reads' HO_5.out).2.2|(with_reducible refine Kd.C_alloc ?_ _)|(with_reducible refine Kd.C_drewN ?_ _)|(with_reducible refine Kd.C_drew ?_)));(case side2=>exact(Kd.N_reads' HO_5.out).2.1);rintro e w' ⟨rfl,⟨nd,rfl⟩⟩;refine⟨_,rfl,?_⟩))
       go_ret
       exact⟨za9,za1 HB⟩
      ·replace c15:=Bool.eq_false_iff.mpr c15
       subst c15
       have H1:(if(t917.length:Int)=0 then(none) else((some (([]:List (S73)):List (S73))).bind fun y923=>(if 0≤((l1.length:Int)%(t917.length:Int)) then(if((l1.length:Int)%(t917.length:Int))≤(t917.length:Int) then((some (t917.take (((l1.length:Int)%(t917.length:Int)):Int).toNat:List (S73))).bind fun y926=>(if y923.length+y926.length<4398046511104 then((some (y923++y926:List (S73))).bind fun y931=>(if y931.length<4398046511104 then((some (([]:List (S73)):List (S73))).bind fun y940=>(if y940.length+y926.length<4398046511104 then((some (y940++y926:List (S73))).bind fun y948=>(if y948.length<4398046511104 then((impl_TripsOk.f y926).bind fun t962=>(if t962=true then((impl_TripsOk.f (y931++[(⟨(([0,0,0]:List Int)),1⟩:S73)])).bind fun t963=>(if t963=true then(some false) else((impl_TripsOk.f (y948++[(⟨(([1,0,0]:List Int)),0⟩:S73)])).bind fun t964=>(some (!t964))))) else(some false))) else(none))) else(none))) else(none))) else(none))) else(none)) else(none))))=some r:=by rw[if_neg (show ¬(false=true) by decide)] at H;exact H
       clear H
       have H:=H1
       clear H1
       by_cases c17:(t917.length:Int)=0
       ·rw[if_pos c17] at H
        exact absurd H (by simp)
       ·rw[if_neg c17] at H
        have c17b0:((t917.length:Int) == 0)=false:=beq_eq_false_iff_ne.mpr c17
        have c17b1:((t917.length:Int) != 0)=true:=bne_iff_ne.mpr c17
        have c17b2:¬(t917=[]):=fun h_=>c17 (by rw[h_];rfl)
        obtain⟨y923,hy923⟩:∃y_:List (S73),y_=(([]:List (S73))):=⟨_,rfl⟩
        replace H:(if 0≤((l1.length:Int)%(t917.length:Int)) then(if((l1.length:Int)%(t917.length:Int))≤(t917.length:Int) then((some (t917.take (((l1.length:Int)%(t917.length:Int)):Int).toNat:List (S73))).bind fun y926=>(if y923.length+y926.length<4398046511104 then((some (y923++y926:List (S73))).bind fun y931=>(if y931.length<4398046511104 then((some (([]:List (S73)):List (S73))).bind fun y940=>(if y940.length+y926.length<4398046511104 then((some (y940++y926:List (S73))).bind fun y948=>(if y948.length<4398046511104 then((impl_TripsOk.f y926).bind fun t962=>(if t962=true then((impl_TripsOk.f (y931++[(⟨(([0,0,0]:List Int)),1⟩:S73)])).bind fun t963=>(if t963=true then(some false) else((impl_TripsOk.f (y948++[(⟨(([1,0,0]:List Int)),0⟩:S73)])).bind fun t964=>(some (!t964))))) else(some false))) else(none))) else(none))) else(none))) else(none))) else(none)) else(none))=some r:=by first|(rw[hy923];with_reducible exact H)|(have H2_:=(Option.bind_some _ _).symm.trans H;rw[hy923];with_reducible exact H2_)|(have H2_:=(Option.bind_some _ _).symm.trans H;with_reducible exact H2_)|with_reducible exact H|(rw[hy923];exact H)|exact H
        have Ny923:=Aside0.mk hy923
        clear hy923
        obtain⟨ji18,hji18⟩:∃j_:Int,((l1.length:Int)%(t917.length:Int))=j_:=⟨_,rfl⟩
        replace H:(if 0≤(ji18) then(if(ji18)≤(t917.length:Int) then((some (t917.take ((ji18):Int).toNat:List (S73))).bind fun y926=>(if y923.length+y926.length<4398046511104 then((some (y923++y926:List (S73))).bind fun y931=>(if y931.length<4398046511104 then((some (([]:List (S73)):List (S73))).bind fun y940=>(if y940.length+y926.length<4398046511104 then((some (y940++y926:List (S73))).bind fun y948=>(if y948.length<4398046511104 then((impl_TripsOk.f y926).bind fun t962=>(if t962=true then((impl_TripsOk.f (y931++[(⟨(([0,0,0]:List Int)),1⟩:S73)])).bind fun t963=>(if t963=true then(some false) else((impl_TripsOk.f (y948++[(⟨(([1,0,0]:List Int)),0⟩:S73)])).bind fun t964=>(some (!t964))))) else(some false))) else(none))) else(none))) else(none))) else(none))) else(none)) else(none))=some r:=by first|(rw[hji18] at H;exact H)|(simp only[hji18] at H ⊢;exact H)
        by_cases c19:0≤(ji18)
        ·rw[if_pos c19] at H
         have c19b0:=eq_true c19
         have c19b1:decide (0≤(ji18))=true:=decide_eq_true c19
         clear c19
         by_cases c20:(ji18)≤(t917.length:Int)
         ·rw[if_pos c20] at H
          have c20b0:=eq_true c20
          have c20b1:decide ((ji18)≤(t917.length:Int))=true:=decide_eq_true c20
          clear c20
          obtain⟨y926,hy926⟩:∃y_:List (S73),y_=(t917.take ((ji18):Int).toNat):=⟨_,rfl⟩
          replace H:(if y923.length+y926.length<4398046511104 then((some (y923++y926:List (S73))).bind fun y931=>(if y931.length<4398046511104 then((some (([]:List (S73)):List (S73))).bind fun y940=>(if y940.length+y926.length<4398046511104 then((some (y940++y926:List (S73))).bind fun y948=>(if y948.length<4398046511104 then((impl_TripsOk.f y926).bind fun t962=>(if t962=true then((impl_TripsOk.f (y931++[(⟨(([0,0,0]:List Int)),1⟩:S73)])).bind fun t963=>(if t963=true then(some false) else((impl_TripsOk.f (y948++[(⟨(([1,0,0]:List Int)),0⟩:S73)])).bind fun t964=>(some (!t964))))) else(some false))) else(none))) else(none))) else(none))) else(none))=some r:=by first|(rw[hy926];with_reducible exact H)|(have H2_:=(Option.bind_some _ _).symm.trans H;rw[hy926];with_reducible exact H2_)|(have H2_:=(Option.bind_some _ _).symm.trans H;with_reducible exact H2_)|with_reducible exact H|(rw[hy926];exact H)|exact H
          have Ny926:=Aside0.mk hy926
          clear hy926
          by_cases c21:y923.length+y926.length<4398046511104
          ·rw[if_pos c21] at H
           have LMc21:=Aside0.mk c21
           clear c21
           obtain⟨y931,hy931⟩:∃y_:List (S73),y_=(y923++y926):=⟨_,rfl⟩
           replace H:(if y931.length<4398046511104 then((some (([]:List (S73)):List (S73))).bind fun y940=>(if y940.length+y926.length<4398046511104 then((some (y940++y926:List (S73))).bind fun y948=>(if y948.length<4398046511104 then((impl_TripsOk.f y926).bind fun t962=>(if t962=true then((impl_TripsOk.f (y931++[(⟨(([0,0,0]:List Int)),1⟩:S73)])).bind fun t963=>(if t963=true then(some false) else((impl_TripsOk.f (y948++[(⟨(([1,0,0]:List Int)),0⟩:S73)])).bind fun t964=>(some (!t964))))) else(some false))) else(none))) else(none))) else(none))=some r:=by first|(rw[hy931];with_reducible exact H)|(have H2_:=(Option.bind_some _ _).symm.trans H;rw[hy931];with_reducible exact H2_)|(have H2_:=(Option.bind_some _ _).symm.trans H;with_reducible exact H2_)|with_reducible exact H|(rw[hy931];exact H)|exact H
           have Ny931:=Aside0.mk hy931
           clear hy931
           obtain⟨y934,hy934⟩:∃y_:List Int,y_=(([0,0,0]:List Int)):=⟨_,rfl⟩
           replace H:(if y931.length<4398046511104 then((some (([]:List (S73)):List (S73))).bind fun y940=>(if y940.length+y926.length<4398046511104 then((some (y940++y926:List (S73))).bind fun y948=>(if y948.length<4398046511104 then((impl_TripsOk.f y926).bind fun t962=>(if t962=true then((impl_TripsOk.f (y931++[(⟨y934,1⟩:S73)])).bind fun t963=>(if t963=true then(some false) else((impl_TripsOk.f (y948++[(⟨(([1,0,0]:List Int)),0⟩:S73)])).bind fun t964=>(some (!t964))))) else(some false))) else(none))) else(none))) else(none))=some r:=by first|(rw[hy934];with_reducible exact H)|(have H2_:=(Option.bind_some _ _).symm.trans H;rw[hy934];with_reducible exact H2_)|(have H2_:=(Option.bind_some _ _).symm.trans H;with_reducible exact H2_)|with_reducible exact H|(rw[hy934];exact H)|exact H
           have Ny934:=Aside0.mk hy934
           clear hy934
           by_cases c22:y931.length<4398046511104
           ·rw[if_pos c22] at H
            have LMc22:=Aside0.mk c22
            clear c22
            obtain⟨y937,hy937⟩:∃y_:List (S73),y_=(y931++[(⟨y934,1⟩:S73)]):=⟨_,rfl⟩
            replace H:((some (([]:List (S73)):List (S73))).bind fun y940=>(if y940.length+y926.length<4398046511104 then((some (y940++y926:List (S73))).bind fun y948=>(if y948.length<4398046511104 then((impl_TripsOk.f y926).bind fun t962=>(if t962=true then((impl_TripsOk.f y937).bind fun t963=>(if t963=true then(some false) else((impl_TripsOk.f (y948++[(⟨(([1,0,0]:List Int)),0⟩:S73)])).bind fun t964=>(some (!t964))))) else(some false))) else(none))) else(none)))=some r:=by first|(rw[hy937];with_reducible exact H)|(have H2_:=(Option.bind_some _ _).symm.trans H;rw[hy937];with_reducible exact H2_)|(have H2_:=(Option.bind_some _ _).symm.trans H;with_reducible exact H2_)|with_reducible exact H|(rw[hy937];exact H)|exact H
            have Ny937:=Aside0.mk hy937
            clear hy937
            obtain⟨y940,hy940⟩:∃y_:List (S73),y_=(([]:List (S73))):=⟨_,rfl⟩
            replace H:(if y940.length+y926.length<4398046511104 then((some (y940++y926:List (S73))).bind fun y948=>(if y948.length<4398046511104 then((impl_TripsOk.f y926).bind fun t962=>(if t962=true then((impl_TripsOk.f y937).bind fun t963=>(if t963=true then(some false) else((impl_TripsOk.f (y948++[(⟨(([1,0,0]:List Int)),0⟩:S73)])).bind fun t964=>(some (!t964))))) else(some false))) else(none))) else(none))=some r:=by first|(rw[hy940];with_reducible exact H)|(have H2_:=(Option.bind_some _ _).symm.trans H;rw[hy940];with_reducible exact H2_)|(have H2_:=(Option.bind_some _ _).symm.trans H;with_reducible exact H2_)|with_reducible exact H|(rw[hy940];exact H)|exact H
            have Ny940:=Aside0.mk hy940
            clear hy940
            have c23b0:=eq_true (of_decide_eq_true (za5):0≤(ji18))
            have c24b0:=eq_true (of_decide_eq_true (za5):(ji18)≤(t917.length:Int))
            by_cases c25:y940.length+y926.length<4398046511104
            ·rw[if_pos c25] at H
             have LMc25:=Aside0.mk c25
             clear c25
             obtain⟨y948,hy948⟩:∃y_:List (S73),y_=(y940++y926):=⟨_,rfl⟩
             replace H:(if y948.length<4398046511104 then((impl_TripsOk.f y926).bind fun t962=>(if t962=true then((impl_TripsOk.f y937).bind fun t963=>(if t963=true then(some false) else((impl_TripsOk.f (y948++[(⟨(([1,0,0]:List Int)),0⟩:S73)])).bind fun t964=>(some (!t964))))) else(some false))) else(none))=some r:=by first|(rw[hy948];with_reducible exact H)|(have H2_:=(Option.bind_some _ _).symm.trans H;rw[hy948];with_reducible exact H2_)|(have H2_:=(Option.bind_some _ _).symm.trans H;with_reducible exact H2_)|with_reducible exact H|(rw[hy948];exact H)|exact H
             have Ny948:=Aside0.mk hy948
             clear hy948
             obtain⟨y951,hy951⟩:∃y_:List Int,y_=(([1,0,0]:List Int)):=⟨_,rfl⟩
             replace H:(if y948.length<4398046511104 then((impl_TripsOk.f y926).bind fun t962=>(if t962=true then((impl_TripsOk.f y937).bind fun t963=>(if t963=true then(some false) else((impl_TripsOk.f (y948++[(⟨y951,0⟩:S73)])).bind fun t964=>(some (!t964))))) else(some false))) else(none))=some r:=by first|(rw[hy951];with_reducible exact H)|(have H2_:=(Option.bind_some _ _).symm.trans H;rw[hy951];with_reducible exact H2_)|(have H2_:=(Option.bind_some _ _).symm.trans H;with_reducible exact H2_)|with_reducible exact H|(rw[hy951];exact H)|exact H
             have Ny951:=Aside0.mk hy951
             clear hy951
             by_cases c26:y948.length<4398046511104
             ·rw[if_pos c26] at H
              have LMc26:=Aside0.mk c26
              clear c26
              obtain⟨y954,hy954⟩:∃y_:List (S73),y_=(y948++[(⟨y951,0⟩:S73)]):=⟨_,rfl⟩
              replace H:((impl_TripsOk.f y926).bind fun t962=>(if t962=true then((impl_TripsOk.f y937).bind fun t963=>(if t963=true then(some false) else((impl_TripsOk.f y954).bind fun t964=>(some (!t964))))) else(some false)))=some r:=by first|(rw[hy954];with_reducible exact H)|(have H2_:=(Option.bind_some _ _).symm.trans H;rw[hy954];with_reducible exact H2_)|(have H2_:=(Option.bind_some _ _).symm.trans H;with_reducible exact H2_)|with_reducible exact H|(rw[hy954];exact H)|exact H
              have Ny954:=Aside0.mk hy954
              clear hy954
              have c27b0:=eq_true (of_decide_eq_true (za5):0≤(ji18))
              have c28b0:=eq_true (of_decide_eq_true (za5):(ji18)≤(t917.length:Int))
              replace H:=Option.bind_eq_some_iff.mp H
              obtain⟨t962,A290,H⟩:=H
              replace H:(if t962=true then((impl_TripsOk.f y937).bind fun t963=>(if t963=true then(some false) else((impl_TripsOk.f y954).bind fun t964=>(some (!t964))))) else(some false))=some r:=H
              have A29:=Aside0.mk A290
              clear A290
              by_cases c30:t962=true
              ·subst c30
               have H1:((impl_TripsOk.f y937).bind fun t963=>(if t963=true then(some false) else((impl_TripsOk.f y954).bind fun t964=>(some (!t964)))))=some r:=by rw[if_pos rfl] at H;exact H
               clear H
               have H:=H1
               clear H1
               replace H:=Option.bind_eq_some_iff.mp H
               obtain⟨t963,A310,H⟩:=H
               replace H:(if t963=true then(some false) else((impl_TripsOk.f y954).bind fun t964=>(some (!t964))))=some r:=H
               have A31:=Aside0.mk A310
               clear A310
               by_cases c32:t963=true
               ·subst c32
                have H1:(some false)=some r:=by rw[if_pos rfl] at H;exact H
                clear H
                have H:=H1
                clear H1
                obtain rfl:=Option.some.inj H
                go_wp2_with(first|((with_reducible refine qah (N:=44) rfl ?_);(try(refine qaq (by rfl) ?_;dsimp only));refine Kd.N_lit k73 _ 73 ?hg (N':=44) ?hd (xs:=([]:List (S73))) (inner:=[]) (ok:=(fun k_=>some k_≠(.slice Ao10 t917.length co10:Value).ownBlock)) (okp:=(fun k_=>some k_≠(.slice Ao10 t917.length co10:Value).ownBlock)) ?hr ?hp (fun _ hk=>hk) ((show ∀k_,wc.heap.size≤k_→(fun k_=>some k_≠(.slice Ao10 t917.length co10:Value).ownBlock) k_ from fun k_ hk=>Kd.fresh' (Kd.N_lt (za11 HO_5)) k_ hk) _ (Nat.le_refl _)) (Below.refl _ _) (Nat.le_refl _) (by simp) ?_;(case hd=>rfl);(case hg=>rfl);(case hr=>first|(go_simp;done)|(go_simp;rfl));(case hp=>exact(Reps.none _ _));intro v924 w33 ho34 hb hg_ hnew_;clear hg_ hnew_;(first|rw[←Ny923.out] at ho34|(simp only[Int.reduceToNat] at ho34;rw[←Ny923.out] at ho34));replace HO_5:=Aside0.mk (Kd.N_elder' (za11 HO_5) (by first|exact Kd.N_base ho34|exact Kd.S_base ho34|exact Kd.R_base ho34) hb);have HO925:=Aside0.mk (Kd.N_lower ho34 (below_size (za1 HB)));replace HB:=Aside0.mk (qab (za1 HB) hb);clear hb ho34;have q35:((ji18):Int)≤((t917.length:Int):Int):=of_decide_eq_true (za5);obtain⟨i035,hi035,_,hsz35,_⟩:=info_parts info73;have hroom35:t917.length≤co10:=(Kd.N_reads' HO_5.out).2.1;have hC35:Kd.F k73 _ _ Ao10 t917.length t917:=(Kd.V_at (base:=w.heap.size) (Kd.N_V HO_5.out)).2.2;have hcut35:=cut_to (P:=Try.prog) 69 73 .i64 Try.underlying69 hi035 Ao10 t917.length co10 (ji18) (of_decide_eq_true (za5)) q35 hroom35;have hr35:=Kd.F_take (m:=((ji18):Int).toNat) hC35 (by omega);have hy35:y926.length=((ji18):Int).toNat:=(by rw[Ny926.out,List.length_take];omega);rw[←Ny926.out] at hr35;rw[←hy35] at hcut35;have HO930:=Aside0.mk (show Kd.V k73 73 _ w.heap.size _ (.slice Ao10 y926.length co10) y926 from Kd.V_mk (by omega) hr35);have HC930:=Aside0.mk (show y926.length≤co10 from by omega);clear hr35 hC35 hroom35 hi035 hsz35;have KY35:=Aside0.mk hy35;clear hy35;replace q35:=eq_true q35)|((with_reducible refine gate_builtin (b:=.append) (xs:=#[.tmp 44,.tmp 47]) rfl ?_);(try(refine qaq (by rfl) ?_;dsimp only));at_builtin;refine Kd.N_append_rows k73 (w0:=w) w.heap.size rfl (.tmp 44) (.tmp 47) 69 73 (.agg #[(.slice none 0 0),(.int .i64 0)]) 32 rfl Try.underlying69 info73 rfl (by decide) (by omega) v924 y923 y926 _ _ _ (fun _=>True) (fun k_=>((fun _=>True)) k_∧some k_≠(v924:Value).ownBlock) rfl rfl ?aO ?aR (fun _ hk=>hk) ?aF ?aB ?aS ?aL ?_;(case aR=>exact(by skip;exact Kd.V_F (Kd.V_mono (ok':=(fun k_=>((fun _=>True)) k_∧some k_≠(v924:Value).ownBlock)) (HO930.out) (fun k_ hk=>⟨trivial,hk.2⟩))));(case aB=>exact(za1 HB));(case aF=>exact(fun _ _=>trivial));(case aO=>exact(by(with_reducible repeat(first|apply Kd.N_alloc|apply Kd.N_drewN|apply Kd.N_drew));exact Kd.N_mono HO925.out (fun _ hk=>trivial)));(case aS=>exact(below_size (za1 HB)));(case aL=>have:=LMc21.out;omega);intro v932 w36 ho hb hg hat;rw[←Ny931.out] at ho;replace HO_5:=Aside0.mk (Kd.N_afterv (ok:=(fun _=>True)) (za11 HO_5) hg hat);replace HO930:=Aside0.mk (Kd.V_afterv (ok:=(fun _=>True)) (za19 HO930) hg hat);replace HB:=Aside0.mk hb;have HO933:=Aside0.mk ho;clear HO925;clear ho hb hg hat)|((with_reducible refine qah (N:=49) rfl ?_);(try(refine qaq (by rfl) ?_;dsimp only));refine Kd.R_lit (Kd.int .i64) _ 3 (by rfl) (N:=49) (by rfl) (xs:=([0,0,0]:List Int)) (inner:=[.int .i64 0,.int .i64 0,.int .i64 0]) (ok:=fun _=>True) (okp:=fun _=>True) (by first|(go_simp;done)|(go_simp;rfl)) ?hp (fun _ hk=>hk) trivial (Below.refl _ _) (Nat.le_refl _) (by simp) ?_;(case hp=>exact(Reps.one (show Kd.M (Kd.int .i64) _ _ _ 0 [.int .i64 0] from rfl) (Reps.one (show Kd.M (Kd.int .i64) _ _ _ 0 [.int .i64 0] from rfl) (Reps.one (show Kd.M (Kd.int .i64) _ _ _ 0 [.int .i64 0] from rfl) (Reps.none _ _)))));intro v935 w37 ho38 hb hg_ hnew_;clear hg_ hnew_;(first|rw[←Ny934.out] at ho38|(simp only[Int.reduceToNat] at ho38;rw[←Ny934.out] at ho38));replace HO_5:=Aside0.mk (Kd.N_elder' (za11 HO_5) (Kd.R_base ho38) hb);replace HO930:=Aside0.mk (Kd.V_elder' (za19 HO930) (Kd.R_base ho38) hb);replace HO933:=Aside0.mk (Kd.N_elder' (za11 HO933) (Kd.R_base ho38) hb);have HO936:=Aside0.mk (Kd.R_lower ho38 (below_size (za1 HB)));replace HB:=Aside0.mk (qab (za1 HB) hb);clear hb ho38;obtain⟨Ao39,co39,eo39⟩:=Kd.R_slice HO936.out;subst eo39)|((with_reducible refine gate_builtin (b:=.append) (xs:=#[.tmp 48,.tmp 51]) rfl ?_);(try(refine qaq (by rfl) ?_;dsimp only));at_builtin;refine Kd.N_append k73 (w0:=w) w.heap.size rfl (.tmp 48) (.tmp 51) 69 73 (.agg #[(.slice none 0 0),(.int .i64 0)]) 32 rfl Try.underlying69 info73 rfl (by decide) (by omega) v932 y931 (⟨y934,1⟩:S73) [.slice Ao39 y934.length co39,.int .i64 1] (fun _=>True) (fun k_=>((fun _=>True)) k_∧some k_≠(v932:Value).ownBlock) rfl rfl ?aP (fun _ hk=>hk) ?aF ?aO ?aB ?aS ?aL ?_;(case aP=>exact(k73_mkF _ _ (⟨y934,1⟩:S73) (Kd.R_reads' (Kd.R_mono (ok':=(fun k_=>((fun _=>True)) k_∧some k_≠(v932:Value).ownBlock)) (Kd.R_apart' (HO936.out) (Kd.N_typed HO933.out) (by decide)) (fun k_ hk=>⟨trivial,hk.2⟩))).2.1 (Kd.R_F (Kd.R_mono (ok':=(fun k_=>((fun _=>True)) k_∧some k_≠(v932:Value).ownBlock)) (Kd.R_apart' (HO936.out) (Kd.N_typed HO933.out) (by decide)) (fun k_ hk=>⟨trivial,hk.2⟩)))));(case aB=>exact(za1 HB));(case aF=>exact(fun _ _=>trivial));(case aO=>exact(by(with_reducible repeat(first|apply Kd.N_alloc|apply Kd.N_drewN|apply Kd.N_drew));exact Kd.N_mono HO933.out (fun _ hk=>trivial)));(case aS=>exact(below_size (za1 HB)));(case aL=>have:=LMc22.out;omega);intro v938 w40 ho hb hg hat;rw[←Ny937.out] at ho;replace HO_5:=Aside0.mk (Kd.N_afterv (ok:=(fun k_=>some k_≠(.slice Ao39 y934.length co39:Value).ownBlock)) (by(with_reducible repeat(first|apply Kd.N_alloc|apply Kd.N_drewN|apply Kd.N_drew));exact Kd.N_mono HO_5.out (fun _ hk=>⟨hk.2,hk.1.2⟩)) hg hat);replace HO930:=Aside0.mk (Kd.V_afterv (ok:=(fun k_=>some k_≠(.slice Ao39 y934.length co39:Value).ownBlock)) (by(with_reducible repeat(first|apply Kd.V_alloc|apply Kd.V_drewN|apply Kd.V_drew));exact Kd.V_mono HO930.out (fun _ hk=>⟨hk.2,hk.1.2⟩)) hg hat);replace HB:=Aside0.mk hb;have HO939:=Aside0.mk ho;clear HO933 HO936;clear ho hb hg hat)|((with_reducible refine qah (N:=53) rfl ?_);(try(refine qaq (by rfl) ?_;dsimp only));refine Kd.N_lit k73 _ 73 ?hg (N':=53) ?hd (xs:=([]:List (S73))) (inner:=[]) (ok:=(fun k_=>some k_≠(.slice Ao10 t917.length co10:Value).ownBlock∧some k_≠(v938:Value).ownBlock)) (okp:=(fun k_=>some k_≠(.slice Ao10 t917.length co10:Value).ownBlock∧some k_≠(v938:Value).ownBlock)) ?hr ?hp (fun _ hk=>hk) ((show ∀k_,w40.heap.size≤k_→(fun k_=>some k_≠(.slice Ao10 t917.length co10:Value).ownBlock∧some k_≠(v938:Value).ownBlock) k_ from fun k_ hk=>⟨Kd.fresh' (Kd.N_lt (za11 HO_5)) k_ hk,Kd.fresh' (Kd.N_lt (za11 HO939)) k_ hk⟩) _ (Nat.le_refl _)) (Below.refl _ _) (Nat.le_refl _) (by simp) ?_;(case hd=>rfl);(case hg=>rfl);(case hr=>first|(go_simp;done)|(go_simp;rfl));(case hp=>exact(Reps.none _ _));intro v941 w41 ho42 hb hg_ hnew_;clear hg_ hnew_;(first|rw[←Ny940.out] at ho42|(simp only[Int.reduceToNat] at ho42;rw[←Ny940.out] at ho42));replace HO_5:=Aside0.mk (Kd.N_elder' (za11 HO_5) (by first|exact Kd.N_base ho42|exact Kd.S_base ho42|exact Kd.R_base ho42) hb);replace HO930:=Aside0.mk (Kd.V_elder' (za19 HO930) (by first|exact Kd.N_base ho42|exact Kd.S_base ho42|exact Kd.R_base ho42) hb);replace HO939:=Aside0.mk (Kd.N_elder' (za11 HO939) (by first|exact Kd.N_base ho42|exact Kd.S_base ho42|exact Kd.R_base ho42) hb);have HO942:=Aside0.mk (Kd.N_lower ho42 (below_size (za1 HB)));replace HB:=Aside0.mk (qab (za1 HB) hb);clear hb ho42)|((with_reducible refine gate_builtin (b:=.append) (xs:=#[.tmp 53,.tmp 56]) rfl ?_);(try(refine qaq (by rfl) ?_;dsimp only));at_builtin;refine Kd.N_append_rows k73 (w0:=w) w.heap.size rfl (.tmp 53) (.tmp 56) 69 73 (.agg #[(.slice none 0 0),(.int .i64 0)]) 32 rfl Try.underlying69 info73 rfl (by decide) (by omega) v941 y940 y926 _ _ _ (fun k_=>some k_≠(v938:Value).ownBlock) (fun k_=>((fun k_=>some k_≠(v938:Value).ownBlock)) k_∧some k_≠(v941:Value).ownBlock) rfl rfl ?aO ?aR (fun _ hk=>hk) ?aF ?aB ?aS ?aL ?_;(case aR=>exact(by skip;exact Kd.V_F (Kd.V_mono (ok':=(fun k_=>((fun k_=>some k_≠(v938:Value).ownBlock)) k_∧some k_≠(v941:Value).ownBlock)) (HO930.out) (fun k_ hk=>⟨hk.1.2,hk.2⟩))));(case aB=>exact(za1 HB));(case aF=>exact(fun k_ hk=>Kd.fresh' (Kd.N_lt (za11 HO939)) k_ hk));(case aO=>exact(by(with_reducible repeat(first|apply Kd.N_alloc|apply Kd.N_drewN|apply Kd.N_drew));exact Kd.N_mono HO942.out (fun _ hk=>hk.2)));(case aS=>exact(below_size (za1 HB)));(case aL=>have:=LMc25.out;omega);intro v949 w43 ho hb hg hat;rw[←Ny948.out] at ho;replace HO_5:=Aside0.mk (Kd.N_afterv (ok:=(fun k_=>some k_≠(v938:Value).ownBlock)) (by(with_reducible repeat(first|apply Kd.N_alloc|apply Kd.N_drewN|apply Kd.N_drew));exact Kd.N_mono HO_5.out (fun _ hk=>⟨hk.1.2,hk.2⟩)) hg hat);replace HO930:=Aside0.mk (Kd.V_afterv (ok:=(fun k_=>some k_≠(v938:Value).ownBlock)) (by(with_reducible repeat(first|apply Kd.V_alloc|apply Kd.V_drewN|apply Kd.V_drew));exact Kd.V_mono HO930.out (fun _ hk=>⟨hk.1.2,hk.2⟩)) hg hat);replace HO939:=Aside0.mk (Kd.N_afterv (ok:=(fun _=>True)) (za11 HO939) hg hat);replace HB:=Aside0.mk hb;have HO950:=Aside0.mk ho;clear HO942;clear ho hb hg hat)|((with_reducible refine qah (N:=58) rfl ?_);(try(refine qaq (by rfl) ?_;dsimp only));refine Kd.R_lit (Kd.int .i64) _ 3 (by rfl) (N:=58) (by rfl) (xs:=([1,0,0]:List Int)) (inner:=[.int .i64 1,.int .i64 0,.int .i64 0]) (ok:=fun _=>True) (okp:=fun _=>True) (by first|(go_simp;done)|(go_simp;rfl)) ?hp (fun _ hk=>hk) trivial (Below.refl _ _) (Nat.le_refl _) (by simp) ?_;(case hp=>exact(Reps.one (show Kd.M (Kd.int .i64) _ _ _ 1 [.int .i64 1] from rfl) (Reps.one (show Kd.M (Kd.int .i64) _ _ _ 0 [.int .i64 0] from rfl) (Reps.one (show Kd.M (Kd.int .i64) _ _ _ 0 [.int .i64 0] from rfl) (Reps.none _ _)))));intro v952 w44 ho45 hb hg_ hnew_;clear hg_ hnew_;(first|rw[←Ny951.out] at ho45|(simp only[Int.reduceToNat] at ho45;rw[←Ny951.out] at ho45));replace HO_5:=Aside0.mk (Kd.N_elder' (za11 HO_5) (Kd.R_base ho45) hb);replace HO930:=Aside0.mk (Kd.V_elder' (za19 HO930) (Kd.R_base ho45) hb);replace HO939:=Aside0.mk (Kd.N_elder' (za11 HO939) (Kd.R_base ho45) hb);replace HO950:=Aside0.mk (Kd.N_elder' (za11 HO950) (Kd.R_base ho45) hb);have HO953:=Aside0.mk (Kd.R_lower ho45 (below_size (za1 HB)));replace HB:=Aside0.mk (qab (za1 HB) hb);clear hb ho45;obtain⟨Ao46,co46,eo46⟩:=Kd.R_slice HO953.out;subst eo46)|((with_reducible refine gate_builtin (b:=.append) (xs:=#[.tmp 57,.tmp 60]) rfl ?_);(try(refine qaq (by rfl) ?_;dsimp only));at_builtin;refine Kd.N_append k73 (w0:=w) w.heap.size rfl (.tmp 57) (.tmp 60) 69 73 (.agg #[(.slice none 0 0),(.int .i64 0)]) 32 rfl Try.underlying69 info73 rfl (by decide) (by omega) v949 y948 (⟨y951,0⟩:S73) [.slice Ao46 y951.length co46,.int .i64 0] (fun k_=>some k_≠(v938:Value).ownBlock) (fun k_=>((fun k_=>some k_≠(v938:Value).ownBlock)) k_∧some k_≠(v949:Value).ownBlock) rfl rfl ?aP (fun _ hk=>hk) ?aF ?aO ?aB ?aS ?aL ?_;(case aP=>exact(k73_mkF _ _ (⟨y951,0⟩:S73) (Kd.R_reads' (Kd.R_mono (ok':=(fun k_=>((fun k_=>some k_≠(v938:Value).ownBlock)) k_∧some k_≠(v949:Value).ownBlock)) (Kd.R_apart' (Kd.R_apart' (HO953.out) (Kd.N_typed HO939.out) (by decide)) (Kd.N_typed HO950.out) (by decide)) (fun k_ hk=>⟨hk.1.2,hk.2⟩))).2.1 (Kd.R_F (Kd.R_mono (ok':=(fun k_=>((fun k_=>some k_≠(v938:Value).ownBlock)) k_∧some k_≠(v949:Value).ownBlock)) (Kd.R_apart' (Kd.R_apart' (HO953.out) (Kd.N_typed HO939.out) (by decide)) (Kd.N_typed HO950.out) (by decide)) (fun k_ hk=>⟨hk.1.2,hk.2⟩)))));(case aB=>exact(za1 HB));(case aF=>exact(fun k_ hk=>Kd.fresh' (Kd.N_lt (za11 HO939)) k_ hk));(case aO=>exact(by(with_reducible repeat(first|apply Kd.N_alloc|apply Kd.N_drewN|apply Kd.N_drew));exact Kd.N_mono HO950.out (fun _ hk=>hk.1)));(case aS=>exact(below_size (za1 HB)));(case aL=>have:=LMc26.out;omega);intro v955 w47 ho hb hg hat;rw[←Ny954.out] at ho;replace HO_5:=Aside0.mk (Kd.N_afterv (ok:=(fun k_=>some k_≠(v938:Value).ownBlock∧some k_≠(.slice Ao46 y951.length co46:Value).ownBlock)) (by(with_reducible repeat(first|apply Kd.N_alloc|apply Kd.N_drewN|apply Kd.N_drew));exact Kd.N_mono HO_5.out (fun _ hk=>⟨⟨hk.1.1,hk.2⟩,hk.1.2⟩)) hg hat);replace HO930:=Aside0.mk (Kd.V_afterv (ok:=(fun k_=>some k_≠(v938:Value).ownBlock∧some k_≠(.slice Ao46 y951.length co46:Value).ownBlock)) (by(with_reducible repeat(first|apply Kd.V_alloc|apply Kd.V_drewN|apply Kd.V_drew));exact Kd.V_mono HO930.out (fun _ hk=>⟨⟨hk.1.1,hk.2⟩,hk.1.2⟩)) hg hat);replace HO939:=Aside0.mk (Kd.N_afterv (ok:=(fun k_=>some k_≠(.slice Ao46 y951.length co46:Value).ownBlock)) (by(with_reducible repeat(first|apply Kd.N_alloc|apply Kd.N_drewN|apply Kd.N_drew));exact Kd.N_mono HO939.out (fun _ hk=>⟨hk.2,hk.1.2⟩)) hg hat);replace HB:=Aside0.mk hb;have HO956:=Aside0.mk ho;clear HO950 HO953;clear ho hb hg hat)|((with_reducible refine qaf (f:=46) rfl ?_);refine zF (some 65) Try.func46 #[.slice Ao10 y926.length co10] ?_;(with_reducible refine(impl_TripsOk.calls _ _ y926 true _ ?side1 ?side2 A29.out).mono ?_);(case side1=>repeat(first|exact(Kd.V_reads' HO930.out).2.2|(with_reducible refine Kd.C_alloc ?_ _)|(with_reducible refine Kd.C_drewN ?_ _)|(with_reducible refine Kd.C_drew ?_)));(case side2=>exact(Kd.V_reads' HO930.out).2.1);rintro e w48 ⟨rfl,hb⟩;refine⟨_,rfl,?_⟩;replace HO_5:=Aside0.mk (Kd.N_below (za11 HO_5) hb);replace HO930:=Aside0.mk (Kd.V_below (za19 HO930) hb);replace HO939:=Aside0.mk (Kd.N_below (za11 HO939) hb);replace HO956:=Aside0.mk (Kd.N_below (za11 HO956) hb);replace HB:=Aside0.mk (qab (za1 HB) hb);(try clear hb);obtain⟨Ao49,co49,eo49⟩:=Kd.N_slice HO939.out;subst eo49)|(go_at_call 46;(with_reducible refine(impl_TripsOk.calls _ _ y937 true _ ?side1 ?side2 A31.out).mono ?_);(case side1=>repeat(first|exact(Kd.N_reads' HO939.out).2.2|(with_reducible refine Kd.C_alloc ?_ _)|(with_reducible refine Kd.C_drewN ?_ _)|(with_reducible refine Kd.C_drew ?_)));(case side2=>exact(Kd.N_reads' HO939.out).2.1);rintro e w50 ⟨rfl,hb⟩;replace HO_5:=Aside0.mk (Kd.N_below (za11 HO_5) hb);replace HO930:=Aside0.mk (Kd.V_below (za19 HO930) hb);replace HO939:=Aside0.mk (Kd.N_below (za11 HO939) hb);replace HO956:=Aside0.mk (Kd.N_below (za11 HO956) hb);replace HB:=Aside0.mk (qab (za1 HB) hb);(try clear hb)))
                go_ret
                exact⟨by first|rfl|(simp[qam,qal]<;>rfl)|(simp only[←hji18];first|rfl|(simp[qam,qal]<;>rfl))|(simp[*,qam,qal]<;>rfl),za1 HB⟩
               ·replace c32:=Bool.eq_false_iff.mpr c32
                subst c32
                have H1:((impl_TripsOk.f y954).bind fun t964=>(some (!t964)))=some r:=by rw[if_neg (show ¬(false=true) by decide)] at H;exact H
                clear H
                have H:=H1
                clear H1
                replace H:=Option.bind_eq_some_iff.mp H
                obtain⟨t964,A510,H⟩:=H
                replace H:(some (!t964))=some r:=H
                have A51:=Aside0.mk A510
                clear A510
                obtain rfl:=Option.some.inj H
                go_wp2_with(first|((with_reducible refine qah (N:=44) rfl ?_);(try(refine qaq (by rfl) ?_;dsimp only));refine Kd.N_lit k73 _ 73 ?hg (N':=44) ?hd (xs:=([]:List (S73))) (inner:=[]) (ok:=(fun k_=>some k_≠(.slice Ao10 t917.length co10:Value).ownBlock)) (okp:=(fun k_=>some k_≠(.slice Ao10 t917.length co10:Value).ownBlock)) ?hr ?hp (fun _ hk=>hk) ((show ∀k_,wc.heap.size≤k_→(fun k_=>some k_≠(.slice Ao10 t917.length co10:Value).ownBlock) k_ from fun k_ hk=>Kd.fresh' (Kd.N_lt (za11 HO_5)) k_ hk) _ (Nat.le_refl _)) (Below.refl _ _) (Nat.le_refl _) (by simp) ?_;(case hd=>rfl);(case hg=>rfl);(case hr=>first|(go_simp;done)|(go_simp;rfl));(case hp=>exact(Reps.none _ _));intro v924 w52 ho53 hb hg_ hnew_;clear hg_ hnew_;(first|rw[←Ny923.out] at ho53|(simp only[Int.reduceToNat] at ho53;rw[←Ny923.out] at ho53));replace HO_5:=Aside0.mk (Kd.N_elder' (za11 HO_5) (by first|exact Kd.N_base ho53|exact Kd.S_base ho53|exact Kd.R_base ho53) hb);have HO925:=Aside0.mk (Kd.N_lower ho53 (below_size (za1 HB)));replace HB:=Aside0.mk (qab (za1 HB) hb);clear hb ho53;have q54:((ji18):Int)≤((t917.length:Int):Int):=of_decide_eq_true (za5);obtain⟨i054,hi054,_,hsz54,_⟩:=info_parts info73;have hroom54:t917.length≤co10:=(Kd.N_reads' HO_5.out).2.1;have hC54:Kd.F k73 _ _ Ao10 t917.length t917:=(Kd.V_at (base:=w.heap.size) (Kd.N_V HO_5.out)).2.2;have hcut54:=cut_to (P:=Try.prog) 69 73 .i64 Try.underlying69 hi054 Ao10 t917.length co10 (ji18) (of_decide_eq_true (za5)) q54 hroom54;have hr54:=Kd.F_take (m:=((ji18):Int).toNat) hC54 (by omega);have hy54:y926.length=((ji18):Int).toNat:=(by rw[Ny926.out,List.length_take];omega);rw[←Ny926.out] at hr54;rw[←hy54] at hcut54;have HO930:=Aside0.mk (show Kd.V k73 73 _ w.heap.size _ (.slice Ao10 y926.length co10) y926 from Kd.V_mk (by omega) hr54);have HC930:=Aside0.mk (show y926.length≤co10 from by omega);clear hr54 hC54 hroom54 hi054 hsz54;have KY54:=Aside0.mk hy54;clear hy54;replace q54:=eq_true q54)|((with_reducible refine gate_builtin (b:=.append) (xs:=#[.tmp 44,.tmp 47]) rfl ?_);(try(refine qaq (by rfl) ?_;dsimp only));at_builtin;refine Kd.N_append_rows k73 (w0:=w) w.heap.size rfl (.tmp 44) (.tmp 47) 69 73 (.agg #[(.slice none 0 0),(.int .i64 0)]) 32 rfl Try.underlying69 info73 rfl (by decide) (by omega) v924 y923 y926 _ _ _ (fun _=>True) (fun k_=>((fun _=>True)) k_∧some k_≠(v924:Value).ownBlock) rfl rfl ?aO ?aR (fun _ hk=>hk) ?aF ?aB ?aS ?aL ?_;(case aR=>exact(by skip;exact Kd.V_F (Kd.V_mono (ok':=(fun k_=>((fun _=>True)) k_∧some k_≠(v924:Value).ownBlock)) (HO930.out) (fun k_ hk=>⟨trivial,hk.2⟩))));(case aB=>exact(za1 HB));(case aF=>exact(fun _ _=>trivial));(case aO=>exact(by(with_reducible repeat(first|apply Kd.N_alloc|apply Kd.N_drewN|apply Kd.N_drew));exact Kd.N_mono HO925.out (fun _ hk=>trivial)));(case aS=>exact(below_size (za1 HB)));(case aL=>have:=LMc21.out;omega);intro v932 w55 ho hb hg hat;rw[←Ny931.out] at ho;replace HO_5:=Aside0.mk (Kd.N_afterv (ok:=(fun _=>True)) (za11 HO_5) hg hat);replace HO930:=Aside0.mk (Kd.V_afterv (ok:=(fun _=>True)) (za19 HO930) hg hat);replace HB:=Aside0.mk hb;have HO933:=Aside0.mk ho;clear HO925;clear ho hb hg hat)|((with_reducible refine qah (N:=49) rfl ?_);(try(refine qaq (by rfl) ?_;dsimp only));refine Kd.R_lit (Kd.int .i64) _ 3 (by rfl) (N:=49) (by rfl) (xs:=([0,0,0]:List Int)) (inner:=[.int .i64 0,.int .i64 0,.int .i64 0]) (ok:=fun _=>True) (okp:=fun _=>True) (by first|(go_simp;done)|(go_simp;rfl)) ?hp (fun _ hk=>hk) trivial (Below.refl _ _) (Nat.le_refl _) (by simp) ?_;(case hp=>exact(Reps.one (show Kd.M (Kd.int .i64) _ _ _ 0 [.int .i64 0] from rfl) (Reps.one (show Kd.M (Kd.int .i64) _ _ _ 0 [.int .i64 0] from rfl) (Reps.one (show Kd.M (Kd.int .i64) _ _ _ 0 [.int .i64 0] from rfl) (Reps.none _ _)))));intro v935 w56 ho57 hb hg_ hnew_;clear hg_ hnew_;(first|rw[←Ny934.out] at ho57|(simp only[Int.reduceToNat] at ho57;rw[←Ny934.out] at ho57));replace HO_5:=Aside0.mk (Kd.N_elder' (za11 HO_5) (Kd.R_base ho57) hb);replace HO930:=Aside0.mk (Kd.V_elder' (za19 HO930) (Kd.R_base ho57) hb);replace HO933:=Aside0.mk (Kd.N_elder' (za11 HO933) (Kd.R_base ho57) hb);have HO936:=Aside0.mk (Kd.R_lower ho57 (below_size (za1 HB)));replace HB:=Aside0.mk (qab (za1 HB) hb);clear hb ho57;obtain⟨Ao58,co58,eo58⟩:=Kd.R_slice HO936.out;subst eo58)|((with_reducible refine gate_builtin (b:=.append) (xs:=#[.tmp 48,.tmp 51]) rfl ?_);(try(refine qaq (by rfl) ?_;dsimp only));at_builtin;refine Kd.N_append k73 (w0:=w) w.heap.size rfl (.tmp 48) (.tmp 51) 69 73 (.agg #[(.slice none 0 0),(.int .i64 0)]) 32 rfl Try.underlying69 info73 rfl (by decide) (by omega) v932 y931 (⟨y934,1⟩:S73) [.slice Ao58 y934.length co58,.int .i64 1] (fun _=>True) (fun k_=>((fun _=>True)) k_∧some k_≠(v932:Value).ownBlock) rfl rfl ?aP (fun _ hk=>hk) ?aF ?aO ?aB ?aS ?aL ?_;(case aP=>exact(k73_mkF _ _ (⟨y934,1⟩:S73) (Kd.R_reads' (Kd.R_mono (ok':=(fun k_=>((fun _=>True)) k_∧some k_≠(v932:Value).ownBlock)) (Kd.R_apart' (HO936.out) (Kd.N_typed HO933.out) (by decide)) (fun k_ hk=>⟨trivial,hk.2⟩))).2.1 (Kd.R_F (Kd.R_mono (ok':=(fun k_=>((fun _=>True)) k_∧some k_≠(v932:Value).ownBlock)) (Kd.R_apart' (HO936.out) (Kd.N_typed HO933.out) (by decide)) (fun k_ hk=>⟨trivial,hk.2⟩)))));(case aB=>exact(za1 HB));(case aF=>exact(fun _ _=>trivial));(case aO=>exact(by(with_reducible repeat(first|apply Kd.N_alloc|apply Kd.N_drewN|apply Kd.N_drew));exact Kd.N_mono HO933.out (fun _ hk=>trivial)));(case aS=>exact(below_size (za1 HB)));(case aL=>have:=LMc22.out;omega);intro v938 w59 ho hb hg hat;rw[←Ny937.out] at ho;replace HO_5:=Aside0.mk (Kd.N_afterv (ok:=(fun k_=>some k_≠(.slice Ao58 y934.length co58:Value).ownBlock)) (by(with_reducible repeat(first|apply Kd.N_alloc|apply Kd.N_drewN|apply Kd.N_drew));exact Kd.N_mono HO_5.out (fun _ hk=>⟨hk.2,hk.1.2⟩)) hg hat);replace HO930:=Aside0.mk (Kd.V_afterv (ok:=(fun k_=>some k_≠(.slice Ao58 y934.length co58:Value).ownBlock)) (by(with_reducible repeat(first|apply Kd.V_alloc|apply Kd.V_drewN|apply Kd.V_drew));exact Kd.V_mono HO930.out (fun _ hk=>⟨hk.2,hk.1.2⟩)) hg hat);replace HB:=Aside0.mk hb;have HO939:=Aside0.mk ho;clear HO933 HO936;clear ho hb hg hat)|((with_reducible refine qah (N:=53) rfl ?_);(try(refine qaq (by rfl) ?_;dsimp only));refine Kd.N_lit k73 _ 73 ?hg (N':=53) ?hd (xs:=([]:List (S73))) (inner:=[]) (ok:=(fun k_=>some k_≠(.slice Ao10 t917.length co10:Value).ownBlock∧some k_≠(v938:Value).ownBlock)) (okp:=(fun k_=>some k_≠(.slice Ao10 t917.length co10:Value).ownBlock∧some k_≠(v938:Value).ownBlock)) ?hr ?hp (fun _ hk=>hk) ((show ∀k_,w59.heap.size≤k_→(fun k_=>some k_≠(.slice Ao10 t917.length co10:Value).ownBlock∧some k_≠(v938:Value).ownBlock) k_ from fun k_ hk=>⟨Kd.fresh' (Kd.N_lt (za11 HO_5)) k_ hk,Kd.fresh' (Kd.N_lt (za11 HO939)) k_ hk⟩) _ (Nat.le_refl _)) (Below.refl _ _) (Nat.le_refl _) (by simp) ?_;(case hd=>rfl);(case hg=>rfl);(case hr=>first|(go_simp;done)|(go_simp;rfl));(case hp=>exact(Reps.none _ _));intro v941 w60 ho61 hb hg_ hnew_;clear hg_ hnew_;(first|rw[←Ny940.out] at ho61|(simp only[Int.reduceToNat] at ho61;rw[←Ny940.out] at ho61));replace HO_5:=Aside0.mk (Kd.N_elder' (za11 HO_5) (by first|exact Kd.N_base ho61|exact Kd.S_base ho61|exact Kd.R_base ho61) hb);replace HO930:=Aside0.mk (Kd.V_elder' (za19 HO930) (by first|exact Kd.N_base ho61|exact Kd.S_base ho61|exact Kd.R_base ho61) hb);replace HO939:=Aside0.mk (Kd.N_elder' (za11 HO939) (by first|exact Kd.N_base ho61|exact Kd.S_base ho61|exact Kd.R_base ho61) hb);have HO942:=Aside0.mk (Kd.N_lower ho61 (below_size (za1 HB)));replace HB:=Aside0.mk (qab (za1 HB) hb);clear hb ho61)|((with_reducible refine gate_builtin (b:=.append) (xs:=#[.tmp 53,.tmp 56]) rfl ?_);(try(refine qaq (by rfl) ?_;dsimp only));at_builtin;refine Kd.N_append_rows k73 (w0:=w) w.heap.size rfl (.tmp 53) (.tmp 56) 69 73 (.agg #[(.slice none 0 0),(.int .i64 0)]) 32 rfl Try.underlying69 info73 rfl (by decide) (by omega) v941 y940 y926 _ _ _ (fun k_=>some k_≠(v938:Value).ownBlock) (fun k_=>((fun k_=>some k_≠(v938:Value).ownBlock)) k_∧some k_≠(v941:Value).ownBlock) rfl rfl ?aO ?aR (fun _ hk=>hk) ?aF ?aB ?aS ?aL ?_;(case aR=>exact(by skip;exact Kd.V_F (Kd.V_mono (ok':=(fun k_=>((fun k_=>some k_≠(v938:Value).ownBlock)) k_∧some k_≠(v941:Value).ownBlock)) (HO930.out) (fun k_ hk=>⟨hk.1.2,hk.2⟩))));(case aB=>exact(za1 HB));(case aF=>exact(fun k_ hk=>Kd.fresh' (Kd.N_lt (za11 HO939)) k_ hk));(case aO=>exact(by(with_reducible repeat(first|apply Kd.N_alloc|apply Kd.N_drewN|apply Kd.N_drew));exact Kd.N_mono HO942.out (fun _ hk=>hk.2)));(case aS=>exact(below_size (za1 HB)));(case aL=>have:=LMc25.out;omega);intro v949 w62 ho hb hg hat;rw[←Ny948.out] at ho;replace HO_5:=Aside0.mk (Kd.N_afterv (ok:=(fun k_=>some k_≠(v938:Value).ownBlock)) (by(with_reducible repeat(first|apply Kd.N_alloc|apply Kd.N_drewN|apply Kd.N_drew));exact Kd.N_mono HO_5.out (fun _ hk=>⟨hk.1.2,hk.2⟩)) hg hat);replace HO930:=Aside0.mk (Kd.V_afterv (ok:=(fun k_=>some k_≠(v938:Value).ownBlock)) (by(with_reducible repeat(first|apply Kd.V_alloc|apply Kd.V_drewN|apply Kd.V_drew));exact Kd.V_mono HO930.out (fun _ hk=>⟨hk.1.2,hk.2⟩)) hg hat);replace HO939:=Aside0.mk (Kd.N_afterv (ok:=(fun _=>True)) (za11 HO939) hg hat);replace HB:=Aside0.mk hb;have HO950:=Aside0.mk ho;clear HO942;clear ho hb hg hat)|((with_reducible refine qah (N:=58) rfl ?_);(try(refine qaq (by rfl) ?_;dsimp only));refine Kd.R_lit (Kd.int .i64) _ 3 (by rfl) (N:=58) (by rfl) (xs:=([1,0,0]:List Int)) (inner:=[.int .i64 1,.int .i64 0,.int .i64 0]) (ok:=fun _=>True) (okp:=fun _=>True) (by first|(go_simp;done)|(go_simp;rfl)) ?hp (fun _ hk=>hk) trivial (Below.refl _ _) (Nat.le_refl _) (by simp) ?_;(case hp=>exact(Reps.one (show Kd.M (Kd.int .i64) _ _ _ 1 [.int .i64 1] from rfl) (Reps.one (show Kd.M (Kd.int .i64) _ _ _ 0 [.int .i64 0] from rfl) (Reps.one (show Kd.M (Kd.int .i64) _ _ _ 0 [.int .i64 0] from rfl) (Reps.none _ _)))));intro v952 w63 ho64 hb hg_ hnew_;clear hg_ hnew_;(first|rw[←Ny951.out] at ho64|(simp only[Int.reduceToNat] at ho64;rw[←Ny951.out] at ho64));replace HO_5:=Aside0.mk (Kd.N_elder' (za11 HO_5) (Kd.R_base ho64) hb);replace HO930:=Aside0.mk (Kd.V_elder' (za19 HO930) (Kd.R_base ho64) hb);replace HO939:=Aside0.mk (Kd.N_elder' (za11 HO939) (Kd.R_base ho64) hb);replace HO950:=Aside0.mk (Kd.N_elder' (za11 HO950) (Kd.R_base ho64) hb);have HO953:=Aside0.mk (Kd.R_lower ho64 (below_size (za1 HB)));replace HB:=Aside0.mk (qab (za1 HB) hb);clear hb ho64;obtain⟨Ao65,co65,eo65⟩:=Kd.R_slice HO953.out;subst eo65)|((with_reducible refine gate_builtin (b:=.append) (xs:=#[.tmp 57,.tmp 60]) rfl ?_);(try(refine qaq (by rfl) ?_;dsimp only));at_builtin;refine Kd.N_append k73 (w0:=w) w.heap.size rfl (.tmp 57) (.tmp 60) 69 73 (.agg #[(.slice none 0 0),(.int .i64 0)]) 32 rfl Try.underlying69 info73 rfl (by decide) (by omega) v949 y948 (⟨y951,0⟩:S73) [.slice Ao65 y951.length co65,.int .i64 0] (fun k_=>some k_≠(v938:Value).ownBlock) (fun k_=>((fun k_=>some k_≠(v938:Value).ownBlock)) k_∧some k_≠(v949:Value).ownBlock) rfl rfl ?aP (fun _ hk=>hk) ?aF ?aO ?aB ?aS ?aL ?_;(case aP=>exact(k73_mkF _ _ (⟨y951,0⟩:S73) (Kd.R_reads' (Kd.R_mono (ok':=(fun k_=>((fun k_=>some k_≠(v938:Value).ownBlock)) k_∧some k_≠(v949:Value).ownBlock)) (Kd.R_apart' (Kd.R_apart' (HO953.out) (Kd.N_typed HO939.out) (by decide)) (Kd.N_typed HO950.out) (by decide)) (fun k_ hk=>⟨hk.1.2,hk.2⟩))).2.1 (Kd.R_F (Kd.R_mono (ok':=(fun k_=>((fun k_=>some k_≠(v938:Value).ownBlock)) k_∧some k_≠(v949:Value).ownBlock)) (Kd.R_apart' (Kd.R_apart' (HO953.out) (Kd.N_typed HO939.out) (by decide)) (Kd.N_typed HO950.out) (by decide)) (fun k_ hk=>⟨hk.1.2,hk.2⟩)))));(case aB=>exact(za1 HB));(case aF=>exact(fun k_ hk=>Kd.fresh' (Kd.N_lt (za11 HO939)) k_ hk));(case aO=>exact(by(with_reducible repeat(first|apply Kd.N_alloc|apply Kd.N_drewN|apply Kd.N_drew));exact Kd.N_mono HO950.out (fun _ hk=>hk.1)));(case aS=>exact(below_size (za1 HB)));(case aL=>have:=LMc26.out;omega);intro v955 w66 ho hb hg hat;rw[←Ny954.out] at ho;replace HO_5:=Aside0.mk (Kd.N_afterv (ok:=(fun k_=>some k_≠(v938:Value).ownBlock∧some k_≠(.slice Ao65 y951.length co65:Value).ownBlock)) (by(with_reducible repeat(first|apply Kd.N_alloc|apply Kd.N_drewN|apply Kd.N_drew));exact Kd.N_mono HO_5.out (fun _ hk=>⟨⟨hk.1.1,hk.2⟩,hk.1.2⟩)) hg hat);replace HO930:=Aside0.mk (Kd.V_afterv (ok:=(fun k_=>some k_≠(v938:Value).ownBlock∧some k_≠(.slice Ao65 y951.length co65:Value).ownBlock)) (by(with_reducible repeat(first|apply Kd.V_alloc|apply Kd.V_drewN|apply Kd.V_drew));exact Kd.V_mono HO930.out (fun _ hk=>⟨⟨hk.1.1,hk.2⟩,hk.1.2⟩)) hg hat);replace HO939:=Aside0.mk (Kd.N_afterv (ok:=(fun k_=>some k_≠(.slice Ao65 y951.length co65:Value).ownBlock)) (by(with_reducible repeat(first|apply Kd.N_alloc|apply Kd.N_drewN|apply Kd.N_drew));exact Kd.N_mono HO939.out (fun _ hk=>⟨hk.2,hk.1.2⟩)) hg hat);replace HB:=Aside0.mk hb;have HO956:=Aside0.mk ho;clear HO950 HO953;clear ho hb hg hat)|((with_reducible refine qaf (f:=46) rfl ?_);refine zF (some 65) Try.func46 #[.slice Ao10 y926.length co10] ?_;(with_reducible refine(impl_TripsOk.calls _ _ y926 true _ ?side1 ?side2 A29.out).mono ?_);(case side1=>repeat(first|exact(Kd.V_reads' HO930.out).2.2|(with_reducible refine Kd.C_alloc ?_ _)|(with_reducible refine Kd.C_drewN ?_ _)|(with_reducible refine Kd.C_drew ?_)));(case side2=>exact(Kd.V_reads' HO930.out).2.1);rintro e w67 ⟨rfl,hb⟩;refine⟨_,rfl,?_⟩;replace HO_5:=Aside0.mk (Kd.N_below (za11 HO_5) hb);replace HO930:=Aside0.mk (Kd.V_below (za19 HO930) hb);replace HO939:=Aside0.mk (Kd.N_below (za11 HO939) hb);replace HO956:=Aside0.mk (Kd.N_below (za11 HO956) hb);replace HB:=Aside0.mk (qab (za1 HB) hb);(try clear hb);obtain⟨Ao68,co68,eo68⟩:=Kd.N_slice HO939.out;subst eo68)|(go_at_call 46;(with_reducible refine(impl_TripsOk.calls _ _ y937 false _ ?side1 ?side2 A31.out).mono ?_);(case side1=>repeat(first|exact(Kd.N_reads' HO939.out).2.2|(with_reducible refine Kd.C_alloc ?_ _)|(with_reducible refine Kd.C_drewN ?_ _)|(with_reducible refine Kd.C_drew ?_)));(case side2=>exact(Kd.N_reads' HO939.out).2.1);rintro e w69 ⟨rfl,hb⟩;replace HO_5:=Aside0.mk (Kd.N_below (za11 HO_5) hb);replace HO930:=Aside0.mk (Kd.V_below (za19 HO930) hb);replace HO939:=Aside0.mk (Kd.N_below (za11 HO939) hb);replace HO956:=Aside0.mk (Kd.N_below (za11 HO956) hb);replace HB:=Aside0.mk (qab (za1 HB) hb);(try clear hb);obtain⟨Ao70,co70,eo70⟩:=Kd.N_slice HO956.out;subst eo70)|(go_at_call 46;(with_reducible refine(impl_TripsOk.calls _ _ y954 t964 _ ?side1 ?side2 A51.out).mono ?_);(case side1=>repeat(first|exact(Kd.N_reads' HO956.out).2.2|(with_reducible refine Kd.C_alloc ?_ _)|(with_reducible refine Kd.C_drewN ?_ _)|(with_reducible refine Kd.C_drew ?_)));(case side2=>exact(Kd.N_reads' HO956.out).2.1);rintro e w71 ⟨rfl,hb⟩;replace HO_5:=Aside0.mk (Kd.N_below (za11 HO_5) hb);replace HO930:=Aside0.mk (Kd.V_below (za19 HO930) hb);replace HO939:=Aside0.mk (Kd.N_below (za11 HO939) hb);replace HO956:=Aside0.mk (Kd.N_below (za11 HO956) hb);replace HB:=Aside0.mk (qab (za1 HB) hb);(try clear hb)))
                go_ret
                exact⟨by first|rfl|(simp[qam,qal]<;>rfl)|(simp only[←hji18];first|rfl|(simp[qam,qal]<;>rfl))|(simp[*,qam,qal]<;>rfl),za1 HB⟩
              ·replace c30:=Bool.eq_false_iff.mpr c30
               subst c30
               have H1:(some false)=some r:=by rw[if_neg (show ¬(false=true) by decide)] at H;exact H
               clear H
               have H:=H1
               clear H1
               obtain rfl:=Option.some.inj H
               go_wp2_with(first|((with_reducible refine qah (N:=44) rfl ?_);(try(refine qaq (by rfl) ?_;dsimp only));refine Kd.N_lit k73 _ 73 ?hg (N':=44) ?hd (xs:=([]:List (S73))) (inner:=[]) (ok:=(fun k_=>some k_≠(.slice Ao10 t917.length co10:Value).ownBlock)) (okp:=(fun k_=>some k_≠(.slice Ao10 t917.length co10:Value).ownBlock)) ?hr ?hp (fun _ hk=>hk) ((show ∀k_,wc.heap.size≤k_→(fun k_=>some k_≠(.slice Ao10 t917.length co10:Value).ownBlock) k_ from fun k_ hk=>Kd.fresh' (Kd.N_lt (za11 HO_5)) k_ hk) _ (Nat.le_refl _)) (Below.refl _ _) (Nat.le_refl _) (by simp) ?_;(case hd=>rfl);(case hg=>rfl);(case hr=>first|(go_simp;done)|(go_simp;rfl));(case hp=>exact(Reps.none _ _));intro v924 w72 ho73 hb hg_ hnew_;clear hg_ hnew_;(first|rw[←Ny923.out] at ho73|(simp only[Int.reduceToNat] at ho73;rw[←Ny923.out] at ho73));replace HO_5:=Aside0.mk (Kd.N_elder' (za11 HO_5) (by first|exact Kd.N_base ho73|exact Kd.S_base ho73|exact Kd.R_base ho73) hb);have HO925:=Aside0.mk (Kd.N_lower ho73 (below_size (za1 HB)));replace HB:=Aside0.mk (qab (za1 HB) hb);clear hb ho73;have q74:((ji18):Int)≤((t917.length:Int):Int):=of_decide_eq_true (za5);obtain⟨i074,hi074,_,hsz74,_⟩:=info_parts info73;have hroom74:t917.length≤co10:=(Kd.N_reads' HO_5.out).2.1;have hC74:Kd.F k73 _ _ Ao10 t917.length t917:=(Kd.V_at (base:=w.heap.size) (Kd.N_V HO_5.out)).2.2;have hcut74:=cut_to (P:=Try.prog) 69 73 .i64 Try.underlying69 hi074 Ao10 t917.length co10 (ji18) (of_decide_eq_true (za5)) q74 hroom74;have hr74:=Kd.F_take (m:=((ji18):Int).toNat) hC74 (by omega);have hy74:y926.length=((ji18):Int).toNat:=(by rw[Ny926.out,List.length_take];omega);rw[←Ny926.out] at hr74;rw[←hy74] at hcut74;have HO930:=Aside0.mk (show Kd.V k73 73 _ w.heap.size _ (.slice Ao10 y926.length co10) y926 from Kd.V_mk (by omega) hr74);have HC930:=Aside0.mk (show y926.length≤co10 from by omega);clear hr74 hC74 hroom74 hi074 hsz74;have KY74:=Aside0.mk hy74;clear hy74;replace q74:=eq_true q74)|((with_reducible refine gate_builtin (b:=.append) (xs:=#[.tmp 44,.tmp 47]) rfl ?_);(try(refine qaq (by rfl) ?_;dsimp only));at_builtin;refine Kd.N_append_rows k73 (w0:=w) w.heap.size rfl (.tmp 44) (.tmp 47) 69 73 (.agg #[(.slice none 0 0),(.int .i64 0)]) 32 rfl Try.underlying69 info73 rfl (by decide) (by omega) v924 y923 y926 _ _ _ (fun _=>True) (fun k_=>((fun _=>True)) k_∧some k_≠(v924:Value).ownBlock) rfl rfl ?aO ?aR (fun _ hk=>hk) ?aF ?aB ?aS ?aL ?_;(case aR=>exact(by skip;exact Kd.V_F (Kd.V_mono (ok':=(fun k_=>((fun _=>True)) k_∧some k_≠(v924:Value).ownBlock)) (HO930.out) (fun k_ hk=>⟨trivial,hk.2⟩))));(case aB=>exact(za1 HB));(case aF=>exact(fun _ _=>trivial));(case aO=>exact(by(with_reducible repeat(first|apply Kd.N_alloc|apply Kd.N_drewN|apply Kd.N_drew));exact Kd.N_mono HO925.out (fun _ hk=>trivial)));(case aS=>exact(below_size (za1 HB)));(case aL=>have:=LMc21.out;omega);intro v932 w75 ho hb hg hat;rw[←Ny931.out] at ho;replace HO_5:=Aside0.mk (Kd.N_afterv (ok:=(fun _=>True)) (za11 HO_5) hg hat);replace HO930:=Aside0.mk (Kd.V_afterv (ok:=(fun _=>True)) (za19 HO930) hg hat);replace HB:=Aside0.mk hb;have HO933:=Aside0.mk ho;clear HO925;clear ho hb hg hat)|((with_reducible refine qah (N:=49) rfl ?_);(try(refine qaq (by rfl) ?_;dsimp only));refine Kd.R_lit (Kd.int .i64) _ 3 (by rfl) (N:=49) (by rfl) (xs:=([0,0,0]:List Int)) (inner:=[.int .i64 0,.int .i64 0,.int .i64 0]) (ok:=fun _=>True) (okp:=fun _=>True) (by first|(go_simp;done)|(go_simp;rfl)) ?hp (fun _ hk=>hk) trivial (Below.refl _ _) (Nat.le_refl _) (by simp) ?_;(case hp=>exact(Reps.one (show Kd.M (Kd.int .i64) _ _ _ 0 [.int .i64 0] from rfl) (Reps.one (show Kd.M (Kd.int .i64) _ _ _ 0 [.int .i64 0] from rfl) (Reps.one (show Kd.M (Kd.int .i64) _ _ _ 0 [.int .i64 0] from rfl) (Reps.none _ _)))));intro v935 w76 ho77 hb hg_ hnew_;clear hg_ hnew_;(first|rw[←Ny934.out] at ho77|(simp only[Int.reduceToNat] at ho77;rw[←Ny934.out] at ho77));replace HO_5:=Aside0.mk (Kd.N_elder' (za11 HO_5) (Kd.R_base ho77) hb);replace HO930:=Aside0.mk (Kd.V_elder' (za19 HO930) (Kd.R_base ho77) hb);replace HO933:=Aside0.mk (Kd.N_elder' (za11 HO933) (Kd.R_base ho77) hb);have HO936:=Aside0.mk (Kd.R_lower ho77 (below_size (za1 HB)));replace HB:=Aside0.mk (qab (za1 HB) hb);clear hb ho77;obtain⟨Ao78,co78,eo78⟩:=Kd.R_slice HO936.out;subst eo78)|((with_reducible refine gate_builtin (b:=.append) (xs:=#[.tmp 48,.tmp 51]) rfl ?_);(try(refine qaq (by rfl) ?_;dsimp only));at_builtin;refine Kd.N_append k73 (w0:=w) w.heap.size rfl (.tmp 48) (.tmp 51) 69 73 (.agg #[(.slice none 0 0),(.int .i64 0)]) 32 rfl Try.underlying69 info73 rfl (by decide) (by omega) v932 y931 (⟨y934,1⟩:S73) [.slice Ao78 y934.length co78,.int .i64 1] (fun _=>True) (fun k_=>((fun _=>True)) k_∧some k_≠(v932:Value).ownBlock) rfl rfl ?aP (fun _ hk=>hk) ?aF ?aO ?aB ?aS ?aL ?_;(case aP=>exact(k73_mkF _ _ (⟨y934,1⟩:S73) (Kd.R_reads' (Kd.R_mono (ok':=(fun k_=>((fun _=>True)) k_∧some k_≠(v932:Value).ownBlock)) (Kd.R_apart' (HO936.out) (Kd.N_typed HO933.out) (by decide)) (fun k_ hk=>⟨trivial,hk.2⟩))).2.1 (Kd.R_F (Kd.R_mono (ok':=(fun k_=>((fun _=>True)) k_∧some k_≠(v932:Value).ownBlock)) (Kd.R_apart' (HO936.out) (Kd.N_typed HO933.out) (by decide)) (fun k_ hk=>⟨trivial,hk.2⟩)))));(case aB=>exact(za1 HB));(case aF=>exact(fun _ _=>trivial));(case aO=>exact(by(with_reducible repeat(first|apply Kd.N_alloc|apply Kd.N_drewN|apply Kd.N_drew));exact Kd.N_mono HO933.out (fun _ hk=>trivial)));(case aS=>exact(below_size (za1 HB)));(case aL=>have:=LMc22.out;omega);intro v938 w79 ho hb hg hat;rw[←Ny937.out] at ho;replace HO_5:=Aside0.mk (Kd.N_afterv (ok:=(fun k_=>some k_≠(.slice Ao78 y934.length co78:Value).ownBlock)) (by(with_reducible repeat(first|apply Kd.N_alloc|apply Kd.N_drewN|apply Kd.N_drew));exact Kd.N_mono HO_5.out (fun _ hk=>⟨hk.2,hk.1.2⟩)) hg hat);replace HO930:=Aside0.mk (Kd.V_afterv (ok:=(fun k_=>some k_≠(.slice Ao78 y934.length co78:Value).ownBlock)) (by(with_reducible repeat(first|apply Kd.V_alloc|apply Kd.V_drewN|apply Kd.V_drew));exact Kd.V_mono HO930.out (fun _ hk=>⟨hk.2,hk.1.2⟩)) hg hat);replace HB:=Aside0.mk hb;have HO939:=Aside0.mk ho;clear HO933 HO936;clear ho hb hg hat)|((with_reducible refine qah (N:=53) rfl ?_);(try(refine qaq (by rfl) ?_;dsimp only));refine Kd.N_lit k73 _ 73 ?hg (N':=53) ?hd (xs:=([]:List (S73))) (inner:=[]) (ok:=(fun k_=>some k_≠(.slice Ao10 t917.length co10:Value).ownBlock∧some k_≠(v938:Value).ownBlock)) (okp:=(fun k_=>some k_≠(.slice Ao10 t917.length co10:Value).ownBlock∧some k_≠(v938:Value).ownBlock)) ?hr ?hp (fun _ hk=>hk) ((show ∀k_,w79.heap.size≤k_→(fun k_=>some k_≠(.slice Ao10 t917.length co10:Value).ownBlock∧some k_≠(v938:Value).ownBlock) k_ from fun k_ hk=>⟨Kd.fresh' (Kd.N_lt (za11 HO_5)) k_ hk,Kd.fresh' (Kd.N_lt (za11 HO939)) k_ hk⟩) _ (Nat.le_refl _)) (Below.refl _ _) (Nat.le_refl _) (by simp) ?_;(case hd=>rfl);(case hg=>rfl);(case hr=>first|(go_simp;done)|(go_simp;rfl));(case hp=>exact(Reps.none _ _));intro v941 w80 ho81 hb hg_ hnew_;clear hg_ hnew_;(first|rw[←Ny940.out] at ho81|(simp only[Int.reduceToNat] at ho81;rw[←Ny940.out] at ho81));replace HO_5:=Aside0.mk (Kd.N_elder' (za11 HO_5) (by first|exact Kd.N_base ho81|exact Kd.S_base ho81|exact Kd.R_base ho81) hb);replace HO930:=Aside0.mk (Kd.V_elder' (za19 HO930) (by first|exact Kd.N_base ho81|exact Kd.S_base ho81|exact Kd.R_base ho81) hb);replace HO939:=Aside0.mk (Kd.N_elder' (za11 HO939) (by first|exact Kd.N_base ho81|exact Kd.S_base ho81|exact Kd.R_base ho81) hb);have HO942:=Aside0.mk (Kd.N_lower ho81 (below_size (za1 HB)));replace HB:=Aside0.mk (qab (za1 HB) hb);clear hb ho81)|((with_reducible refine gate_builtin (b:=.append) (xs:=#[.tmp 53,.tmp 56]) rfl ?_);(try(refine qaq (by rfl) ?_;dsimp only));at_builtin;refine Kd.N_append_rows k73 (w0:=w) w.heap.size rfl (.tmp 53) (.tmp 56) 69 73 (.agg #[(.slice none 0 0),(.int .i64 0)]) 32 rfl Try.underlying69 info73 rfl (by decide) (by omega) v941 y940 y926 _ _ _ (fun k_=>some k_≠(v938:Value).ownBlock) (fun k_=>((fun k_=>some k_≠(v938:Value).ownBlock)) k_∧some k_≠(v941:Value).ownBlock) rfl rfl ?aO ?aR (fun _ hk=>hk) ?aF ?aB ?aS ?aL ?_;(case aR=>exact(by skip;exact Kd.V_F (Kd.V_mono (ok':=(fun k_=>((fun k_=>some k_≠(v938:Value).ownBlock)) k_∧some k_≠(v941:Value).ownBlock)) (HO930.out) (fun k_ hk=>⟨hk.1.2,hk.2⟩))));(case aB=>exact(za1 HB));(case aF=>exact(fun k_ hk=>Kd.fresh' (Kd.N_lt (za11 HO939)) k_ hk));(case aO=>exact(by(with_reducible repeat(first|apply Kd.N_alloc|apply Kd.N_drewN|apply Kd.N_drew));exact Kd.N_mono HO942.out (fun _ hk=>hk.2)));(case aS=>exact(below_size (za1 HB)));(case aL=>have:=LMc25.out;omega);intro v949 w82 ho hb hg hat;rw[←Ny948.out] at ho;replace HO_5:=Aside0.mk (Kd.N_afterv (ok:=(fun k_=>some k_≠(v938:Value).ownBlock)) (by(with_reducible repeat(first|apply Kd.N_alloc|apply Kd.N_drewN|apply Kd.N_drew));exact Kd.N_mono HO_5.out (fun _ hk=>⟨hk.1.2,hk.2⟩)) hg hat);replace HO930:=Aside0.mk (Kd.V_afterv (ok:=(fun k_=>some k_≠(v938:Value).ownBlock)) (by(with_reducible repeat(first|apply Kd.V_alloc|apply Kd.V_drewN|apply Kd.V_drew));exact Kd.V_mono HO930.out (fun _ hk=>⟨hk.1.2,hk.2⟩)) hg hat);replace HO939:=Aside0.mk (Kd.N_afterv (ok:=(fun _=>True)) (za11 HO939) hg hat);replace HB:=Aside0.mk hb;have HO950:=Aside0.mk ho;clear HO942;clear ho hb hg hat)|((with_reducible refine qah (N:=58) rfl ?_);(try(refine qaq (by rfl) ?_;dsimp only));refine Kd.R_lit (Kd.int .i64) _ 3 (by rfl) (N:=58) (by rfl) (xs:=([1,0,0]:List Int)) (inner:=[.int .i64 1,.int .i64 0,.int .i64 0]) (ok:=fun _=>True) (okp:=fun _=>True) (by first|(go_simp;done)|(go_simp;rfl)) ?hp (fun _ hk=>hk) trivial (Below.refl _ _) (Nat.le_refl _) (by simp) ?_;(case hp=>exact(Reps.one (show Kd.M (Kd.int .i64) _ _ _ 1 [.int .i64 1] from rfl) (Reps.one (show Kd.M (Kd.int .i64) _ _ _ 0 [.int .i64 0] from rfl) (Reps.one (show Kd.M (Kd.int .i64) _ _ _ 0 [.int .i64 0] from rfl) (Reps.none _ _)))));intro v952 w83 ho84 hb hg_ hnew_;clear hg_ hnew_;(first|rw[←Ny951.out] at ho84|(simp only[Int.reduceToNat] at ho84;rw[←Ny951.out] at ho84));replace HO_5:=Aside0.mk (Kd.N_elder' (za11 HO_5) (Kd.R_base ho84) hb);replace HO930:=Aside0.mk (Kd.V_elder' (za19 HO930) (Kd.R_base ho84) hb);replace HO939:=Aside0.mk (Kd.N_elder' (za11 HO939) (Kd.R_base ho84) hb);replace HO950:=Aside0.mk (Kd.N_elder' (za11 HO950) (Kd.R_base ho84) hb);have HO953:=Aside0.mk (Kd.R_lower ho84 (below_size (za1 HB)));replace HB:=Aside0.mk (qab (za1 HB) hb);clear hb ho84;obtain⟨Ao85,co85,eo85⟩:=Kd.R_slice HO953.out;subst eo85)|((with_reducible refine gate_builtin (b:=.append) (xs:=#[.tmp 57,.tmp 60]) rfl ?_);(try(refine qaq (by rfl) ?_;dsimp only));at_builtin;refine Kd.N_append k73 (w0:=w) w.heap.size rfl (.tmp 57) (.tmp 60) 69 73 (.agg #[(.slice none 0 0),(.int .i64 0)]) 32 rfl Try.underlying69 info73 rfl (by decide) (by omega) v949 y948 (⟨y951,0⟩:S73) [.slice Ao85 y951.length co85,.int .i64 0] (fun k_=>some k_≠(v938:Value).ownBlock) (fun k_=>((fun k_=>some k_≠(v938:Value).ownBlock)) k_∧some k_≠(v949:Value).ownBlock) rfl rfl ?aP (fun _ hk=>hk) ?aF ?aO ?aB ?aS ?aL ?_;(case aP=>exact(k73_mkF _ _ (⟨y951,0⟩:S73) (Kd.R_reads' (Kd.R_mono (ok':=(fun k_=>((fun k_=>some k_≠(v938:Value).ownBlock)) k_∧some k_≠(v949:Value).ownBlock)) (Kd.R_apart' (Kd.R_apart' (HO953.out) (Kd.N_typed HO939.out) (by decide)) (Kd.N_typed HO950.out) (by decide)) (fun k_ hk=>⟨hk.1.2,hk.2⟩))).2.1 (Kd.R_F (Kd.R_mono (ok':=(fun k_=>((fun k_=>some k_≠(v938:Value).ownBlock)) k_∧some k_≠(v949:Value).ownBlock)) (Kd.R_apart' (Kd.R_apart' (HO953.out) (Kd.N_typed HO939.out) (by decide)) (Kd.N_typed HO950.out) (by decide)) (fun k_ hk=>⟨hk.1.2,hk.2⟩)))));(case aB=>exact(za1 HB));(case aF=>exact(fun k_ hk=>Kd.fresh' (Kd.N_lt (za11 HO939)) k_ hk));(case aO=>exact(by(with_reducible repeat(first|apply Kd.N_alloc|apply Kd.N_drewN|apply Kd.N_drew));exact Kd.N_mono HO950.out (fun _ hk=>hk.1)));(case aS=>exact(below_size (za1 HB)));(case aL=>have:=LMc26.out;omega);intro v955 w86 ho hb hg hat;rw[←Ny954.out] at ho;replace HO_5:=Aside0.mk (Kd.N_afterv (ok:=(fun k_=>some k_≠(v938:Value).ownBlock∧some k_≠(.slice Ao85 y951.length co85:Value).ownBlock)) (by(with_reducible repeat(first|apply Kd.N_alloc|apply Kd.N_drewN|apply Kd.N_drew));exact Kd.N_mono HO_5.out (fun _ hk=>⟨⟨hk.1.1,hk.2⟩,hk.1.2⟩)) hg hat);replace HO930:=Aside0.mk (Kd.V_afterv (ok:=(fun k_=>some k_≠(v938:Value).ownBlock∧some k_≠(.slice Ao85 y951.length co85:Value).ownBlock)) (by(with_reducible repeat(first|apply Kd.V_alloc|apply Kd.V_drewN|apply Kd.V_drew));exact Kd.V_mono HO930.out (fun _ hk=>⟨⟨hk.1.1,hk.2⟩,hk.1.2⟩)) hg hat);replace HO939:=Aside0.mk (Kd.N_afterv (ok:=(fun k_=>some k_≠(.slice Ao85 y951.length co85:Value).ownBlock)) (by(with_reducible repeat(first|apply Kd.N_alloc|apply Kd.N_drewN|apply Kd.N_drew));exact Kd.N_mono HO939.out (fun _ hk=>⟨hk.2,hk.1.2⟩)) hg hat);replace HB:=Aside0.mk hb;have HO956:=Aside0.mk ho;clear HO950 HO953;clear ho hb hg hat)|((with_reducible refine qaf (f:=46) rfl ?_);refine zF (some 65) Try.func46 #[.slice Ao10 y926.length co10] ?_;(with_reducible refine(impl_TripsOk.calls _ _ y926 false _ ?side1 ?side2 A29.out).mono ?_);(case side1=>repeat(first|exact(Kd.V_reads' HO930.out).2.2|(with_reducible refine Kd.C_alloc ?_ _)|(with_reducible refine Kd.C_drewN ?_ _)|(with_reducible refine Kd.C_drew ?_)));(case side2=>exact(Kd.V_reads' HO930.out).2.1);rintro e w87 ⟨rfl,hb⟩;refine⟨_,rfl,?_⟩;replace HO_5:=Aside0.mk (Kd.N_below (za11 HO_5) hb);replace HO930:=Aside0.mk (Kd.V_below (za19 HO930) hb);replace HO939:=Aside0.mk (Kd.N_below (za11 HO939) hb);replace HO956:=Aside0.mk (Kd.N_below (za11 HO956) hb);replace HB:=Aside0.mk (qab (za1 HB) hb);(try clear hb)))
               go_ret
               exact⟨by first|rfl|(simp[qam,qal]<;>rfl)|(simp only[←hji18];first|rfl|(simp[qam,qal]<;>rfl))|(simp[*,qam,qal]<;>rfl),za1 HB⟩
             ·rw[if_neg c26] at H
              exact absurd H (by simp)
            ·rw[if_neg c25] at H
             exact absurd H (by simp)
           ·rw[if_neg c22] at H
            exact absurd H (by simp)
          ·rw[if_neg c21] at H
           exact absurd H (by simp)
         ·rw[if_neg c20] at H
          exact absurd H (by simp)
        ·rw[if_neg c19] at H
         exact absurd H (by simp)
def laws_FnTripsLess.Pure:Prop:=∀(l0:List Int) (l1:List Int),l0.length≤maxLen→l0.length*1≤140737488351232→(∀x ∈ l0,(Lit.int .u8 x).wf=true)→l1.length≤maxLen→l1.length*1≤140737488351232→(∀x ∈ l1,(Lit.int .u8 x).wf=true)→∃k,laws_FnTripsLess.f k l0 l1=some true
theorem laws_FnTripsLess.walk (P:laws_FnTripsLess.Pure) (a0:Option Addr) (len0 cap0:Nat) (z0:List Int) (a1:Option Addr) (len1 cap1:Nat) (z1:List Int) (w:World) (w0:(a0=none∧len0=0∧cap0=0∧z0=[])∨∃x,a0=some x∧len0≤cap0∧cap0≤maxLen∧z0.length=cap0∧(∀i,i<z0.length→w.cell? (x.add i)=some (.int .u8 (z0.getD i 0)))∧∀n ∈ z0,(Lit.int .u8 n).wf=true) (y0:len0*1≤140737488351232) (w1:(a1=none∧len1=0∧cap1=0∧z1=[])∨∃x,a1=some x∧len1≤cap1∧cap1≤maxLen∧z1.length=cap1∧(∀i,i<z1.length→w.cell? (x.add i)=some (.int .u8 (z1.getD i 0)))∧∀n ∈ z1,(Lit.int .u8 n).wf=true) (y1:len1*1≤140737488351232) :
  Calls Try.prog 10 #[.slice a0 len0 cap0,.slice a1 len1 cap1] w fun e w'=>e=.returned (.bool true)∧Below w.heap.size w w':=by
 obtain⟨l0,rfl,hr0,hm0,hw0,hc0⟩:=ReadsInt.ofRowC w0
 obtain⟨l1,rfl,hr1,hm1,hw1,hc1⟩:=ReadsInt.ofRowC w1
 obtain⟨k,h⟩:=P l0 l1 hm0 y0 hw0 hm1 y1 hw1
 refine(laws_FnTripsLess.calls k _ _ l0 _ _ l1 true w (Kd.C_of_reads (d:=(0:Int)) (h1:=fun _=>rfl) hr0) hc0 (Kd.C_of_reads (d:=(0:Int)) (h1:=fun _=>rfl) hr1) hc1 h).mono ?_
 rintro e w' ⟨rfl,hd⟩
 exact⟨rfl,hd⟩
end Go.Proofs.Ytjccnaklodbbfaa.Print
