-- Written by squeeze.py, a program of this session, out of what print.sh and myprint.py had printed: cut to what is used, narrowed. Not trusted, Lean checks it.
import Derived.Test.YtjccnaklodbbfaaZK
import Derived.Test.YtjccnaklodbbfaaZe0
import Derived.Test.YtjccnaklodbbfaaZj0
import Derived.Test.YtjccnaklodbbfaaZu0
import Derived.Test.YtjccnaklodbbfaaZu1
namespace Go.Proofs.Ytjccnaklodbbfaa.Print
open Go.RowKit Go.Proofs.YtjccnaklodbbfaaW.PrintWords Go.Proofs.YtjccnaklodbbfaaW.PrintLast Go.Proofs.YtjccnaklodbbfaaW.PrintMore
attribute [local go_sem] max2_int min2_int max_two min_two max_three min_three max_four min_four
set_option linter.unusedVariables false
set_option linter.unusedSimpArgs false
mutual
def impl_TripsMay.j0:Nat→List (S73)→Bool→Int→Int→List Int→Option (Bool)
 |0,_,_,_,_,_=>none
 |k+1,x0,x13,x877000,x877001,x877002=>if x13=true then(some false) else((impl_stateOf.f x0 x877001).bind fun t879=>(if x877000=4 then(some (x877001 == (wrap64 ((x0.length:Int)+1)))) else(if x877000=5 then(impl_TripsMay.j1 k t879 x877000 (x877000 == 5)) else(impl_TripsMay.j1 k t879 x877000 (x877000 == 6)))))
def impl_TripsMay.j1:Nat→Int→Int→Bool→Option (Bool)
 |0,_,_,_=>none
 |k+1,x5,x19,x28=>if x28=true then(some (x5 == 1)) else(if x19=7 then(if x5=2 then(some true) else(some (x5 == 3))) else(some false))
end
def impl_TripsMay.f (k:Nat) (l0:List (S73)) (a1_0:Int) (a1_1:Int) (l1_2:List Int):Option (Bool):=(impl_TripsOk.f l0).bind fun t877=>(if t877=true then((impl_RecOk.f a1_0 a1_1 l1_2).bind fun t878=>(impl_TripsMay.j0 k l0 (!t878) a1_0 a1_1 l1_2)) else(impl_TripsMay.j0 k l0 true a1_0 a1_1 l1_2))
theorem impl_TripsMay.mono_l:∀k,(∀y0 y1 y2 y3 y4,LeO (impl_TripsMay.j0 k y0 y1 y2 y3 y4) (impl_TripsMay.j0 (k+1) y0 y1 y2 y3 y4))∧(∀y0 y1 y2,LeO (impl_TripsMay.j1 k y0 y1 y2) (impl_TripsMay.j1 (k+1) y0 y1 y2))
 |0=>⟨fun _ _ _ _ _ r h=>by simp[impl_TripsMay.j0] at h,fun _ _ _ r h=>by simp[impl_TripsMay.j1] at h⟩
 |k+1=>by
  obtain⟨ih0,ih1⟩:=impl_TripsMay.mono_l k
  refine⟨?_,?_⟩
  ·intro y0 y1 y2 y3 y4
   unfold impl_TripsMay.j0
   repeat' first
   |(with_reducible exact ih0 _ _ _ _ _)
   |(with_reducible exact ih1 _ _ _)
   |(with_reducible exact LeO.refl _)
   |(with_reducible exact LeO.none _)
   |(with_reducible refine LeO.ite ?_ ?_)
   |(with_reducible refine LeO.bind ?_ (fun _=>?_))
   |exact ih0 _ _ _ _ _
   |exact ih1 _ _ _
   |exact LeO.none _
   |refine LeO.ite ?_ ?_
   |refine LeO.bind ?_ (fun _=>?_)
  ·intro y0 y1 y2
   unfold impl_TripsMay.j1
   repeat' first
   |(with_reducible exact ih0 _ _ _ _ _)
   |(with_reducible exact ih1 _ _ _)
   |(with_reducible exact LeO.refl _)
   |(with_reducible exact LeO.none _)
   |(with_reducible refine LeO.ite ?_ ?_)
   |(with_reducible refine LeO.bind ?_ (fun _=>?_))
   |exact ih0 _ _ _ _ _
   |exact ih1 _ _ _
   |exact LeO.none _
   |refine LeO.ite ?_ ?_
   |refine LeO.bind ?_ (fun _=>?_)
theorem impl_TripsMay.mono:∀a0 a1 a2 a3 k,LeO (impl_TripsMay.f k a0 a1 a2 a3) (impl_TripsMay.f (k+1) a0 a1 a2 a3):=by
 intro a0 a1 a2 a3 k
 obtain⟨ih0,ih1⟩:=impl_TripsMay.mono_l k
 unfold impl_TripsMay.f
 repeat' first
   |(with_reducible exact ih0 _ _ _ _ _)
   |(with_reducible exact ih1 _ _ _)
   |(with_reducible exact LeO.refl _)
   |(with_reducible exact LeO.none _)
   |(with_reducible refine LeO.ite ?_ ?_)
   |(with_reducible refine LeO.bind ?_ (fun _=>?_))
   |exact ih0 _ _ _ _ _
   |exact ih1 _ _ _
   |exact LeO.none _
   |refine LeO.ite ?_ ?_
   |refine LeO.bind ?_ (fun _=>?_)
set_option maxHeartbeats 8000000 in
set_option maxRecDepth 100000 in
theorem impl_TripsMay.calls (k:Nat) (A0:Option Addr) (c0:Nat) (l0:List (S73)) (a1_0:Int) (a1_1:Int) (A1_2:Option Addr) (c1_2:Nat) (l1_2:List Int) (r:Bool) (w:World) (hr0:Kd.C k73 w A0 l0.length l0) (hc0:l0.length≤c0) (hr1_2:Kd.C (Kd.int .i64) w A1_2 l1_2.length l1_2) (hc1_2:l1_2.length≤c1_2) (h:impl_TripsMay.f k l0 a1_0 a1_1 l1_2=some r) :
  Calls Try.prog 51 #[.slice A0 l0.length c0,.agg #[.int .i64 a1_0,.int .i64 a1_1,.slice A1_2 l1_2.length c1_2]] w fun e w'=>e=.returned (.bool r)∧Below w.heap.size w w':=by
 have hu62:=Try.underlying62
 have HR0:=qal.mk hr0
 have HC0:=qal.mk hc0
 clear hr0 hc0
 have HR1_2:=qal.mk hr1_2
 have HC1_2:=qal.mk hc1_2
 clear hr1_2 hc1_2
 have HB:=qal.mk (Below.refl w.heap.size w)
 have H:((impl_TripsOk.f l0).bind fun t877=>(if t877=true then((impl_RecOk.f a1_0 a1_1 l1_2).bind fun t878=>(impl_TripsMay.j0 k l0 (!t878) a1_0 a1_1 l1_2)) else(impl_TripsMay.j0 k l0 true a1_0 a1_1 l1_2)))=some r:=h
 clear h
 have HC3:=qal.mk H
 clear H
 go_enter Try.func51,Try.ntmps51
 go_upto_region 1 with(first|((with_reducible refine qak (N:=3) rfl ?_);refine qaj ?hg (N:=3) ?hd (cs:=#[.int .i64 a1_0,.int .i64 a1_1,.slice A1_2 l1_2.length c1_2]) (t:=62) ?hr ?_;(case hd=>rfl);(case hg=>rfl);(case hr=>first|(go_simp;done)|(go_simp;rfl));intro gb876 hg w4 hbox hb;have n0_:=qal.mk (qae (za2 HB) hb);have n1_:=qal.mk (hbox);have n2_:=qal.mk ((by rw[hg];exact(qad (za2 HB)):w.heap.size≤gb876));have n3_:=qal.mk ((by rw[hg];exact(qad (za2 HB)):w.heap.size≤gb876));clear HB;have HB:=n0_;have BK876:=n1_;have GW876:=n2_;have GE876:=n3_;clear n0_ n1_ n2_ n3_;clear hb hbox hg))
 (try simp only[Act.put,List.setIfInBounds_toArray,List.set_cons_zero,List.set_cons_succ])
 go_cut [13] (fun v13 wc=>∃(kq:Nat) (x13_2:Bool),v13=.bool x13_2∧qal (impl_TripsMay.j0 kq l0 x13_2 a1_0 a1_1 l1_2=some r)∧qal (kq≤k)∧qal (wc.heap[gb876]?=some (.cells #[.int .i64 a1_0,.int .i64 a1_1,(.slice A1_2 l1_2.length c1_2)] 62 (0,0)))∧qal (Below w.heap.size w wc))
 case first=>
  have H:=HC3.out
  clear HC3
  replace H:=Option.bind_eq_some_iff.mp H
  obtain⟨t877,A50,H⟩:=H
  replace H:(if t877=true then((impl_RecOk.f a1_0 a1_1 l1_2).bind fun t878=>(impl_TripsMay.j0 k l0 (!t878) a1_0 a1_1 l1_2)) else(impl_TripsMay.j0 k l0 true a1_0 a1_1 l1_2))=some r:=H
  have A5:=qal.mk A50
  clear A50
  by_cases c6:t877=true
  ·subst c6
   have H1:((impl_RecOk.f a1_0 a1_1 l1_2).bind fun t878=>(impl_TripsMay.j0 k l0 (!t878) a1_0 a1_1 l1_2))=some r:=by rw[if_pos rfl] at H;exact H
   clear H
   have H:=H1
   clear H1
   replace H:=Option.bind_eq_some_iff.mp H
   obtain⟨t878,A70,H⟩:=H
   replace H:(impl_TripsMay.j0 k l0 (!t878) a1_0 a1_1 l1_2)=some r:=H
   have A7:=qal.mk A70
   clear A70
   have H':=qal.mk H
   clear H
   go_wp2_with(first|((with_reducible refine qai (f:=46) rfl ?_);refine qau (some 7) rfl rfl Try.func46 (by kernel_rfl) rfl #[.slice A0 l0.length c0] rfl (by(try simp only[List.map_toArray,List.map_cons,List.map_nil]);first|done|rfl|(simp only[List.length_drop,List.length_take];rfl)) ?_;(with_reducible refine(impl_TripsOk.calls _ _ l0 true _ ?side1 ?side2 A5.out).mono ?_);(case side1=>repeat(first|exact(Kd.C_below HR0.out HB.out)|(with_reducible refine Kd.C_alloc ?_ _)|(with_reducible refine Kd.C_drewN ?_ _)|(with_reducible refine Kd.C_drew ?_)));(case side2=>exact HC0.out);rintro e w8 ⟨rfl,hb⟩;refine⟨_,rfl,?_⟩;have n0_:=qal.mk (qac (g:=gb876) (o:=.cells #[.int .i64 a1_0,.int .i64 a1_1,.slice A1_2 l1_2.length c1_2] 62 (0,0)) (za0 BK876) hb);have n1_:=qal.mk (qae (za1 HB GE876) hb);clear BK876;clear HB;have BK876:=n0_;have HB:=n1_;clear n0_ n1_;(try clear hb);(try clear hb2);(try clear hk);(try clear hi);have hcz9_0:w8.cell? ⟨gb876,0,none⟩=some (.int .i64 a1_0):=(qab BK876.out 0).trans rfl;have hcz9_1:w8.cell? ⟨gb876,1,none⟩=some (.int .i64 a1_1):=(qab BK876.out 1).trans rfl;have hcz9_2:w8.cell? ⟨gb876,2,none⟩=some (.slice A1_2 l1_2.length c1_2):=(qab BK876.out 2).trans rfl;have hfz9_0:=qaa BK876.out 0;have hfz9_1:=qaa BK876.out 1;have hfz9_2:=qaa BK876.out 2)|(go_at_call 82;(with_reducible refine(impl_RecOk.calls a1_0 a1_1 _ _ l1_2 t878 _ ?side1 ?side2 A7.out).mono ?_);(case side1=>repeat(first|exact(Kd.C_below HR1_2.out HB.out)|(with_reducible refine Kd.C_alloc ?_ _)|(with_reducible refine Kd.C_drewN ?_ _)|(with_reducible refine Kd.C_drew ?_)));(case side2=>exact HC1_2.out);rintro e w10 ⟨rfl,hb⟩;have n0_:=qal.mk (qac (g:=gb876) (o:=.cells #[.int .i64 a1_0,.int .i64 a1_1,.slice A1_2 l1_2.length c1_2] 62 (0,0)) (za0 BK876) hb);have n1_:=qal.mk (qae (za1 HB GE876) hb);clear BK876;clear HB;have BK876:=n0_;have HB:=n1_;clear n0_ n1_;(try clear hb);(try clear hb2);(try clear hk);(try clear hi)))
   go_meet
   case rel=>exact⟨_,(!t878),(za22),H',⟨za46⟩,⟨za0 BK876⟩,⟨za1 HB GE876⟩⟩
  ·replace c6:=Bool.eq_false_iff.mpr c6
   subst c6
   have H1:(impl_TripsMay.j0 k l0 true a1_0 a1_1 l1_2)=some r:=by rw[if_neg (show ¬(false=true) by decide)] at H;exact H
   clear H
   have H:=H1
   clear H1
   have H':=qal.mk H
   clear H
   go_wp2_with(first|((with_reducible refine qai (f:=46) rfl ?_);refine qau (some 7) rfl rfl Try.func46 (by kernel_rfl) rfl #[.slice A0 l0.length c0] rfl (by(try simp only[List.map_toArray,List.map_cons,List.map_nil]);first|done|rfl|(simp only[List.length_drop,List.length_take];rfl)) ?_;(with_reducible refine(impl_TripsOk.calls _ _ l0 false _ ?side1 ?side2 A5.out).mono ?_);(case side1=>repeat(first|exact(Kd.C_below HR0.out HB.out)|(with_reducible refine Kd.C_alloc ?_ _)|(with_reducible refine Kd.C_drewN ?_ _)|(with_reducible refine Kd.C_drew ?_)));(case side2=>exact HC0.out);rintro e w11 ⟨rfl,hb⟩;refine⟨_,rfl,?_⟩;have n0_:=qal.mk (qac (g:=gb876) (o:=.cells #[.int .i64 a1_0,.int .i64 a1_1,.slice A1_2 l1_2.length c1_2] 62 (0,0)) (za0 BK876) hb);have n1_:=qal.mk (qae (za1 HB GE876) hb);clear BK876;clear HB;have BK876:=n0_;have HB:=n1_;clear n0_ n1_;(try clear hb);(try clear hb2);(try clear hk);(try clear hi)))
   go_meet
   case rel=>exact⟨_,(true),(za22),H',⟨za46⟩,⟨za0 BK876⟩,⟨za1 HB GE876⟩⟩
 case rest=>
  clear HC3
  try clear c1
  try clear p2
  try clear c4
  try clear c5
  try clear c6
  try clear hcz9_0
  try clear hcz9_1
  try clear hcz9_2
  try clear hfz9_0
  try clear hfz9_1
  try clear hfz9_2
  obtain⟨kq,x13_2,rfl,HA,HJ2,BK876,HB⟩:=hcut
  cases kq with
  |zero=>exact absurd HA.out (by simp[impl_TripsMay.j0])
  |succ kj2=>
   have H:=HA.out
   clear HA
   simp only[impl_TripsMay.j0] at H
   by_cases c12:x13_2=true
   ·subst c12
    have H1:(some false)=some r:=by rw[if_pos rfl] at H;exact H
    clear H
    have H:=H1
    clear H1
    obtain rfl:=Option.some.inj H
    go_wp2
    go_ret
    exact⟨za9,za1 HB GE876⟩
   ·replace c12:=Bool.eq_false_iff.mpr c12
    subst c12
    have H1:((impl_stateOf.f l0 a1_1).bind fun t879=>(if a1_0=4 then(some (a1_1 == (wrap64 ((l0.length:Int)+1)))) else(if a1_0=5 then(impl_TripsMay.j1 kj2 t879 a1_0 (a1_0 == 5)) else(impl_TripsMay.j1 kj2 t879 a1_0 (a1_0 == 6)))))=some r:=by rw[if_neg (show ¬(false=true) by decide)] at H;exact H
    clear H
    have H:=H1
    clear H1
    replace H:=Option.bind_eq_some_iff.mp H
    obtain⟨t879,A130,H⟩:=H
    replace H:(if a1_0=4 then(some (a1_1 == (wrap64 ((l0.length:Int)+1)))) else(if a1_0=5 then(impl_TripsMay.j1 kj2 t879 a1_0 (a1_0 == 5)) else(impl_TripsMay.j1 kj2 t879 a1_0 (a1_0 == 6))))=some r:=H
    have A13:=qal.mk A130
    clear A130
    by_cases c14:a1_0=4
    ·rw[if_pos c14] at H
     have c14b0:(a1_0 == 4)=true:=beq_iff_eq.mpr c14
     have c14b1:(a1_0 != 4)=false:=bne_eq_false_iff_eq.mpr c14
     clear c14
     obtain rfl:=Option.some.inj H
     have hcz15_0:wc.cell? ⟨gb876,0,none⟩=some (.int .i64 a1_0):=(qab BK876.out 0).trans rfl
     have hcz15_1:wc.cell? ⟨gb876,1,none⟩=some (.int .i64 a1_1):=(qab BK876.out 1).trans rfl
     have hcz15_2:wc.cell? ⟨gb876,2,none⟩=some (.slice A1_2 l1_2.length c1_2):=(qab BK876.out 2).trans rfl
     have hfz15_0:=qaa BK876.out 0
     have hfz15_1:=qaa BK876.out 1
     have hfz15_2:=qaa BK876.out 2
     go_wp2_with(first|((with_reducible refine qai (f:=95) rfl ?_);refine qau (some 17) rfl rfl Try.func95 (by kernel_rfl) rfl #[.slice A0 l0.length c0,.int .i64 a1_1] rfl (by(try simp only[List.map_toArray,List.map_cons,List.map_nil]);first|done|rfl|(simp only[List.length_drop,List.length_take];rfl)) ?_;(with_reducible refine(impl_stateOf.calls _ _ l0 a1_1 t879 _ ?side1 ?side2 A13.out).mono ?_);(case side1=>repeat(first|exact(Kd.C_below HR0.out HB.out)|(with_reducible refine Kd.C_alloc ?_ _)|(with_reducible refine Kd.C_drewN ?_ _)|(with_reducible refine Kd.C_drew ?_)));(case side2=>exact HC0.out);rintro e w' ⟨rfl,⟨nd,rfl⟩⟩;refine⟨_,rfl,?_⟩))
     go_ret
     exact⟨za9,za1 HB GE876⟩
    ·rw[if_neg c14] at H
     have c14b0:(a1_0 == 4)=false:=beq_eq_false_iff_ne.mpr c14
     have c14b1:(a1_0 != 4)=true:=bne_iff_ne.mpr c14
     have HC16:=qal.mk H
     clear H
     have hcz17_0:wc.cell? ⟨gb876,0,none⟩=some (.int .i64 a1_0):=(qab BK876.out 0).trans rfl
     have hcz17_1:wc.cell? ⟨gb876,1,none⟩=some (.int .i64 a1_1):=(qab BK876.out 1).trans rfl
     have hcz17_2:wc.cell? ⟨gb876,2,none⟩=some (.slice A1_2 l1_2.length c1_2):=(qab BK876.out 2).trans rfl
     have hfz17_0:=qaa BK876.out 0
     have hfz17_1:=qaa BK876.out 1
     have hfz17_2:=qaa BK876.out 2
     go_upto_if 28 with(first|((with_reducible refine qai (f:=95) rfl ?_);refine qau (some 17) rfl rfl Try.func95 (by kernel_rfl) rfl #[.slice A0 l0.length c0,.int .i64 a1_1] rfl (by(try simp only[List.map_toArray,List.map_cons,List.map_nil]);first|done|rfl|(simp only[List.length_drop,List.length_take];rfl)) ?_;(with_reducible refine(impl_stateOf.calls _ _ l0 a1_1 t879 _ ?side1 ?side2 A13.out).mono ?_);(case side1=>repeat(first|exact(Kd.C_below HR0.out HB.out)|(with_reducible refine Kd.C_alloc ?_ _)|(with_reducible refine Kd.C_drewN ?_ _)|(with_reducible refine Kd.C_drew ?_)));(case side2=>exact HC0.out);rintro e w' ⟨rfl,⟨nd,rfl⟩⟩;refine⟨_,rfl,?_⟩))
     (try simp only[Act.put,List.setIfInBounds_toArray,List.set_cons_zero,List.set_cons_succ])
     go_cut [28] (fun v28 wc=>∃(kq:Nat) (x28_15:Bool),v28=.bool x28_15∧qal (impl_TripsMay.j1 kq t879 a1_0 x28_15=some r)∧qal (kq≤kj2)∧qal (wc.heap[gb876]?=some (.cells #[.int .i64 a1_0,.int .i64 a1_1,(.slice A1_2 l1_2.length c1_2)] 62 (0,0)))∧qal (Below w.heap.size w wc))
     case first=>
      have H:=HC16.out
      clear HC16
      by_cases c18:a1_0=5
      ·rw[if_pos c18] at H
       have c18b0:(a1_0 == 5)=true:=beq_iff_eq.mpr c18
       have c18b1:(a1_0 != 5)=false:=bne_eq_false_iff_eq.mpr c18
       clear c18
       (first|rw[c18b0]|(simp only[qas,qat];rw[c18b0])|skip)
       have H':=qal.mk H
       clear H
       go_wp2
       go_meet
       case rel=>exact⟨_,((a1_0 == 5)),(za22),H',⟨by have:=HJ2.out;first|omega|exact Nat.le_refl _⟩,⟨za0 BK876⟩,⟨za1 HB GE876⟩⟩
      ·rw[if_neg c18] at H
       have c18b0:(a1_0 == 5)=false:=beq_eq_false_iff_ne.mpr c18
       have c18b1:(a1_0 != 5)=true:=bne_iff_ne.mpr c18
       (first|rw[c18b0]|(simp only[qas,qat];rw[c18b0])|skip)
       have H':=qal.mk H
       clear H
       go_wp2
       go_meet
       case rel=>exact⟨_,((a1_0 == 6)),(za22),H',⟨by have:=HJ2.out;first|omega|exact Nat.le_refl _⟩,⟨za0 BK876⟩,⟨za1 HB GE876⟩⟩
     case rest=>
      clear HC16
      try clear c1
      try clear p2
      try clear c4
      try clear c5
      try clear c6
      try clear p6
      try clear c9
      try clear c12
      try clear c14
      try clear c14b0
      try clear c14b1
      try clear c18
      try clear c18b0
      try clear c18b1
      try clear hcz15_0
      try clear hcz15_1
      try clear hcz15_2
      try clear hcz17_0
      try clear hcz17_1
      try clear hcz17_2
      try clear hcz9_0
      try clear hcz9_1
      try clear hcz9_2
      try clear hfz15_0
      try clear hfz15_1
      try clear hfz15_2
      try clear hfz17_0
      try clear hfz17_1
      try clear hfz17_2
      try clear hfz9_0
      try clear hfz9_1
      try clear hfz9_2
      try clear p2
      obtain⟨kq,x28_15,rfl,HA,HJ15,BK876,HB⟩:=hcut
      cases kq with
      |zero=>exact absurd HA.out (by simp[impl_TripsMay.j1])
      |succ kj15=>
       have H:=HA.out
       clear HA
       simp only[impl_TripsMay.j1] at H
       by_cases c19:x28_15=true
       ·subst c19
        have H1:(some (t879 == 1))=some r:=by rw[if_pos rfl] at H;exact H
        clear H
        have H:=H1
        clear H1
        obtain rfl:=Option.some.inj H
        go_wp2
        go_ret
        exact⟨za9,za1 HB GE876⟩
       ·replace c19:=Bool.eq_false_iff.mpr c19
        subst c19
        have H1:(if a1_0=7 then(if t879=2 then(some true) else(some (t879 == 3))) else(some false))=some r:=by rw[if_neg (show ¬(false=true) by decide)] at H;exact H
        clear H
        have H:=H1
        clear H1
        by_cases c20:a1_0=7
        ·rw[if_pos c20] at H
         have c20b0:(a1_0 == 7)=true:=beq_iff_eq.mpr c20
         have c20b1:(a1_0 != 7)=false:=bne_eq_false_iff_eq.mpr c20
         clear c20
         by_cases c21:t879=2
         ·rw[if_pos c21] at H
          have c21b0:(t879 == 2)=true:=beq_iff_eq.mpr c21
          have c21b1:(t879 != 2)=false:=bne_eq_false_iff_eq.mpr c21
          clear c21
          obtain rfl:=Option.some.inj H
          go_wp2
          go_ret
          exact⟨za9,za1 HB GE876⟩
         ·rw[if_neg c21] at H
          have c21b0:(t879 == 2)=false:=beq_eq_false_iff_ne.mpr c21
          have c21b1:(t879 != 2)=true:=bne_iff_ne.mpr c21
          obtain rfl:=Option.some.inj H
          go_wp2
          go_ret
          exact⟨za9,za1 HB GE876⟩
        ·rw[if_neg c20] at H
         have c20b0:(a1_0 == 7)=false:=beq_eq_false_iff_ne.mpr c20
         have c20b1:(a1_0 != 7)=true:=bne_iff_ne.mpr c20
         obtain rfl:=Option.some.inj H
         go_wp2
         go_ret
         exact⟨za9,za1 HB GE876⟩
def laws_eqTrip.f (k:Nat) (l0_0:List Int) (a0_1:Int) (l1_0:List Int) (a1_1:Int):Option (Bool):=(laws_eqIntS.f k l0_0 l1_0).bind fun t882=>(if t882=true then(if a0_1=a1_1 then(some true) else(some false)) else(some false))
theorem laws_eqTrip.mono:∀a0 a1 a2 a3 k,LeO (laws_eqTrip.f k a0 a1 a2 a3) (laws_eqTrip.f (k+1) a0 a1 a2 a3):=by
 intro a0 a1 a2 a3 k
 unfold laws_eqTrip.f
 repeat' first
   |(with_reducible exact laws_eqIntS.mono _ _ _)
   |(with_reducible exact LeO.refl _)
   |(with_reducible exact LeO.none _)
   |(with_reducible refine LeO.ite ?_ ?_)
   |(with_reducible refine LeO.bind ?_ (fun _=>?_))
   |exact laws_eqIntS.mono _ _ _
   |exact LeO.none _
   |refine LeO.ite ?_ ?_
   |refine LeO.bind ?_ (fun _=>?_)
set_option maxHeartbeats 8000000 in
set_option maxRecDepth 100000 in
theorem laws_eqTrip.calls (k:Nat) (A0_0:Option Addr) (c0_0:Nat) (l0_0:List Int) (a0_1:Int) (A1_0:Option Addr) (c1_0:Nat) (l1_0:List Int) (a1_1:Int) (r:Bool) (w:World) (hr0_0:Kd.C (Kd.int .i64) w A0_0 l0_0.length l0_0) (hc0_0:l0_0.length≤c0_0) (hr1_0:Kd.C (Kd.int .i64) w A1_0 l1_0.length l1_0) (hc1_0:l1_0.length≤c1_0) (h:laws_eqTrip.f k l0_0 a0_1 l1_0 a1_1=some r) :
  Calls Try.prog 96 #[.agg #[.slice A0_0 l0_0.length c0_0,.int .i64 a0_1],.agg #[.slice A1_0 l1_0.length c1_0,.int .i64 a1_1]] w fun e w'=>e=.returned (.bool r)∧Below w.heap.size w w':=by
 have hu73:=Try.underlying73
 have HR0_0:=qal.mk hr0_0
 have HC0_0:=qal.mk hc0_0
 clear hr0_0 hc0_0
 have HR1_0:=qal.mk hr1_0
 have HC1_0:=qal.mk hc1_0
 clear hr1_0 hc1_0
 have HB:=qal.mk (Below.refl w.heap.size w)
 have H:((laws_eqIntS.f k l0_0 l1_0).bind fun t882=>(if t882=true then(if a0_1=a1_1 then(some true) else(some false)) else(some false)))=some r:=h
 clear h
 replace H:=Option.bind_eq_some_iff.mp H
 obtain⟨t882,A30,H⟩:=H
 replace H:(if t882=true then(if a0_1=a1_1 then(some true) else(some false)) else(some false))=some r:=H
 have A3:=qal.mk A30
 clear A30
 by_cases c4:t882=true
 ·subst c4
  have H1:(if a0_1=a1_1 then(some true) else(some false))=some r:=by rw[if_pos rfl] at H;exact H
  clear H
  have H:=H1
  clear H1
  by_cases c5:a0_1=a1_1
  ·rw[if_pos c5] at H
   have c5b0:(a0_1 == a1_1)=true:=beq_iff_eq.mpr c5
   have c5b1:(a0_1 != a1_1)=false:=bne_eq_false_iff_eq.mpr c5
   clear c5
   obtain rfl:=Option.some.inj H
   go_enter Try.func96,Try.ntmps96
   go_wp2_with(first|((with_reducible refine qak (N:=2) rfl ?_);refine qaj ?hg (N:=2) ?hd (cs:=#[.slice A0_0 l0_0.length c0_0,.int .i64 a0_1]) (t:=73) ?hr ?_;(case hd=>rfl);(case hg=>rfl);(case hr=>first|(go_simp;done)|(go_simp;rfl));intro gb880 hg w6 hbox hb;have n0_:=qal.mk (qae (za2 HB) hb);have n1_:=qal.mk (hbox);have n2_:=qal.mk ((by rw[hg];exact(qad (za2 HB)):w.heap.size≤gb880));have n3_:=qal.mk ((by rw[hg];exact(qad (za2 HB)):w.heap.size≤gb880));clear HB;have HB:=n0_;have BK880:=n1_;have GW880:=n2_;have GE880:=n3_;clear n0_ n1_ n2_ n3_;clear hb hbox hg)|((with_reducible refine qak (N:=3) rfl ?_);refine qaj ?hg (N:=3) ?hd (cs:=#[.slice A1_0 l1_0.length c1_0,.int .i64 a1_1]) (t:=73) ?hr ?_;(case hd=>rfl);(case hg=>rfl);(case hr=>first|(go_simp;done)|(go_simp;rfl));intro gb881 hg w7 hbox hb;have n0_:=qal.mk (qac (g:=gb880) (o:=.cells #[.slice A0_0 l0_0.length c0_0,.int .i64 a0_1] 73 (0,0)) (za0 BK880) hb);have n1_:=qal.mk (qae (za1 HB GE880) hb);have n2_:=qal.mk (hbox);have n3_:=qal.mk ((by rw[hg];exact(qad (za1 HB GE880)):w.heap.size≤gb881));have n4_:=qal.mk ((by rw[hg];exact(qad (za1 HB GE880)):w.heap.size≤gb881));have n5_:=qal.mk ((by rw[hg];exact Nat.ne_of_lt (qao (g:=gb880) (o:=.cells #[.slice A0_0 l0_0.length c0_0,.int .i64 a0_1] 73 (0,0)) (za0 BK880)):gb880≠gb881));have n6_:=qal.mk ((by rw[hg];exact Nat.ne_of_gt (qao (g:=gb880) (o:=.cells #[.slice A0_0 l0_0.length c0_0,.int .i64 a0_1] 73 (0,0)) (za0 BK880)):gb881≠gb880));clear BK880;clear HB;have BK880:=n0_;have HB:=n1_;have BK881:=n2_;have GW881:=n3_;have GE881:=n4_;have NB880_881:=n5_;have NB881_880:=n6_;clear n0_ n1_ n2_ n3_ n4_ n5_ n6_;clear hb hbox hg;have hnb8:=NB880_881.out;have hnc8:=NB881_880.out;have hcz9_0:w7.cell? ⟨gb880,0,none⟩=some (.slice A0_0 l0_0.length c0_0):=(qab BK880.out 0).trans rfl;have hcz9_1:w7.cell? ⟨gb880,1,none⟩=some (.int .i64 a0_1):=(qab BK880.out 1).trans rfl;have hfz9_0:=qaa BK880.out 0;have hfz9_1:=qaa BK880.out 1;have hcz10_0:w7.cell? ⟨gb881,0,none⟩=some (.slice A1_0 l1_0.length c1_0):=(qab BK881.out 0).trans rfl;have hcz10_1:w7.cell? ⟨gb881,1,none⟩=some (.int .i64 a1_1):=(qab BK881.out 1).trans rfl;have hfz10_0:=qaa BK881.out 0;have hfz10_1:=qaa BK881.out 1)|((with_reducible refine qai (f:=84) rfl ?_);refine qau (some 9) rfl rfl Try.func84 (by kernel_rfl) rfl #[.slice A0_0 l0_0.length c0_0,.slice A1_0 l1_0.length c1_0] rfl (by(try simp only[List.map_toArray,List.map_cons,List.map_nil]);first|done|rfl|(simp only[List.length_drop,List.length_take];rfl)) ?_;(with_reducible refine(laws_eqIntS.calls k _ _ l0_0 _ _ l1_0 true _ ?side1 ?side2 ?side3 ?side4 A3.out).mono ?_);(case side1=>repeat(first|exact(Kd.C_below HR0_0.out HB.out)|(with_reducible refine Kd.C_alloc ?_ _)|(with_reducible refine Kd.C_drewN ?_ _)|(with_reducible refine Kd.C_drew ?_)));(case side2=>exact HC0_0.out);(case side3=>repeat(first|exact(Kd.C_below HR1_0.out HB.out)|(with_reducible refine Kd.C_alloc ?_ _)|(with_reducible refine Kd.C_drewN ?_ _)|(with_reducible refine Kd.C_drew ?_)));(case side4=>exact HC1_0.out);rintro e w' ⟨rfl,⟨nd,rfl⟩⟩;refine⟨_,rfl,?_⟩))
   go_ret
   exact⟨za9,za3 HB GE880 GE881⟩
  ·rw[if_neg c5] at H
   have c5b0:(a0_1 == a1_1)=false:=beq_eq_false_iff_ne.mpr c5
   have c5b1:(a0_1 != a1_1)=true:=bne_iff_ne.mpr c5
   obtain rfl:=Option.some.inj H
   go_enter Try.func96,Try.ntmps96
   go_wp2_with(first|((with_reducible refine qak (N:=2) rfl ?_);refine qaj ?hg (N:=2) ?hd (cs:=#[.slice A0_0 l0_0.length c0_0,.int .i64 a0_1]) (t:=73) ?hr ?_;(case hd=>rfl);(case hg=>rfl);(case hr=>first|(go_simp;done)|(go_simp;rfl));intro gb880 hg w11 hbox hb;have n0_:=qal.mk (qae (za2 HB) hb);have n1_:=qal.mk (hbox);have n2_:=qal.mk ((by rw[hg];exact(qad (za2 HB)):w.heap.size≤gb880));have n3_:=qal.mk ((by rw[hg];exact(qad (za2 HB)):w.heap.size≤gb880));clear HB;have HB:=n0_;have BK880:=n1_;have GW880:=n2_;have GE880:=n3_;clear n0_ n1_ n2_ n3_;clear hb hbox hg)|((with_reducible refine qak (N:=3) rfl ?_);refine qaj ?hg (N:=3) ?hd (cs:=#[.slice A1_0 l1_0.length c1_0,.int .i64 a1_1]) (t:=73) ?hr ?_;(case hd=>rfl);(case hg=>rfl);(case hr=>first|(go_simp;done)|(go_simp;rfl));intro gb881 hg w12 hbox hb;have n0_:=qal.mk (qac (g:=gb880) (o:=.cells #[.slice A0_0 l0_0.length c0_0,.int .i64 a0_1] 73 (0,0)) (za0 BK880) hb);have n1_:=qal.mk (qae (za1 HB GE880) hb);have n2_:=qal.mk (hbox);have n3_:=qal.mk ((by rw[hg];exact(qad (za1 HB GE880)):w.heap.size≤gb881));have n4_:=qal.mk ((by rw[hg];exact(qad (za1 HB GE880)):w.heap.size≤gb881));have n5_:=qal.mk ((by rw[hg];exact Nat.ne_of_lt (qao (g:=gb880) (o:=.cells #[.slice A0_0 l0_0.length c0_0,.int .i64 a0_1] 73 (0,0)) (za0 BK880)):gb880≠gb881));have n6_:=qal.mk ((by rw[hg];exact Nat.ne_of_gt (qao (g:=gb880) (o:=.cells #[.slice A0_0 l0_0.length c0_0,.int .i64 a0_1] 73 (0,0)) (za0 BK880)):gb881≠gb880));clear BK880;clear HB;have BK880:=n0_;have HB:=n1_;have BK881:=n2_;have GW881:=n3_;have GE881:=n4_;have NB880_881:=n5_;have NB881_880:=n6_;clear n0_ n1_ n2_ n3_ n4_ n5_ n6_;clear hb hbox hg;have hnb13:=NB880_881.out;have hnc13:=NB881_880.out;have hcz14_0:w12.cell? ⟨gb880,0,none⟩=some (.slice A0_0 l0_0.length c0_0):=(qab BK880.out 0).trans rfl;have hcz14_1:w12.cell? ⟨gb880,1,none⟩=some (.int .i64 a0_1):=(qab BK880.out 1).trans rfl;have hfz14_0:=qaa BK880.out 0;have hfz14_1:=qaa BK880.out 1;have hcz15_0:w12.cell? ⟨gb881,0,none⟩=some (.slice A1_0 l1_0.length c1_0):=(qab BK881.out 0).trans rfl;have hcz15_1:w12.cell? ⟨gb881,1,none⟩=some (.int .i64 a1_1):=(qab BK881.out 1).trans rfl;have hfz15_0:=qaa BK881.out 0;have hfz15_1:=qaa BK881.out 1)|((with_reducible refine qai (f:=84) rfl ?_);refine qau (some 9) rfl rfl Try.func84 (by kernel_rfl) rfl #[.slice A0_0 l0_0.length c0_0,.slice A1_0 l1_0.length c1_0] rfl (by(try simp only[List.map_toArray,List.map_cons,List.map_nil]);first|done|rfl|(simp only[List.length_drop,List.length_take];rfl)) ?_;(with_reducible refine(laws_eqIntS.calls k _ _ l0_0 _ _ l1_0 true _ ?side1 ?side2 ?side3 ?side4 A3.out).mono ?_);(case side1=>repeat(first|exact(Kd.C_below HR0_0.out HB.out)|(with_reducible refine Kd.C_alloc ?_ _)|(with_reducible refine Kd.C_drewN ?_ _)|(with_reducible refine Kd.C_drew ?_)));(case side2=>exact HC0_0.out);(case side3=>repeat(first|exact(Kd.C_below HR1_0.out HB.out)|(with_reducible refine Kd.C_alloc ?_ _)|(with_reducible refine Kd.C_drewN ?_ _)|(with_reducible refine Kd.C_drew ?_)));(case side4=>exact HC1_0.out);rintro e w' ⟨rfl,⟨nd,rfl⟩⟩;refine⟨_,rfl,?_⟩))
   go_ret
   exact⟨za9,za3 HB GE880 GE881⟩
 ·replace c4:=Bool.eq_false_iff.mpr c4
  subst c4
  have H1:(some false)=some r:=by rw[if_neg (show ¬(false=true) by decide)] at H;exact H
  clear H
  have H:=H1
  clear H1
  obtain rfl:=Option.some.inj H
  go_enter Try.func96,Try.ntmps96
  go_wp2_with(first|((with_reducible refine qak (N:=2) rfl ?_);refine qaj ?hg (N:=2) ?hd (cs:=#[.slice A0_0 l0_0.length c0_0,.int .i64 a0_1]) (t:=73) ?hr ?_;(case hd=>rfl);(case hg=>rfl);(case hr=>first|(go_simp;done)|(go_simp;rfl));intro gb880 hg w16 hbox hb;have n0_:=qal.mk (qae (za2 HB) hb);have n1_:=qal.mk (hbox);have n2_:=qal.mk ((by rw[hg];exact(qad (za2 HB)):w.heap.size≤gb880));have n3_:=qal.mk ((by rw[hg];exact(qad (za2 HB)):w.heap.size≤gb880));clear HB;have HB:=n0_;have BK880:=n1_;have GW880:=n2_;have GE880:=n3_;clear n0_ n1_ n2_ n3_;clear hb hbox hg)|((with_reducible refine qak (N:=3) rfl ?_);refine qaj ?hg (N:=3) ?hd (cs:=#[.slice A1_0 l1_0.length c1_0,.int .i64 a1_1]) (t:=73) ?hr ?_;(case hd=>rfl);(case hg=>rfl);(case hr=>first|(go_simp;done)|(go_simp;rfl));intro gb881 hg w17 hbox hb;have n0_:=qal.mk (qac (g:=gb880) (o:=.cells #[.slice A0_0 l0_0.length c0_0,.int .i64 a0_1] 73 (0,0)) (za0 BK880) hb);have n1_:=qal.mk (qae (za1 HB GE880) hb);have n2_:=qal.mk (hbox);have n3_:=qal.mk ((by rw[hg];exact(qad (za1 HB GE880)):w.heap.size≤gb881));have n4_:=qal.mk ((by rw[hg];exact(qad (za1 HB GE880)):w.heap.size≤gb881));have n5_:=qal.mk ((by rw[hg];exact Nat.ne_of_lt (qao (g:=gb880) (o:=.cells #[.slice A0_0 l0_0.length c0_0,.int .i64 a0_1] 73 (0,0)) (za0 BK880)):gb880≠gb881));have n6_:=qal.mk ((by rw[hg];exact Nat.ne_of_gt (qao (g:=gb880) (o:=.cells #[.slice A0_0 l0_0.length c0_0,.int .i64 a0_1] 73 (0,0)) (za0 BK880)):gb881≠gb880));clear BK880;clear HB;have BK880:=n0_;have HB:=n1_;have BK881:=n2_;have GW881:=n3_;have GE881:=n4_;have NB880_881:=n5_;have NB881_880:=n6_;clear n0_ n1_ n2_ n3_ n4_ n5_ n6_;clear hb hbox hg;have hnb18:=NB880_881.out;have hnc18:=NB881_880.out;have hcz19_0:w17.cell? ⟨gb880,0,none⟩=some (.slice A0_0 l0_0.length c0_0):=(qab BK880.out 0).trans rfl;have hcz19_1:w17.cell? ⟨gb880,1,none⟩=some (.int .i64 a0_1):=(qab BK880.out 1).trans rfl;have hfz19_0:=qaa BK880.out 0;have hfz19_1:=qaa BK880.out 1;have hcz20_0:w17.cell? ⟨gb881,0,none⟩=some (.slice A1_0 l1_0.length c1_0):=(qab BK881.out 0).trans rfl;have hcz20_1:w17.cell? ⟨gb881,1,none⟩=some (.int .i64 a1_1):=(qab BK881.out 1).trans rfl;have hfz20_0:=qaa BK881.out 0;have hfz20_1:=qaa BK881.out 1)|((with_reducible refine qai (f:=84) rfl ?_);refine qau (some 9) rfl rfl Try.func84 (by kernel_rfl) rfl #[.slice A0_0 l0_0.length c0_0,.slice A1_0 l1_0.length c1_0] rfl (by(try simp only[List.map_toArray,List.map_cons,List.map_nil]);first|done|rfl|(simp only[List.length_drop,List.length_take];rfl)) ?_;(with_reducible refine(laws_eqIntS.calls k _ _ l0_0 _ _ l1_0 false _ ?side1 ?side2 ?side3 ?side4 A3.out).mono ?_);(case side1=>repeat(first|exact(Kd.C_below HR0_0.out HB.out)|(with_reducible refine Kd.C_alloc ?_ _)|(with_reducible refine Kd.C_drewN ?_ _)|(with_reducible refine Kd.C_drew ?_)));(case side2=>exact HC0_0.out);(case side3=>repeat(first|exact(Kd.C_below HR1_0.out HB.out)|(with_reducible refine Kd.C_alloc ?_ _)|(with_reducible refine Kd.C_drewN ?_ _)|(with_reducible refine Kd.C_drew ?_)));(case side4=>exact HC1_0.out);rintro e w' ⟨rfl,⟨nd,rfl⟩⟩;refine⟨_,rfl,?_⟩))
  go_ret
  exact⟨za9,za3 HB GE880 GE881⟩
end Go.Proofs.Ytjccnaklodbbfaa.Print
