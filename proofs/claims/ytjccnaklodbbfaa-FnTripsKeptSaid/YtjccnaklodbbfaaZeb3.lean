-- Written by squeeze.py: not trusted, Lean checks it.
import Derived.Test.YtjccnaklodbbfaaZK
import Derived.Test.YtjccnaklodbbfaaZeb0
import Derived.Test.YtjccnaklodbbfaaZeb2
import Derived.Test.YtjccnaklodbbfaaZw1
namespace Go.Proofs.Ytjccnaklodbbfaa.Print
open Go.RowKit Go.Proofs.YtjccnaklodbbfaaW.PrintWords Go.Proofs.YtjccnaklodbbfaaW.PrintLast Go.Proofs.YtjccnaklodbbfaaW.PrintMore
attribute [local go_sem] max2_int min2_int max_two min_two max_three min_three max_four min_four
set_option linter.unusedVariables false
set_option linter.unusedSimpArgs false
mutual
def laws_FnTripsKept.j0:Nat→List (S62)→List (S73)→Bool→List (S73)→Bool→Bool→Option (Bool)
 |0,_,_,_,_,_,_=>none
 |k+1,x3,x4,x5,x6,x7,x41=>if x41=true then(if(x7 == x5)=true then((laws_lnTrips.f k x6 x4).bind fun t1157=>(some t1157)) else(some false)) else(laws_FnTripsKept.l0 k x3 x6 1)
def laws_FnTripsKept.l0:Nat→List (S62)→List (S73)→Int→Option (Bool)
 |0,_,_,_=>none
 |k+1,x3,x6,x8=>if x8≤(x6.length:Int) then(laws_FnTripsKept.l1 k x3 x6 x8 0 0 0 0) else(some true)
def laws_FnTripsKept.l1:Nat→List (S62)→List (S73)→Int→Int→Int→Int→Int→Option (Bool)
 |0,_,_,_,_,_,_,_=>none
 |k+1,x3,x6,x8,x9,x10,x11,x12=>if x12<(x3.length:Int) then(if 0≤x12 then(if((rd_T62 x3 x12).f1)=x8 then(if((rd_T62 x3 x12).f0)=5 then(laws_FnTripsKept.l1 k x3 x6 x8 (wrap64 (x9+1)) x10 x11 (wrap64 (x12+1))) else(if((rd_T62 x3 x12).f0)=6 then(laws_FnTripsKept.l1 k x3 x6 x8 x9 (wrap64 (x10+1)) x11 (wrap64 (x12+1))) else(if((rd_T62 x3 x12).f0)=7 then(laws_FnTripsKept.l1 k x3 x6 x8 x9 x10 (wrap64 (x11+1)) (wrap64 (x12+1))) else(laws_FnTripsKept.l1 k x3 x6 x8 x9 x10 x11 (wrap64 (x12+1)))))) else(laws_FnTripsKept.l1 k x3 x6 x8 x9 x10 x11 (wrap64 (x12+1)))) else(none)) else(if 0≤(wrap64 (x8 - 1)) then(if(wrap64 (x8 - 1))<(x6.length:Int) then(if(wrap64 (x9+x10))>1 then(some false) else(if x11>(wrap64 (x9+x10)) then(some false) else(if x9=1 then(if((((rd_T73 x6 (wrap64 (x8 - 1))).f1) == 4) != (x11 == 1))=true then(some false) else(if x10=1 then(if((((rd_T73 x6 (wrap64 (x8 - 1))).f1) == 5) != (x11 == 1))=true then(some false) else(if((((rd_T73 x6 (wrap64 (x8 - 1))).f1) == 1) != ((wrap64 (x9+x10)) == 0))=true then(some false) else(laws_FnTripsKept.l0 k x3 x6 (wrap64 (x8+1))))) else(if((((rd_T73 x6 (wrap64 (x8 - 1))).f1) == 5) != false)=true then(some false) else(if((((rd_T73 x6 (wrap64 (x8 - 1))).f1) == 1) != ((wrap64 (x9+x10)) == 0))=true then(some false) else(laws_FnTripsKept.l0 k x3 x6 (wrap64 (x8+1))))))) else(if((((rd_T73 x6 (wrap64 (x8 - 1))).f1) == 4) != false)=true then(some false) else(if x10=1 then(if((((rd_T73 x6 (wrap64 (x8 - 1))).f1) == 5) != (x11 == 1))=true then(some false) else(if((((rd_T73 x6 (wrap64 (x8 - 1))).f1) == 1) != ((wrap64 (x9+x10)) == 0))=true then(some false) else(laws_FnTripsKept.l0 k x3 x6 (wrap64 (x8+1))))) else(if((((rd_T73 x6 (wrap64 (x8 - 1))).f1) == 5) != false)=true then(some false) else(if((((rd_T73 x6 (wrap64 (x8 - 1))).f1) == 1) != ((wrap64 (x9+x10)) == 0))=true then(some false) else(laws_FnTripsKept.l0 k x3 x6 (wrap64 (x8+1)))))))))) else(none)) else(none))
end
def laws_FnTripsKept.f (k:Nat) (l0:List Int):Option (Bool):=if(l0.length:Int)>1048576 then(some true) else((spec_DrawTripsOf.f k l0).bind fun t1145=>((spec_TripsOf.f k t1145).bind fun bt1148=>((impl_TripsOf.f k t1145).bind fun bt1152=>(if(bt1152.2 != bt1148.2)=true then(laws_FnTripsKept.j0 k t1145 bt1148.1 bt1148.2 bt1152.1 bt1152.2 true) else((laws_lnTrips.f k bt1152.1 bt1148.1).bind fun t1156=>(if t1156=true then(laws_FnTripsKept.j0 k t1145 bt1148.1 bt1148.2 bt1152.1 bt1152.2 (!bt1152.2)) else(laws_FnTripsKept.j0 k t1145 bt1148.1 bt1148.2 bt1152.1 bt1152.2 true)))))))
theorem laws_FnTripsKept.mono_l:∀k,(∀y0 y1 y2 y3 y4 y5,LeO (laws_FnTripsKept.j0 k y0 y1 y2 y3 y4 y5) (laws_FnTripsKept.j0 (k+1) y0 y1 y2 y3 y4 y5))∧(∀y0 y1 y2,LeO (laws_FnTripsKept.l0 k y0 y1 y2) (laws_FnTripsKept.l0 (k+1) y0 y1 y2))∧(∀y0 y1 y2 y3 y4 y5 y6,LeO (laws_FnTripsKept.l1 k y0 y1 y2 y3 y4 y5 y6) (laws_FnTripsKept.l1 (k+1) y0 y1 y2 y3 y4 y5 y6))
 |0=>⟨fun _ _ _ _ _ _ r h=>by simp[laws_FnTripsKept.j0] at h,fun _ _ _ r h=>by simp[laws_FnTripsKept.l0] at h,fun _ _ _ _ _ _ _ r h=>by simp[laws_FnTripsKept.l1] at h⟩
 |k+1=>by
  obtain⟨ih0,ih1,ih2⟩:=laws_FnTripsKept.mono_l k
  refine⟨?_,?_,?_⟩
  ·intro y0 y1 y2 y3 y4 y5
   unfold laws_FnTripsKept.j0
   repeat' first
   |(with_reducible exact ih0 _ _ _ _ _ _)
   |(with_reducible exact ih1 _ _ _)
   |(with_reducible exact ih2 _ _ _ _ _ _ _)
   |(with_reducible exact impl_TripsOf.mono _ _)
   |(with_reducible exact laws_lnTrips.mono _ _ _)
   |(with_reducible exact spec_DrawTripsOf.mono _ _)
   |(with_reducible exact spec_TripsOf.mono _ _)
   |(with_reducible exact LeO.refl _)
   |(with_reducible exact LeO.none _)
   |(with_reducible refine LeO.ite ?_ ?_)
   |(with_reducible refine LeO.bind ?_ (fun _=>?_))
   |exact ih0 _ _ _ _ _ _
   |exact ih1 _ _ _
   |exact ih2 _ _ _ _ _ _ _
   |exact impl_TripsOf.mono _ _
   |exact laws_lnTrips.mono _ _ _
   |exact spec_DrawTripsOf.mono _ _
   |exact spec_TripsOf.mono _ _
   |exact LeO.none _
   |refine LeO.ite ?_ ?_
   |refine LeO.bind ?_ (fun _=>?_)
  ·intro y0 y1 y2
   unfold laws_FnTripsKept.l0
   repeat' first
   |(with_reducible exact ih0 _ _ _ _ _ _)
   |(with_reducible exact ih1 _ _ _)
   |(with_reducible exact ih2 _ _ _ _ _ _ _)
   |(with_reducible exact impl_TripsOf.mono _ _)
   |(with_reducible exact laws_lnTrips.mono _ _ _)
   |(with_reducible exact spec_DrawTripsOf.mono _ _)
   |(with_reducible exact spec_TripsOf.mono _ _)
   |(with_reducible exact LeO.refl _)
   |(with_reducible exact LeO.none _)
   |(with_reducible refine LeO.ite ?_ ?_)
   |(with_reducible refine LeO.bind ?_ (fun _=>?_))
   |exact ih0 _ _ _ _ _ _
   |exact ih1 _ _ _
   |exact ih2 _ _ _ _ _ _ _
   |exact impl_TripsOf.mono _ _
   |exact laws_lnTrips.mono _ _ _
   |exact spec_DrawTripsOf.mono _ _
   |exact spec_TripsOf.mono _ _
   |exact LeO.none _
   |refine LeO.ite ?_ ?_
   |refine LeO.bind ?_ (fun _=>?_)
  ·intro y0 y1 y2 y3 y4 y5 y6
   unfold laws_FnTripsKept.l1
   repeat' first
   |(with_reducible exact ih0 _ _ _ _ _ _)
   |(with_reducible exact ih1 _ _ _)
   |(with_reducible exact ih2 _ _ _ _ _ _ _)
   |(with_reducible exact impl_TripsOf.mono _ _)
   |(with_reducible exact laws_lnTrips.mono _ _ _)
   |(with_reducible exact spec_DrawTripsOf.mono _ _)
   |(with_reducible exact spec_TripsOf.mono _ _)
   |(with_reducible exact LeO.refl _)
   |(with_reducible exact LeO.none _)
   |(with_reducible refine LeO.ite ?_ ?_)
   |(with_reducible refine LeO.bind ?_ (fun _=>?_))
   |exact ih0 _ _ _ _ _ _
   |exact ih1 _ _ _
   |exact ih2 _ _ _ _ _ _ _
   |exact impl_TripsOf.mono _ _
   |exact laws_lnTrips.mono _ _ _
   |exact spec_DrawTripsOf.mono _ _
   |exact spec_TripsOf.mono _ _
   |exact LeO.none _
   |refine LeO.ite ?_ ?_
   |refine LeO.bind ?_ (fun _=>?_)
theorem laws_FnTripsKept.mono:∀a0 k,LeO (laws_FnTripsKept.f k a0) (laws_FnTripsKept.f (k+1) a0):=by
 intro a0 k
 obtain⟨ih0,ih1,ih2⟩:=laws_FnTripsKept.mono_l k
 unfold laws_FnTripsKept.f
 repeat' first
   |(with_reducible exact ih0 _ _ _ _ _ _)
   |(with_reducible exact ih1 _ _ _)
   |(with_reducible exact ih2 _ _ _ _ _ _ _)
   |(with_reducible exact impl_TripsOf.mono _ _)
   |(with_reducible exact laws_lnTrips.mono _ _ _)
   |(with_reducible exact spec_DrawTripsOf.mono _ _)
   |(with_reducible exact spec_TripsOf.mono _ _)
   |(with_reducible exact LeO.refl _)
   |(with_reducible exact LeO.none _)
   |(with_reducible refine LeO.ite ?_ ?_)
   |(with_reducible refine LeO.bind ?_ (fun _=>?_))
   |exact ih0 _ _ _ _ _ _
   |exact ih1 _ _ _
   |exact ih2 _ _ _ _ _ _ _
   |exact impl_TripsOf.mono _ _
   |exact laws_lnTrips.mono _ _ _
   |exact spec_DrawTripsOf.mono _ _
   |exact spec_TripsOf.mono _ _
   |exact LeO.none _
   |refine LeO.ite ?_ ?_
   |refine LeO.bind ?_ (fun _=>?_)
set_option maxHeartbeats 8000000 in
set_option maxRecDepth 100000 in
theorem laws_FnTripsKept.calls (k:Nat) (A0:Option Addr) (c0:Nat) (l0:List Int) (r:Bool) (w:World) (hr0:Kd.C (Kd.int .u8) w A0 l0.length l0) (hc0:l0.length≤c0) (h:laws_FnTripsKept.f k l0=some r) :
  Calls Try.prog 14 #[.slice A0 l0.length c0] w fun e w'=>e=.returned (.bool r)∧Below w.heap.size w w':=by
 have HR0:=Aside0.mk hr0
 have HC0:=Aside0.mk hc0
 clear hr0 hc0
 have HB:=Aside0.mk (Below.refl w.heap.size w)
 have H:(if(l0.length:Int)>1048576 then(some true) else((spec_DrawTripsOf.f k l0).bind fun t1145=>((spec_TripsOf.f k t1145).bind fun bt1148=>((impl_TripsOf.f k t1145).bind fun bt1152=>(if(bt1152.2 != bt1148.2)=true then(laws_FnTripsKept.j0 k t1145 bt1148.1 bt1148.2 bt1152.1 bt1152.2 true) else((laws_lnTrips.f k bt1152.1 bt1148.1).bind fun t1156=>(if t1156=true then(laws_FnTripsKept.j0 k t1145 bt1148.1 bt1148.2 bt1152.1 bt1152.2 (!bt1152.2)) else(laws_FnTripsKept.j0 k t1145 bt1148.1 bt1148.2 bt1152.1 bt1152.2 true))))))))=some r:=h
 clear h
 by_cases c2:(l0.length:Int)>1048576
 ·rw[if_pos c2] at H
  have c2b0:decide (1048576<(l0.length:Int))=true:=decide_eq_true c2
  have c2b1:decide (1048576<l0.length)=true:=decide_eq_true (by omega)
  clear c2
  obtain rfl:=Option.some.inj H
  go_enter Try.func14,Try.ntmps14
  go_wp2
  go_ret
  exact⟨za9,za1 HB⟩
 ·rw[if_neg c2] at H
  have c2b0:decide (1048576<(l0.length:Int))=false:=decide_eq_false c2
  have c2b1:decide (1048576<l0.length)=false:=decide_eq_false (by omega)
  clear c2
  replace H:=Option.bind_eq_some_iff.mp H
  obtain⟨t1145,A30,H⟩:=H
  replace H:((spec_TripsOf.f k t1145).bind fun bt1148=>((impl_TripsOf.f k t1145).bind fun bt1152=>(if(bt1152.2 != bt1148.2)=true then(laws_FnTripsKept.j0 k t1145 bt1148.1 bt1148.2 bt1152.1 bt1152.2 true) else((laws_lnTrips.f k bt1152.1 bt1148.1).bind fun t1156=>(if t1156=true then(laws_FnTripsKept.j0 k t1145 bt1148.1 bt1148.2 bt1152.1 bt1152.2 (!bt1152.2)) else(laws_FnTripsKept.j0 k t1145 bt1148.1 bt1148.2 bt1152.1 bt1152.2 true))))))=some r:=H
  have A3:=Aside0.mk A30
  clear A30
  replace H:=Option.bind_eq_some_iff.mp H
  obtain⟨⟨t1148,t1149⟩,A40,H⟩:=H
  replace H:((impl_TripsOf.f k t1145).bind fun bt1152=>(if(bt1152.2 != t1149)=true then(laws_FnTripsKept.j0 k t1145 t1148 t1149 bt1152.1 bt1152.2 true) else((laws_lnTrips.f k bt1152.1 t1148).bind fun t1156=>(if t1156=true then(laws_FnTripsKept.j0 k t1145 t1148 t1149 bt1152.1 bt1152.2 (!bt1152.2)) else(laws_FnTripsKept.j0 k t1145 t1148 t1149 bt1152.1 bt1152.2 true)))))=some r:=H
  have A4:=Aside0.mk A40
  clear A40
  replace H:=Option.bind_eq_some_iff.mp H
  obtain⟨⟨t1152,t1153⟩,A50,H⟩:=H
  replace H:(if(t1153 != t1149)=true then(laws_FnTripsKept.j0 k t1145 t1148 t1149 t1152 t1153 true) else((laws_lnTrips.f k t1152 t1148).bind fun t1156=>(if t1156=true then(laws_FnTripsKept.j0 k t1145 t1148 t1149 t1152 t1153 (!t1153)) else(laws_FnTripsKept.j0 k t1145 t1148 t1149 t1152 t1153 true))))=some r:=H
  have A5:=Aside0.mk A50
  clear A50
  have HC6:=Aside0.mk H
  clear H
  go_enter Try.func14,Try.ntmps14
  go_upto_region 6 with(first|((with_reducible refine qaf (f:=54) rfl ?_);refine zF (some 18) Try.func54 #[.slice A0 l0.length c0] ?_;(with_reducible refine(spec_DrawTripsOf.calls k _ _ l0 t1145 _ ?side1 ?side2 A3.out).mono ?_);(case side1=>repeat(first|exact HR0.out|(with_reducible refine Kd.C_alloc ?_ _)|(with_reducible refine Kd.C_drewN ?_ _)|(with_reducible refine Kd.C_drew ?_)));(case side2=>exact HC0.out);rintro e w7 ⟨v1146,rfl,ho0,hb⟩;refine⟨_,rfl,?_⟩;have HO1147:=Aside0.mk (Kd.N_lower (Kd.N_mono (ok':=fun k_=>True) ho0 (fun k_ hk_=>trivial)) (below_size (za1 HB)));replace HB:=Aside0.mk (qab (za1 HB) hb);(try clear hb);(try clear ho0);obtain⟨Ao8,co8,eo8⟩:=Kd.N_slice HO1147.out;subst eo8)|((with_reducible refine qaf (f:=55) rfl ?_);refine zF (some 21) Try.func55 #[.slice Ao8 t1145.length co8] ?_;(with_reducible refine(spec_TripsOf.calls k _ _ t1145 t1148 t1149 _ ?side1 ?side2 A4.out).mono ?_);(case side1=>repeat(first|exact(Kd.N_reads' HO1147.out).2.2|(with_reducible refine Kd.C_alloc ?_ _)|(with_reducible refine Kd.C_drewN ?_ _)|(with_reducible refine Kd.C_drew ?_)));(case side2=>exact(Kd.N_reads' HO1147.out).2.1);rintro e w9 ⟨v1150,rfl,ho0,hb⟩;refine⟨_,rfl,?_⟩;have HO1151:=Aside0.mk (Kd.N_lower (Kd.N_mono (ok':=fun k_=>some k_≠(.slice Ao8 t1145.length co8:Value).ownBlock) (Kd.S_N (Kd.S_bound ho0)) (fun k_ hk_=>(Kd.fresh' (Kd.N_lt (za11 HO1147)) k_ hk_.2.1))) (below_size (za1 HB)));replace HO1147:=Aside0.mk (Kd.N_elder' (za11 HO1147) (by first|exact Kd.N_base ho0|exact Kd.S_base ho0|exact Kd.R_base ho0) hb);replace HB:=Aside0.mk (qab (za1 HB) hb);(try clear hb);(try clear ho0))|((with_reducible refine qaf (f:=56) rfl ?_);refine zF (some 26) Try.func56 #[.slice Ao8 t1145.length co8] ?_;(with_reducible refine(impl_TripsOf.calls k _ _ t1145 t1152 t1153 _ ?side1 ?side2 A5.out).mono ?_);(case side1=>repeat(first|exact(Kd.N_reads' HO1147.out).2.2|(with_reducible refine Kd.C_alloc ?_ _)|(with_reducible refine Kd.C_drewN ?_ _)|(with_reducible refine Kd.C_drew ?_)));(case side2=>exact(Kd.N_reads' HO1147.out).2.1);rintro e w10 ⟨v1154,rfl,ho0,hb⟩;refine⟨_,rfl,?_⟩;have HO1155:=Aside0.mk (Kd.N_lower (Kd.N_mono (ok':=fun k_=>some k_≠(.slice Ao8 t1145.length co8:Value).ownBlock∧some k_≠(v1150:Value).ownBlock) (Kd.S_N (Kd.S_bound ho0)) (fun k_ hk_=>⟨(Kd.fresh' (Kd.N_lt (za11 HO1147)) k_ hk_.2.1),(Kd.fresh' (Kd.N_lt (za11 HO1151)) k_ hk_.2.1)⟩)) (below_size (za1 HB)));replace HO1147:=Aside0.mk (Kd.N_elder' (za11 HO1147) (by first|exact Kd.N_base ho0|exact Kd.S_base ho0|exact Kd.R_base ho0) hb);replace HO1151:=Aside0.mk (Kd.N_elder' (za11 HO1151) (by first|exact Kd.N_base ho0|exact Kd.S_base ho0|exact Kd.R_base ho0) hb);replace HB:=Aside0.mk (qab (za1 HB) hb);(try clear hb);(try clear ho0)))
  (try simp only[Act.put,List.setIfInBounds_toArray,List.set_cons_zero,List.set_cons_succ])
  go_cut [41] (fun v41 wc=>∃(kq:Nat) (x41_5:Bool),v41=.bool x41_5∧Aside0 (laws_FnTripsKept.j0 kq t1145 t1148 t1149 t1152 t1153 x41_5=some r)∧Aside0 (kq≤k)∧Aside0 (Kd.N k62 62 wc w.heap.size (fun k_=>some k_≠(v1150:Value).ownBlock∧some k_≠(v1154:Value).ownBlock) (.slice Ao8 t1145.length co8) t1145)∧Aside0 (Kd.N k73 73 wc w.heap.size (fun k_=>some k_≠((.slice Ao8 t1145.length co8):Value).ownBlock∧some k_≠(v1154:Value).ownBlock) v1150 t1148)∧Aside0 (Kd.N k73 73 wc w.heap.size (fun k_=>some k_≠((.slice Ao8 t1145.length co8):Value).ownBlock∧some k_≠(v1150:Value).ownBlock) v1154 t1152)∧Aside0 (Below w.heap.size w wc))
  case first=>
   have H:=HC6.out
   clear HC6
   by_cases c11:(t1153 != t1149)=true
   ·rw[if_pos c11] at H
    have c11b0:(t1153 != t1149)=true:=c11
    (try(have c11b1:decide (t1153=t1149)=false:=by simpa using c11))
    (try(have c11b2:(t1153 == t1149)=false:=by simpa using c11))
    (try(have c11b3:¬(t1153=t1149):=by simpa using c11))
    clear c11
    (first|rw[c11b0]|(simp only[qaj,qak];rw[c11b0])|skip)
    have H':=Aside0.mk H
    clear H
    go_wp2
    go_meet
    case rel=>exact⟨_,(true),(za17),H',⟨za23⟩,⟨by(with_reducible repeat(first|apply Kd.N_alloc|apply Kd.N_drewN|apply Kd.N_drew));exact Kd.N_mono HO1147.out (fun _ hk=>⟨hk.1.2,hk.2⟩)⟩,⟨za11 HO1151⟩,⟨za11 HO1155⟩,⟨za1 HB⟩⟩
   ·rw[if_neg c11] at H
    have c11b0:(t1153 != t1149)=false:=by simpa using c11
    (try(have c11b1:decide (t1153=t1149)=true:=by simpa using c11))
    (try(have c11b2:(t1153 == t1149)=true:=by simpa using c11))
    clear c11
    (first|rw[c11b0]|(simp only[qaj,qak];rw[c11b0])|skip)
    replace H:=Option.bind_eq_some_iff.mp H
    obtain⟨t1156,A120,H⟩:=H
    replace H:(if t1156=true then(laws_FnTripsKept.j0 k t1145 t1148 t1149 t1152 t1153 (!t1153)) else(laws_FnTripsKept.j0 k t1145 t1148 t1149 t1152 t1153 true))=some r:=H
    have A12:=Aside0.mk A120
    clear A120
    by_cases c13:t1156=true
    ·subst c13
     have H1:(laws_FnTripsKept.j0 k t1145 t1148 t1149 t1152 t1153 (!t1153))=some r:=by rw[if_pos rfl] at H;exact H
     clear H
     have H:=H1
     clear H1
     have H':=Aside0.mk H
     clear H
     obtain⟨Ao14,co14,eo14⟩:=Kd.N_slice HO1155.out
     subst eo14
     obtain⟨Ao15,co15,eo15⟩:=Kd.N_slice HO1151.out
     subst eo15
     go_wp2_with(first|(go_at_call 57;(with_reducible refine(laws_lnTrips.calls k _ _ t1152 _ _ t1148 true _ ?side1 ?side2 ?side3 ?side4 A12.out).mono ?_);(case side1=>repeat(first|exact(Kd.N_reads' HO1155.out).2.2|(with_reducible refine Kd.C_alloc ?_ _)|(with_reducible refine Kd.C_drewN ?_ _)|(with_reducible refine Kd.C_drew ?_)));(case side2=>exact(Kd.N_reads' HO1155.out).2.1);(case side3=>repeat(first|exact(Kd.N_reads' HO1151.out).2.2|(with_reducible refine Kd.C_alloc ?_ _)|(with_reducible refine Kd.C_drewN ?_ _)|(with_reducible refine Kd.C_drew ?_)));(case side4=>exact(Kd.N_reads' HO1151.out).2.1);rintro e w' ⟨rfl,⟨nd,rfl⟩⟩))
     go_meet
     case rel=>exact⟨_,(!t1153),(za17),H',⟨za23⟩,⟨by(with_reducible repeat(first|apply Kd.N_alloc|apply Kd.N_drewN|apply Kd.N_drew));exact Kd.N_mono HO1147.out (fun _ hk=>⟨hk.1.2,hk.2⟩)⟩,⟨za11 HO1151⟩,⟨za11 HO1155⟩,⟨za1 HB⟩⟩
    ·replace c13:=Bool.eq_false_iff.mpr c13
     subst c13
     have H1:(laws_FnTripsKept.j0 k t1145 t1148 t1149 t1152 t1153 true)=some r:=by rw[if_neg (show ¬(false=true) by decide)] at H;exact H
     clear H
     have H:=H1
     clear H1
     have H':=Aside0.mk H
     clear H
     obtain⟨Ao16,co16,eo16⟩:=Kd.N_slice HO1155.out
     subst eo16
     obtain⟨Ao17,co17,eo17⟩:=Kd.N_slice HO1151.out
     subst eo17
     go_wp2_with(first|(go_at_call 57;(with_reducible refine(laws_lnTrips.calls k _ _ t1152 _ _ t1148 false _ ?side1 ?side2 ?side3 ?side4 A12.out).mono ?_);(case side1=>repeat(first|exact(Kd.N_reads' HO1155.out).2.2|(with_reducible refine Kd.C_alloc ?_ _)|(with_reducible refine Kd.C_drewN ?_ _)|(with_reducible refine Kd.C_drew ?_)));(case side2=>exact(Kd.N_reads' HO1155.out).2.1);(case side3=>repeat(first|exact(Kd.N_reads' HO1151.out).2.2|(with_reducible refine Kd.C_alloc ?_ _)|(with_reducible refine Kd.C_drewN ?_ _)|(with_reducible refine Kd.C_drew ?_)));(case side4=>exact(Kd.N_reads' HO1151.out).2.1);rintro e w' ⟨rfl,⟨nd,rfl⟩⟩))
     go_meet
     case rel=>exact⟨_,(true),(za17),H',⟨za23⟩,⟨by(with_reducible repeat(first|apply Kd.N_alloc|apply Kd.N_drewN|apply Kd.N_drew));exact Kd.N_mono HO1147.out (fun _ hk=>⟨hk.1.2,hk.2⟩)⟩,⟨za11 HO1151⟩,⟨za11 HO1155⟩,⟨za1 HB⟩⟩
  case rest=>
   clear HC6
   try clear c1
   try clear c2
   try clear c2b0
   try clear c2b1
   try clear p2
   try clear c5
   try clear c11
   try clear c11b0
   try clear c11b1
   try clear c11b2
   try clear c13
   try clear c14
   obtain⟨kq,x41_5,rfl,HA,HJ5,HO_3,HO_4,HO_6,HB⟩:=hcut
   cases kq with
   |zero=>exact absurd HA.out (by simp[laws_FnTripsKept.j0])
   |succ kj5=>
    have H:=HA.out
    clear HA
    simp only[laws_FnTripsKept.j0] at H
    by_cases c18:x41_5=true
    ·subst c18
     have H1:(if(t1153 == t1149)=true then((laws_lnTrips.f kj5 t1152 t1148).bind fun t1157=>(some t1157)) else(some false))=some r:=by rw[if_pos rfl] at H;exact H
     clear H
     have H:=H1
     clear H1
     by_cases c19:(t1153 == t1149)=true
     ·rw[if_pos c19] at H
      have c19b0:(t1153 == t1149)=true:=c19
      (try(have c19b1:decide (t1153=t1149)=true:=by simpa using c19))
      (try(have c19b2:(t1153 == t1149)=true:=by simpa using c19))
      clear c19
      replace H:=Option.bind_eq_some_iff.mp H
      obtain⟨t1157,A200,H⟩:=H
      replace H:(some t1157)=some r:=H
      have A20:=Aside0.mk A200
      clear A200
      obtain rfl:=Option.some.inj H
      obtain⟨Ao21,co21,eo21⟩:=Kd.N_slice HO_6.out
      subst eo21
      obtain⟨Ao22,co22,eo22⟩:=Kd.N_slice HO_4.out
      subst eo22
      go_wp2_with(first|(go_at_call 57;(with_reducible refine(laws_lnTrips.calls kj5 _ _ t1152 _ _ t1148 t1157 _ ?side1 ?side2 ?side3 ?side4 A20.out).mono ?_);(case side1=>repeat(first|exact(Kd.N_reads' HO_6.out).2.2|(with_reducible refine Kd.C_alloc ?_ _)|(with_reducible refine Kd.C_drewN ?_ _)|(with_reducible refine Kd.C_drew ?_)));(case side2=>exact(Kd.N_reads' HO_6.out).2.1);(case side3=>repeat(first|exact(Kd.N_reads' HO_4.out).2.2|(with_reducible refine Kd.C_alloc ?_ _)|(with_reducible refine Kd.C_drewN ?_ _)|(with_reducible refine Kd.C_drew ?_)));(case side4=>exact(Kd.N_reads' HO_4.out).2.1);rintro e w' ⟨rfl,⟨nd,rfl⟩⟩))
      go_ret
      exact⟨za9,za1 HB⟩
     ·rw[if_neg c19] at H
      have c19b0:(t1153 == t1149)=false:=by simpa using c19
      (try(have c19b1:decide (t1153=t1149)=false:=by simpa using c19))
      (try(have c19b2:(t1153 == t1149)=false:=by simpa using c19))
      (try(have c19b3:¬(t1153=t1149):=by simpa using c19))
      clear c19
      obtain rfl:=Option.some.inj H
      go_wp2
      go_ret
      exact⟨za9,za1 HB⟩
    ·replace c18:=Bool.eq_false_iff.mpr c18
     subst c18
     have H1:(laws_FnTripsKept.l0 kj5 t1145 t1152 1)=some r:=by rw[if_neg (show ¬(false=true) by decide)] at H;exact H
     clear H
     have H:=H1
     clear H1
     have H':=Aside0.mk H
     clear H
     go_wp2
     go_loopg [8] kj5 (fun kq v8 w'=>∃(x8_2:Int),v8=.int .i64 x8_2∧Aside0 (laws_FnTripsKept.l0 kq t1145 t1152 x8_2=some r)∧Aside0 (kq≤kj5)∧Aside0 (Kd.N k62 62 w' w.heap.size (fun k_=>some k_≠(v1154:Value).ownBlock) (.slice Ao8 t1145.length co8) t1145)∧Aside0 (Kd.N k73 73 w' w.heap.size (fun k_=>some k_≠((.slice Ao8 t1145.length co8):Value).ownBlock) v1154 t1152)∧Aside0 (Below w.heap.size w w'))
     case atStart=>exact⟨(1),(za17),H',⟨Nat.le_refl _⟩,⟨by(with_reducible repeat(first|apply Kd.N_alloc|apply Kd.N_drewN|apply Kd.N_drew));exact Kd.N_mono HO_3.out (fun _ hk=>hk.2)⟩,⟨by(with_reducible repeat(first|apply Kd.N_alloc|apply Kd.N_drewN|apply Kd.N_drew));exact Kd.N_mono HO_6.out (fun _ hk=>hk.1)⟩,⟨za1 HB⟩⟩
     case round=>
      clear H'
      try clear c1
      try clear c2
      try clear c2b0
      try clear c2b1
      try clear p2
      try clear c5
      try clear c11
      try clear c11b0
      try clear c11b1
      try clear c11b2
      try clear c13
      try clear c14
      try clear c18
      try clear c19
      try clear c19b0
      try clear c19b1
      try clear c19b2
      try clear p2
      obtain⟨x8_2,rfl,HA,HK2,HO_3,HO_6,HB⟩:=hrel
      cases gk with
      |zero=>exact absurd HA.out (by simp[laws_FnTripsKept.l0])
      |succ k2=>
       have H:=HA.out
       clear HA
       simp only[laws_FnTripsKept.l0] at H
       by_cases c23:x8_2≤(t1152.length:Int)
       ·rw[if_pos c23] at H
        have c23b0:decide (x8_2≤(t1152.length:Int))=true:=decide_eq_true c23
        clear c23
        have H':=Aside0.mk H
        clear H
        obtain⟨Ao24,co24,eo24⟩:=Kd.N_slice HO_6.out
        subst eo24
        go_wp2
        go_loopg [9,10,11,12] k2 (fun kq v9 v10 v11 v12 w'=>∃(x9_3:Int) (x10_3:Int) (x11_3:Int) (x12_3:Int),v9=.int .i64 x9_3∧v10=.int .i64 x10_3∧v11=.int .i64 x11_3∧v12=.int .i64 x12_3∧Aside0 (laws_FnTripsKept.l1 kq t1145 t1152 x8_2 x9_3 x10_3 x11_3 x12_3=some r)∧Aside0 (kq≤k2)∧Aside0 (Kd.N k62 62 w' w.heap.size (fun k_=>some k_≠((.slice Ao24 t1152.length co24):Value).ownBlock) (.slice Ao8 t1145.length co8) t1145)∧Aside0 (Kd.N k73 73 w' w.heap.size (fun k_=>some k_≠((.slice Ao8 t1145.length co8):Value).ownBlock) (.slice Ao24 t1152.length co24) t1152)∧Aside0 (Below w.heap.size w w'))
        case atStart=>exact⟨(0),(0),(0),(0),(za17),(za17),(za17),(za17),H',⟨Nat.le_refl _⟩,⟨za11 HO_3⟩,⟨za11 HO_6⟩,⟨za1 HB⟩⟩
        case round=>
         clear H'
         try clear c1
         try clear c2
         try clear c2b0
         try clear c2b1
         try clear p2
         try clear c5
         try clear c11
         try clear c11b0
         try clear c11b1
         try clear c11b2
         try clear c13
         try clear c14
         try clear c18
         try clear c19
         try clear c19b0
         try clear c19b1
         try clear c19b2
         try clear c23
         try clear c23b0
         try clear p2
         obtain⟨x9_3,x10_3,x11_3,x12_3,rfl,rfl,rfl,rfl,HA,HK3,HO_3,HO_6,HB⟩:=hrel
         cases gk with
         |zero=>exact absurd HA.out (by simp[laws_FnTripsKept.l1])
         |succ k3=>
          have H:=HA.out
          clear HA
          simp only[laws_FnTripsKept.l1] at H
          by_cases c25:x12_3<(t1145.length:Int)
          ·rw[if_pos c25] at H
           have c25b0:decide (x12_3<(t1145.length:Int))=true:=decide_eq_true c25
           clear c25
           by_cases c26:0≤x12_3
           ·rw[if_pos c26] at H
            have c26b0:decide (0≤x12_3)=true:=decide_eq_true c26
            clear c26
            by_cases c27:((rd_T62 t1145 x12_3).f1)=x8_2
            ·rw[if_pos c27] at H
             have c27b0:(((rd_T62 t1145 x12_3).f1) == x8_2)=true:=beq_iff_eq.mpr c27
             have c27b1:(((rd_T62 t1145 x12_3).f1) != x8_2)=false:=bne_eq_false_iff_eq.mpr c27
             clear c27
             by_cases c28:((rd_T62 t1145 x12_3).f0)=5
             ·rw[if_pos c28] at H
              have c28b0:(((rd_T62 t1145 x12_3).f0) == 5)=true:=beq_iff_eq.mpr c28
              have c28b1:(((rd_T62 t1145 x12_3).f0) != 5)=false:=bne_eq_false_iff_eq.mpr c28
              clear c28
              have H':=Aside0.mk H
              clear H
              have p1159:0≤(x12_3:Int):=of_decide_eq_true (za5)
              have q1159:x12_3<(t1145.length:Int):=of_decide_eq_true (za5)
              obtain⟨ad1159,A1159_2,c1159_2,e1159,hx1159_0,hx1159_1,hx1159_2,hl1159_2,hi1159_2⟩:=at_T62 (Kd.N_reads' HO_3.out).2.2 x12_3 p1159 q1159
              cases e1159
              obtain⟨ce1159,hce1159,hMe1159,hcc1159⟩:=Kd.N_get HO_3.out z62 x12_3 p1159 (by first|exact q1159|exact of_decide_eq_true (za5)|(have e_:=(Kd.N_reads' HO_3.out).1;omega))
              obtain⟨ua1159_2,uc1159_2,rfl,ul1159_2,ge1159_2⟩:=k62_openF hMe1159
              have hv1159_2:=hcc1159 2 _ rfl
              rw[add_field _ _ 2 (by omega)] at hv1159_2
              replace hv1159_2:=Option.some.inj (hv1159_2.symm.trans hx1159_2)
              injection hv1159_2 with hva_ hvn_ hvc_
              rw[hva_] at ge1159_2
              rw[hvc_] at ul1159_2
              have HL1159_2:=Aside0.mk (show Kd.V (Kd.int .i64) 3 _ w.heap.size _ _ ((rd_T62 t1145 x12_3).f2) from Kd.V_mk ul1159_2 ge1159_2)
              clear hva_ hvn_ hvc_ ge1159_2 ul1159_2
              clear hcc1159 hce1159
              have HR1159_2:=Aside0.mk hi1159_2
              have HC1159_2:=Aside0.mk hl1159_2
              clear hi1159_2 hl1159_2
              replace p1159:=eq_true p1159
              replace q1159:=eq_true q1159
              have p1160:0≤(x12_3:Int):=of_decide_eq_true (za5)
              have q1160:x12_3<(t1145.length:Int):=of_decide_eq_true (za5)
              obtain⟨ad1160,A1160_2,c1160_2,e1160,hx1160_0,hx1160_1,hx1160_2,hl1160_2,hi1160_2⟩:=at_T62 (Kd.N_reads' HO_3.out).2.2 x12_3 p1160 q1160
              obtain rfl:ad1159=ad1160:=(by injection e1160)
              obtain⟨ce1160,hce1160,hMe1160,hcc1160⟩:=Kd.N_get HO_3.out z62 x12_3 p1160 (by first|exact q1160|exact of_decide_eq_true (za5)|(have e_:=(Kd.N_reads' HO_3.out).1;omega))
              obtain⟨ua1160_2,uc1160_2,rfl,ul1160_2,ge1160_2⟩:=k62_openF hMe1160
              have hv1160_2:=hcc1160 2 _ rfl
              rw[add_field _ _ 2 (by omega)] at hv1160_2
              replace hv1160_2:=Option.some.inj (hv1160_2.symm.trans hx1160_2)
              injection hv1160_2 with hva_ hvn_ hvc_
              rw[hva_] at ge1160_2
              rw[hvc_] at ul1160_2
              have HL1160_2:=Aside0.mk (show Kd.V (Kd.int .i64) 3 _ w.heap.size _ _ ((rd_T62 t1145 x12_3).f2) from Kd.V_mk ul1160_2 ge1160_2)
              clear hva_ hvn_ hvc_ ge1160_2 ul1160_2
              clear hcc1160 hce1160
              have HR1160_2:=Aside0.mk hi1160_2
              have HC1160_2:=Aside0.mk hl1160_2
              clear hi1160_2 hl1160_2
              replace p1160:=eq_true p1160
              replace q1160:=eq_true q1160
              have ea_:=Option.some.inj (hx1159_2.symm.trans hx1160_2)
              injection ea_ with ea_ en_ ec_
              subst ea_
              subst ec_
              clear en_
              go_wp2
              go_roundg k3
              case measure=>have:=HJ5.out;have:=HK2.out;have:=HK3.out;omega
              case rel=>exact⟨(wrap64 (x9_3+1)),(x10_3),(x11_3),(wrap64 (x12_3+1)),(za17),(za17),(za17),(za17),H',⟨by have:=HJ5.out;have:=HK2.out;have:=HK3.out;omega⟩,⟨za11 HO_3⟩,⟨za11 HO_6⟩,⟨za1 HB⟩⟩
             ·rw[if_neg c28] at H
              have c28b0:(((rd_T62 t1145 x12_3).f0) == 5)=false:=beq_eq_false_iff_ne.mpr c28
              have c28b1:(((rd_T62 t1145 x12_3).f0) != 5)=true:=bne_iff_ne.mpr c28
              by_cases c29:((rd_T62 t1145 x12_3).f0)=6
              ·rw[if_pos c29] at H
               have c29b0:(((rd_T62 t1145 x12_3).f0) == 6)=true:=beq_iff_eq.mpr c29
               have c29b1:(((rd_T62 t1145 x12_3).f0) != 6)=false:=bne_eq_false_iff_eq.mpr c29
               clear c29
               have H':=Aside0.mk H
               clear H
               have p1159:0≤(x12_3:Int):=of_decide_eq_true (za5)
               have q1159:x12_3<(t1145.length:Int):=of_decide_eq_true (za5)
               obtain⟨ad1159,A1159_2,c1159_2,e1159,hx1159_0,hx1159_1,hx1159_2,hl1159_2,hi1159_2⟩:=at_T62 (Kd.N_reads' HO_3.out).2.2 x12_3 p1159 q1159
               cases e1159
               obtain⟨ce1159,hce1159,hMe1159,hcc1159⟩:=Kd.N_get HO_3.out z62 x12_3 p1159 (by first|exact q1159|exact of_decide_eq_true (za5)|(have e_:=(Kd.N_reads' HO_3.out).1;omega))
               obtain⟨ua1159_2,uc1159_2,rfl,ul1159_2,ge1159_2⟩:=k62_openF hMe1159
               have hv1159_2:=hcc1159 2 _ rfl
               rw[add_field _ _ 2 (by omega)] at hv1159_2
               replace hv1159_2:=Option.some.inj (hv1159_2.symm.trans hx1159_2)
               injection hv1159_2 with hva_ hvn_ hvc_
               rw[hva_] at ge1159_2
               rw[hvc_] at ul1159_2
               have HL1159_2:=Aside0.mk (show Kd.V (Kd.int .i64) 3 _ w.heap.size _ _ ((rd_T62 t1145 x12_3).f2) from Kd.V_mk ul1159_2 ge1159_2)
               clear hva_ hvn_ hvc_ ge1159_2 ul1159_2
               clear hcc1159 hce1159
               have HR1159_2:=Aside0.mk hi1159_2
               have HC1159_2:=Aside0.mk hl1159_2
               clear hi1159_2 hl1159_2
               replace p1159:=eq_true p1159
               replace q1159:=eq_true q1159
               have p1160:0≤(x12_3:Int):=of_decide_eq_true (za5)
               have q1160:x12_3<(t1145.length:Int):=of_decide_eq_true (za5)
               obtain⟨ad1160,A1160_2,c1160_2,e1160,hx1160_0,hx1160_1,hx1160_2,hl1160_2,hi1160_2⟩:=at_T62 (Kd.N_reads' HO_3.out).2.2 x12_3 p1160 q1160
               obtain rfl:ad1159=ad1160:=(by injection e1160)
               obtain⟨ce1160,hce1160,hMe1160,hcc1160⟩:=Kd.N_get HO_3.out z62 x12_3 p1160 (by first|exact q1160|exact of_decide_eq_true (za5)|(have e_:=(Kd.N_reads' HO_3.out).1;omega))
               obtain⟨ua1160_2,uc1160_2,rfl,ul1160_2,ge1160_2⟩:=k62_openF hMe1160
               have hv1160_2:=hcc1160 2 _ rfl
               rw[add_field _ _ 2 (by omega)] at hv1160_2
               replace hv1160_2:=Option.some.inj (hv1160_2.symm.trans hx1160_2)
               injection hv1160_2 with hva_ hvn_ hvc_
               rw[hva_] at ge1160_2
               rw[hvc_] at ul1160_2
               have HL1160_2:=Aside0.mk (show Kd.V (Kd.int .i64) 3 _ w.heap.size _ _ ((rd_T62 t1145 x12_3).f2) from Kd.V_mk ul1160_2 ge1160_2)
               clear hva_ hvn_ hvc_ ge1160_2 ul1160_2
               clear hcc1160 hce1160
               have HR1160_2:=Aside0.mk hi1160_2
               have HC1160_2:=Aside0.mk hl1160_2
               clear hi1160_2 hl1160_2
               replace p1160:=eq_true p1160
               replace q1160:=eq_true q1160
               have ea_:=Option.some.inj (hx1159_2.symm.trans hx1160_2)
               injection ea_ with ea_ en_ ec_
               subst ea_
               subst ec_
               clear en_
               go_wp2
               go_roundg k3
               case measure=>have:=HJ5.out;have:=HK2.out;have:=HK3.out;omega
               case rel=>exact⟨(x9_3),(wrap64 (x10_3+1)),(x11_3),(wrap64 (x12_3+1)),(za17),(za17),(za17),(za17),H',⟨by have:=HJ5.out;have:=HK2.out;have:=HK3.out;omega⟩,⟨za11 HO_3⟩,⟨za11 HO_6⟩,⟨za1 HB⟩⟩
              ·rw[if_neg c29] at H
               have c29b0:(((rd_T62 t1145 x12_3).f0) == 6)=false:=beq_eq_false_iff_ne.mpr c29
               have c29b1:(((rd_T62 t1145 x12_3).f0) != 6)=true:=bne_iff_ne.mpr c29
               by_cases c30:((rd_T62 t1145 x12_3).f0)=7
               ·rw[if_pos c30] at H
                have c30b0:(((rd_T62 t1145 x12_3).f0) == 7)=true:=beq_iff_eq.mpr c30
                have c30b1:(((rd_T62 t1145 x12_3).f0) != 7)=false:=bne_eq_false_iff_eq.mpr c30
                clear c30
                have H':=Aside0.mk H
                clear H
                have p1159:0≤(x12_3:Int):=of_decide_eq_true (za5)
                have q1159:x12_3<(t1145.length:Int):=of_decide_eq_true (za5)
                obtain⟨ad1159,A1159_2,c1159_2,e1159,hx1159_0,hx1159_1,hx1159_2,hl1159_2,hi1159_2⟩:=at_T62 (Kd.N_reads' HO_3.out).2.2 x12_3 p1159 q1159
                cases e1159
                obtain⟨ce1159,hce1159,hMe1159,hcc1159⟩:=Kd.N_get HO_3.out z62 x12_3 p1159 (by first|exact q1159|exact of_decide_eq_true (za5)|(have e_:=(Kd.N_reads' HO_3.out).1;omega))
                obtain⟨ua1159_2,uc1159_2,rfl,ul1159_2,ge1159_2⟩:=k62_openF hMe1159
                have hv1159_2:=hcc1159 2 _ rfl
                rw[add_field _ _ 2 (by omega)] at hv1159_2
                replace hv1159_2:=Option.some.inj (hv1159_2.symm.trans hx1159_2)
                injection hv1159_2 with hva_ hvn_ hvc_
                rw[hva_] at ge1159_2
                rw[hvc_] at ul1159_2
                have HL1159_2:=Aside0.mk (show Kd.V (Kd.int .i64) 3 _ w.heap.size _ _ ((rd_T62 t1145 x12_3).f2) from Kd.V_mk ul1159_2 ge1159_2)
                clear hva_ hvn_ hvc_ ge1159_2 ul1159_2
                clear hcc1159 hce1159
                have HR1159_2:=Aside0.mk hi1159_2
                have HC1159_2:=Aside0.mk hl1159_2
                clear hi1159_2 hl1159_2
                replace p1159:=eq_true p1159
                replace q1159:=eq_true q1159
                have p1160:0≤(x12_3:Int):=of_decide_eq_true (za5)
                have q1160:x12_3<(t1145.length:Int):=of_decide_eq_true (za5)
                obtain⟨ad1160,A1160_2,c1160_2,e1160,hx1160_0,hx1160_1,hx1160_2,hl1160_2,hi1160_2⟩:=at_T62 (Kd.N_reads' HO_3.out).2.2 x12_3 p1160 q1160
                obtain rfl:ad1159=ad1160:=(by injection e1160)
                obtain⟨ce1160,hce1160,hMe1160,hcc1160⟩:=Kd.N_get HO_3.out z62 x12_3 p1160 (by first|exact q1160|exact of_decide_eq_true (za5)|(have e_:=(Kd.N_reads' HO_3.out).1;omega))
                obtain⟨ua1160_2,uc1160_2,rfl,ul1160_2,ge1160_2⟩:=k62_openF hMe1160
                have hv1160_2:=hcc1160 2 _ rfl
                rw[add_field _ _ 2 (by omega)] at hv1160_2
                replace hv1160_2:=Option.some.inj (hv1160_2.symm.trans hx1160_2)
                injection hv1160_2 with hva_ hvn_ hvc_
                rw[hva_] at ge1160_2
                rw[hvc_] at ul1160_2
                have HL1160_2:=Aside0.mk (show Kd.V (Kd.int .i64) 3 _ w.heap.size _ _ ((rd_T62 t1145 x12_3).f2) from Kd.V_mk ul1160_2 ge1160_2)
                clear hva_ hvn_ hvc_ ge1160_2 ul1160_2
                clear hcc1160 hce1160
                have HR1160_2:=Aside0.mk hi1160_2
                have HC1160_2:=Aside0.mk hl1160_2
                clear hi1160_2 hl1160_2
                replace p1160:=eq_true p1160
                replace q1160:=eq_true q1160
                have ea_:=Option.some.inj (hx1159_2.symm.trans hx1160_2)
                injection ea_ with ea_ en_ ec_
                subst ea_
                subst ec_
                clear en_
                go_wp2
                go_roundg k3
                case measure=>have:=HJ5.out;have:=HK2.out;have:=HK3.out;omega
                case rel=>exact⟨(x9_3),(x10_3),(wrap64 (x11_3+1)),(wrap64 (x12_3+1)),(za17),(za17),(za17),(za17),H',⟨by have:=HJ5.out;have:=HK2.out;have:=HK3.out;omega⟩,⟨za11 HO_3⟩,⟨za11 HO_6⟩,⟨za1 HB⟩⟩
               ·rw[if_neg c30] at H
                have c30b0:(((rd_T62 t1145 x12_3).f0) == 7)=false:=beq_eq_false_iff_ne.mpr c30
                have c30b1:(((rd_T62 t1145 x12_3).f0) != 7)=true:=bne_iff_ne.mpr c30
                have H':=Aside0.mk H
                clear H
                have p1159:0≤(x12_3:Int):=of_decide_eq_true (za5)
                have q1159:x12_3<(t1145.length:Int):=of_decide_eq_true (za5)
                obtain⟨ad1159,A1159_2,c1159_2,e1159,hx1159_0,hx1159_1,hx1159_2,hl1159_2,hi1159_2⟩:=at_T62 (Kd.N_reads' HO_3.out).2.2 x12_3 p1159 q1159
                cases e1159
                obtain⟨ce1159,hce1159,hMe1159,hcc1159⟩:=Kd.N_get HO_3.out z62 x12_3 p1159 (by first|exact q1159|exact of_decide_eq_true (za5)|(have e_:=(Kd.N_reads' HO_3.out).1;omega))
                obtain⟨ua1159_2,uc1159_2,rfl,ul1159_2,ge1159_2⟩:=k62_openF hMe1159
                have hv1159_2:=hcc1159 2 _ rfl
                rw[add_field _ _ 2 (by omega)] at hv1159_2
                replace hv1159_2:=Option.some.inj (hv1159_2.symm.trans hx1159_2)
                injection hv1159_2 with hva_ hvn_ hvc_
                rw[hva_] at ge1159_2
                rw[hvc_] at ul1159_2
                have HL1159_2:=Aside0.mk (show Kd.V (Kd.int .i64) 3 _ w.heap.size _ _ ((rd_T62 t1145 x12_3).f2) from Kd.V_mk ul1159_2 ge1159_2)
                clear hva_ hvn_ hvc_ ge1159_2 ul1159_2
                clear hcc1159 hce1159
                have HR1159_2:=Aside0.mk hi1159_2
                have HC1159_2:=Aside0.mk hl1159_2
                clear hi1159_2 hl1159_2
                replace p1159:=eq_true p1159
                replace q1159:=eq_true q1159
                have p1160:0≤(x12_3:Int):=of_decide_eq_true (za5)
                have q1160:x12_3<(t1145.length:Int):=of_decide_eq_true (za5)
                obtain⟨ad1160,A1160_2,c1160_2,e1160,hx1160_0,hx1160_1,hx1160_2,hl1160_2,hi1160_2⟩:=at_T62 (Kd.N_reads' HO_3.out).2.2 x12_3 p1160 q1160
                obtain rfl:ad1159=ad1160:=(by injection e1160)
                obtain⟨ce1160,hce1160,hMe1160,hcc1160⟩:=Kd.N_get HO_3.out z62 x12_3 p1160 (by first|exact q1160|exact of_decide_eq_true (za5)|(have e_:=(Kd.N_reads' HO_3.out).1;omega))
                obtain⟨ua1160_2,uc1160_2,rfl,ul1160_2,ge1160_2⟩:=k62_openF hMe1160
                have hv1160_2:=hcc1160 2 _ rfl
                rw[add_field _ _ 2 (by omega)] at hv1160_2
                replace hv1160_2:=Option.some.inj (hv1160_2.symm.trans hx1160_2)
                injection hv1160_2 with hva_ hvn_ hvc_
                rw[hva_] at ge1160_2
                rw[hvc_] at ul1160_2
                have HL1160_2:=Aside0.mk (show Kd.V (Kd.int .i64) 3 _ w.heap.size _ _ ((rd_T62 t1145 x12_3).f2) from Kd.V_mk ul1160_2 ge1160_2)
                clear hva_ hvn_ hvc_ ge1160_2 ul1160_2
                clear hcc1160 hce1160
                have HR1160_2:=Aside0.mk hi1160_2
                have HC1160_2:=Aside0.mk hl1160_2
                clear hi1160_2 hl1160_2
                replace p1160:=eq_true p1160
                replace q1160:=eq_true q1160
                have ea_:=Option.some.inj (hx1159_2.symm.trans hx1160_2)
                injection ea_ with ea_ en_ ec_
                subst ea_
                subst ec_
                clear en_
                go_wp2
                go_roundg k3
                case measure=>have:=HJ5.out;have:=HK2.out;have:=HK3.out;omega
                case rel=>exact⟨(x9_3),(x10_3),(x11_3),(wrap64 (x12_3+1)),(za17),(za17),(za17),(za17),H',⟨by have:=HJ5.out;have:=HK2.out;have:=HK3.out;omega⟩,⟨za11 HO_3⟩,⟨za11 HO_6⟩,⟨za1 HB⟩⟩
            ·rw[if_neg c27] at H
             have c27b0:(((rd_T62 t1145 x12_3).f1) == x8_2)=false:=beq_eq_false_iff_ne.mpr c27
             have c27b1:(((rd_T62 t1145 x12_3).f1) != x8_2)=true:=bne_iff_ne.mpr c27
             have H':=Aside0.mk H
             clear H
             have p1159:0≤(x12_3:Int):=of_decide_eq_true (za5)
             have q1159:x12_3<(t1145.length:Int):=of_decide_eq_true (za5)
             obtain⟨ad1159,A1159_2,c1159_2,e1159,hx1159_0,hx1159_1,hx1159_2,hl1159_2,hi1159_2⟩:=at_T62 (Kd.N_reads' HO_3.out).2.2 x12_3 p1159 q1159
             cases e1159
             obtain⟨ce1159,hce1159,hMe1159,hcc1159⟩:=Kd.N_get HO_3.out z62 x12_3 p1159 (by first|exact q1159|exact of_decide_eq_true (za5)|(have e_:=(Kd.N_reads' HO_3.out).1;omega))
             obtain⟨ua1159_2,uc1159_2,rfl,ul1159_2,ge1159_2⟩:=k62_openF hMe1159
             have hv1159_2:=hcc1159 2 _ rfl
             rw[add_field _ _ 2 (by omega)] at hv1159_2
             replace hv1159_2:=Option.some.inj (hv1159_2.symm.trans hx1159_2)
             injection hv1159_2 with hva_ hvn_ hvc_
             rw[hva_] at ge1159_2
             rw[hvc_] at ul1159_2
             have HL1159_2:=Aside0.mk (show Kd.V (Kd.int .i64) 3 _ w.heap.size _ _ ((rd_T62 t1145 x12_3).f2) from Kd.V_mk ul1159_2 ge1159_2)
             clear hva_ hvn_ hvc_ ge1159_2 ul1159_2
             clear hcc1159 hce1159
             have HR1159_2:=Aside0.mk hi1159_2
             have HC1159_2:=Aside0.mk hl1159_2
             clear hi1159_2 hl1159_2
             replace p1159:=eq_true p1159
             replace q1159:=eq_true q1159
             go_wp2
             go_roundg k3
             case measure=>have:=HJ5.out;have:=HK2.out;have:=HK3.out;omega
             case rel=>exact⟨(x9_3),(x10_3),(x11_3),(wrap64 (x12_3+1)),(za17),(za17),(za17),(za17),H',⟨by have:=HJ5.out;have:=HK2.out;have:=HK3.out;omega⟩,⟨za11 HO_3⟩,⟨za11 HO_6⟩,⟨za1 HB⟩⟩
           ·rw[if_neg c26] at H
            exact absurd H (by simp)
          ·rw[if_neg c25] at H
           have c25b0:decide (x12_3<(t1145.length:Int))=false:=decide_eq_false c25
           clear c25
           obtain⟨ji31,hji31⟩:∃j_:Int,(wrap64 (x8_2 - 1))=j_:=⟨_,rfl⟩
           replace H:(if 0≤(ji31) then(if(ji31)<(t1152.length:Int) then(if(wrap64 (x9_3+x10_3))>1 then(some false) else(if x11_3>(wrap64 (x9_3+x10_3)) then(some false) else(if x9_3=1 then(if((((rd_T73 t1152 (ji31)).f1) == 4) != (x11_3 == 1))=true then(some false) else(if x10_3=1 then(if((((rd_T73 t1152 (ji31)).f1) == 5) != (x11_3 == 1))=true then(some false) else(if((((rd_T73 t1152 (ji31)).f1) == 1) != ((wrap64 (x9_3+x10_3)) == 0))=true then(some false) else(laws_FnTripsKept.l0 k3 t1145 t1152 (wrap64 (x8_2+1))))) else(if((((rd_T73 t1152 (ji31)).f1) == 5) != false)=true then(some false) else(if((((rd_T73 t1152 (ji31)).f1) == 1) != ((wrap64 (x9_3+x10_3)) == 0))=true then(some false) else(laws_FnTripsKept.l0 k3 t1145 t1152 (wrap64 (x8_2+1))))))) else(if((((rd_T73 t1152 (ji31)).f1) == 4) != false)=true then(some false) else(if x10_3=1 then(if((((rd_T73 t1152 (ji31)).f1) == 5) != (x11_3 == 1))=true then(some false) else(if((((rd_T73 t1152 (ji31)).f1) == 1) != ((wrap64 (x9_3+x10_3)) == 0))=true then(some false) else(laws_FnTripsKept.l0 k3 t1145 t1152 (wrap64 (x8_2+1))))) else(if((((rd_T73 t1152 (ji31)).f1) == 5) != false)=true then(some false) else(if((((rd_T73 t1152 (ji31)).f1) == 1) != ((wrap64 (x9_3+x10_3)) == 0))=true then(some false) else(laws_FnTripsKept.l0 k3 t1145 t1152 (wrap64 (x8_2+1)))))))))) else(none)) else(none))=some r:=by first|(rw[hji31] at H;exact H)|(simp only[hji31] at H ⊢;exact H)
           have hji31w:(IntKind.i64.wrap (x8_2 - 1))=ji31:=(qaj _).trans hji31
           by_cases c32:0≤(ji31)
           ·rw[if_pos c32] at H
            have c32b0:decide (0≤(ji31))=true:=decide_eq_true c32
            clear c32
            by_cases c33:(ji31)<(t1152.length:Int)
            ·rw[if_pos c33] at H
             have c33b0:decide ((ji31)<(t1152.length:Int))=true:=decide_eq_true c33
             clear c33
             by_cases c34:(wrap64 (x9_3+x10_3))>1
             ·rw[if_pos c34] at H
              have c34b0:decide (1<(wrap64 (x9_3+x10_3)))=true:=decide_eq_true c34
              clear c34
              obtain rfl:=Option.some.inj H
              have p1158:0≤((ji31):Int):=of_decide_eq_true (za5)
              have q1158:(ji31)<(t1152.length:Int):=of_decide_eq_true (za5)
              obtain⟨ad1158,A1158_0,c1158_0,e1158,hx1158_0,hx1158_1,hl1158_0,hi1158_0⟩:=at_T73 (Kd.N_reads' HO_6.out).2.2 (ji31) p1158 q1158
              cases e1158
              obtain⟨ce1158,hce1158,hMe1158,hcc1158⟩:=Kd.N_get HO_6.out z73 (ji31) p1158 (by first|exact q1158|exact of_decide_eq_true (za5)|(have e_:=(Kd.N_reads' HO_6.out).1;omega))
              obtain⟨ua1158_0,uc1158_0,rfl,ul1158_0,ge1158_0⟩:=k73_openF hMe1158
              have hv1158_0:=hcc1158 0 _ rfl
              rw[Nat.add_zero] at hv1158_0
              replace hv1158_0:=Option.some.inj (hv1158_0.symm.trans hx1158_0)
              injection hv1158_0 with hva_ hvn_ hvc_
              rw[hva_] at ge1158_0
              rw[hvc_] at ul1158_0
              have HL1158_0:=Aside0.mk (show Kd.V (Kd.int .i64) 3 _ w.heap.size _ _ ((rd_T73 t1152 (ji31)).f0) from Kd.V_mk ul1158_0 ge1158_0)
              clear hva_ hvn_ hvc_ ge1158_0 ul1158_0
              clear hcc1158 hce1158
              have HR1158_0:=Aside0.mk hi1158_0
              have HC1158_0:=Aside0.mk hl1158_0
              clear hi1158_0 hl1158_0
              replace p1158:=eq_true p1158
              replace q1158:=eq_true q1158
              go_wp2
              go_ret
              exact⟨by first|rfl|(simp[qam,qal]<;>rfl)|(simp only[←hji31];first|rfl|(simp[qam,qal]<;>rfl))|(simp[*,qam,qal]<;>rfl),za1 HB⟩
             ·rw[if_neg c34] at H
              have c34b0:decide (1<(wrap64 (x9_3+x10_3)))=false:=decide_eq_false c34
              clear c34
              by_cases c35:x11_3>(wrap64 (x9_3+x10_3))
              ·rw[if_pos c35] at H
               have c35b0:decide ((wrap64 (x9_3+x10_3))<x11_3)=true:=decide_eq_true c35
               clear c35
               obtain rfl:=Option.some.inj H
               have p1158:0≤((ji31):Int):=of_decide_eq_true (za5)
               have q1158:(ji31)<(t1152.length:Int):=of_decide_eq_true (za5)
               obtain⟨ad1158,A1158_0,c1158_0,e1158,hx1158_0,hx1158_1,hl1158_0,hi1158_0⟩:=at_T73 (Kd.N_reads' HO_6.out).2.2 (ji31) p1158 q1158
               cases e1158
               obtain⟨ce1158,hce1158,hMe1158,hcc1158⟩:=Kd.N_get HO_6.out z73 (ji31) p1158 (by first|exact q1158|exact of_decide_eq_true (za5)|(have e_:=(Kd.N_reads' HO_6.out).1;omega))
               obtain⟨ua1158_0,uc1158_0,rfl,ul1158_0,ge1158_0⟩:=k73_openF hMe1158
               have hv1158_0:=hcc1158 0 _ rfl
               rw[Nat.add_zero] at hv1158_0
               replace hv1158_0:=Option.some.inj (hv1158_0.symm.trans hx1158_0)
               injection hv1158_0 with hva_ hvn_ hvc_
               rw[hva_] at ge1158_0
               rw[hvc_] at ul1158_0
               have HL1158_0:=Aside0.mk (show Kd.V (Kd.int .i64) 3 _ w.heap.size _ _ ((rd_T73 t1152 (ji31)).f0) from Kd.V_mk ul1158_0 ge1158_0)
               clear hva_ hvn_ hvc_ ge1158_0 ul1158_0
               clear hcc1158 hce1158
               have HR1158_0:=Aside0.mk hi1158_0
               have HC1158_0:=Aside0.mk hl1158_0
               clear hi1158_0 hl1158_0
               replace p1158:=eq_true p1158
               replace q1158:=eq_true q1158
               go_wp2
               go_ret
               exact⟨by first|rfl|(simp[qam,qal]<;>rfl)|(simp only[←hji31];first|rfl|(simp[qam,qal]<;>rfl))|(simp[*,qam,qal]<;>rfl),za1 HB⟩
              ·rw[if_neg c35] at H
               have c35b0:decide ((wrap64 (x9_3+x10_3))<x11_3)=false:=decide_eq_false c35
               clear c35
               by_cases c36:x9_3=1
               ·rw[if_pos c36] at H
                have c36b0:(x9_3 == 1)=true:=beq_iff_eq.mpr c36
                have c36b1:(x9_3 != 1)=false:=bne_eq_false_iff_eq.mpr c36
                clear c36
                by_cases c37:((((rd_T73 t1152 (ji31)).f1) == 4) != (x11_3 == 1))=true
                ·rw[if_pos c37] at H
                 have c37b0:((((rd_T73 t1152 (ji31)).f1) == 4) != (x11_3 == 1))=true:=c37
                 (try(have c37b1:decide ((((rd_T73 t1152 (ji31)).f1) == 4)=(x11_3 == 1))=false:=by simpa using c37))
                 (try(have c37b2:((((rd_T73 t1152 (ji31)).f1) == 4) == (x11_3 == 1))=false:=by simpa using c37))
                 (try(have c37b3:¬((((rd_T73 t1152 (ji31)).f1) == 4)=(x11_3 == 1)):=by simpa using c37))
                 clear c37
                 obtain rfl:=Option.some.inj H
                 have p1158:0≤((ji31):Int):=of_decide_eq_true (za5)
                 have q1158:(ji31)<(t1152.length:Int):=of_decide_eq_true (za5)
                 obtain⟨ad1158,A1158_0,c1158_0,e1158,hx1158_0,hx1158_1,hl1158_0,hi1158_0⟩:=at_T73 (Kd.N_reads' HO_6.out).2.2 (ji31) p1158 q1158
                 cases e1158
                 obtain⟨ce1158,hce1158,hMe1158,hcc1158⟩:=Kd.N_get HO_6.out z73 (ji31) p1158 (by first|exact q1158|exact of_decide_eq_true (za5)|(have e_:=(Kd.N_reads' HO_6.out).1;omega))
                 obtain⟨ua1158_0,uc1158_0,rfl,ul1158_0,ge1158_0⟩:=k73_openF hMe1158
                 have hv1158_0:=hcc1158 0 _ rfl
                 rw[Nat.add_zero] at hv1158_0
                 replace hv1158_0:=Option.some.inj (hv1158_0.symm.trans hx1158_0)
                 injection hv1158_0 with hva_ hvn_ hvc_
                 rw[hva_] at ge1158_0
                 rw[hvc_] at ul1158_0
                 have HL1158_0:=Aside0.mk (show Kd.V (Kd.int .i64) 3 _ w.heap.size _ _ ((rd_T73 t1152 (ji31)).f0) from Kd.V_mk ul1158_0 ge1158_0)
                 clear hva_ hvn_ hvc_ ge1158_0 ul1158_0
                 clear hcc1158 hce1158
                 have HR1158_0:=Aside0.mk hi1158_0
                 have HC1158_0:=Aside0.mk hl1158_0
                 clear hi1158_0 hl1158_0
                 replace p1158:=eq_true p1158
                 replace q1158:=eq_true q1158
                 go_wp2
                 go_ret
                 exact⟨by first|rfl|(simp[qam,qal]<;>rfl)|(simp only[←hji31];first|rfl|(simp[qam,qal]<;>rfl))|(simp[*,qam,qal]<;>rfl),za1 HB⟩
                ·rw[if_neg c37] at H
                 have c37b0:((((rd_T73 t1152 (ji31)).f1) == 4) != (x11_3 == 1))=false:=by simpa using c37
                 (try(have c37b1:decide ((((rd_T73 t1152 (ji31)).f1) == 4)=(x11_3 == 1))=true:=by simpa using c37))
                 (try(have c37b2:((((rd_T73 t1152 (ji31)).f1) == 4) == (x11_3 == 1))=true:=by simpa using c37))
                 clear c37
                 by_cases c38:x10_3=1
                 ·rw[if_pos c38] at H
                  have c38b0:(x10_3 == 1)=true:=beq_iff_eq.mpr c38
                  have c38b1:(x10_3 != 1)=false:=bne_eq_false_iff_eq.mpr c38
                  clear c38
                  by_cases c39:((((rd_T73 t1152 (ji31)).f1) == 5) != (x11_3 == 1))=true
                  ·rw[if_pos c39] at H
                   have c39b0:((((rd_T73 t1152 (ji31)).f1) == 5) != (x11_3 == 1))=true:=c39
                   (try(have c39b1:decide ((((rd_T73 t1152 (ji31)).f1) == 5)=(x11_3 == 1))=false:=by simpa using c39))
                   (try(have c39b2:((((rd_T73 t1152 (ji31)).f1) == 5) == (x11_3 == 1))=false:=by simpa using c39))
                   (try(have c39b3:¬((((rd_T73 t1152 (ji31)).f1) == 5)=(x11_3 == 1)):=by simpa using c39))
                   clear c39
                   obtain rfl:=Option.some.inj H
                   have p1158:0≤((ji31):Int):=of_decide_eq_true (za5)
                   have q1158:(ji31)<(t1152.length:Int):=of_decide_eq_true (za5)
                   obtain⟨ad1158,A1158_0,c1158_0,e1158,hx1158_0,hx1158_1,hl1158_0,hi1158_0⟩:=at_T73 (Kd.N_reads' HO_6.out).2.2 (ji31) p1158 q1158
                   cases e1158
                   obtain⟨ce1158,hce1158,hMe1158,hcc1158⟩:=Kd.N_get HO_6.out z73 (ji31) p1158 (by first|exact q1158|exact of_decide_eq_true (za5)|(have e_:=(Kd.N_reads' HO_6.out).1;omega))
                   obtain⟨ua1158_0,uc1158_0,rfl,ul1158_0,ge1158_0⟩:=k73_openF hMe1158
                   have hv1158_0:=hcc1158 0 _ rfl
                   rw[Nat.add_zero] at hv1158_0
                   replace hv1158_0:=Option.some.inj (hv1158_0.symm.trans hx1158_0)
                   injection hv1158_0 with hva_ hvn_ hvc_
                   rw[hva_] at ge1158_0
                   rw[hvc_] at ul1158_0
                   have HL1158_0:=Aside0.mk (show Kd.V (Kd.int .i64) 3 _ w.heap.size _ _ ((rd_T73 t1152 (ji31)).f0) from Kd.V_mk ul1158_0 ge1158_0)
                   clear hva_ hvn_ hvc_ ge1158_0 ul1158_0
                   clear hcc1158 hce1158
                   have HR1158_0:=Aside0.mk hi1158_0
                   have HC1158_0:=Aside0.mk hl1158_0
                   clear hi1158_0 hl1158_0
                   replace p1158:=eq_true p1158
                   replace q1158:=eq_true q1158
                   go_wp2
                   go_ret
                   exact⟨by first|rfl|(simp[qam,qal]<;>rfl)|(simp only[←hji31];first|rfl|(simp[qam,qal]<;>rfl))|(simp[*,qam,qal]<;>rfl),za1 HB⟩
                  ·rw[if_neg c39] at H
                   have c39b0:((((rd_T73 t1152 (ji31)).f1) == 5) != (x11_3 == 1))=false:=by simpa using c39
                   (try(have c39b1:decide ((((rd_T73 t1152 (ji31)).f1) == 5)=(x11_3 == 1))=true:=by simpa using c39))
                   (try(have c39b2:((((rd_T73 t1152 (ji31)).f1) == 5) == (x11_3 == 1))=true:=by simpa using c39))
                   clear c39
                   by_cases c40:((((rd_T73 t1152 (ji31)).f1) == 1) != ((wrap64 (x9_3+x10_3)) == 0))=true
                   ·rw[if_pos c40] at H
                    have c40b0:((((rd_T73 t1152 (ji31)).f1) == 1) != ((wrap64 (x9_3+x10_3)) == 0))=true:=c40
                    (try(have c40b1:decide ((((rd_T73 t1152 (ji31)).f1) == 1)=((wrap64 (x9_3+x10_3)) == 0))=false:=by simpa using c40))
                    (try(have c40b2:((((rd_T73 t1152 (ji31)).f1) == 1) == ((wrap64 (x9_3+x10_3)) == 0))=false:=by simpa using c40))
                    (try(have c40b3:¬((((rd_T73 t1152 (ji31)).f1) == 1)=((wrap64 (x9_3+x10_3)) == 0)):=by simpa using c40))
                    clear c40
                    obtain rfl:=Option.some.inj H
                    have p1158:0≤((ji31):Int):=of_decide_eq_true (za5)
                    have q1158:(ji31)<(t1152.length:Int):=of_decide_eq_true (za5)
                    obtain⟨ad1158,A1158_0,c1158_0,e1158,hx1158_0,hx1158_1,hl1158_0,hi1158_0⟩:=at_T73 (Kd.N_reads' HO_6.out).2.2 (ji31) p1158 q1158
                    cases e1158
                    obtain⟨ce1158,hce1158,hMe1158,hcc1158⟩:=Kd.N_get HO_6.out z73 (ji31) p1158 (by first|exact q1158|exact of_decide_eq_true (za5)|(have e_:=(Kd.N_reads' HO_6.out).1;omega))
                    obtain⟨ua1158_0,uc1158_0,rfl,ul1158_0,ge1158_0⟩:=k73_openF hMe1158
                    have hv1158_0:=hcc1158 0 _ rfl
                    rw[Nat.add_zero] at hv1158_0
                    replace hv1158_0:=Option.some.inj (hv1158_0.symm.trans hx1158_0)
                    injection hv1158_0 with hva_ hvn_ hvc_
                    rw[hva_] at ge1158_0
                    rw[hvc_] at ul1158_0
                    have HL1158_0:=Aside0.mk (show Kd.V (Kd.int .i64) 3 _ w.heap.size _ _ ((rd_T73 t1152 (ji31)).f0) from Kd.V_mk ul1158_0 ge1158_0)
                    clear hva_ hvn_ hvc_ ge1158_0 ul1158_0
                    clear hcc1158 hce1158
                    have HR1158_0:=Aside0.mk hi1158_0
                    have HC1158_0:=Aside0.mk hl1158_0
                    clear hi1158_0 hl1158_0
                    replace p1158:=eq_true p1158
                    replace q1158:=eq_true q1158
                    go_wp2
                    go_ret
                    exact⟨by first|rfl|(simp[qam,qal]<;>rfl)|(simp only[←hji31];first|rfl|(simp[qam,qal]<;>rfl))|(simp[*,qam,qal]<;>rfl),za1 HB⟩
                   ·rw[if_neg c40] at H
                    have c40b0:((((rd_T73 t1152 (ji31)).f1) == 1) != ((wrap64 (x9_3+x10_3)) == 0))=false:=by simpa using c40
                    (try(have c40b1:decide ((((rd_T73 t1152 (ji31)).f1) == 1)=((wrap64 (x9_3+x10_3)) == 0))=true:=by simpa using c40))
                    (try(have c40b2:((((rd_T73 t1152 (ji31)).f1) == 1) == ((wrap64 (x9_3+x10_3)) == 0))=true:=by simpa using c40))
                    clear c40
                    have H':=Aside0.mk H
                    clear H
                    have p1158:0≤((ji31):Int):=of_decide_eq_true (za5)
                    have q1158:(ji31)<(t1152.length:Int):=of_decide_eq_true (za5)
                    obtain⟨ad1158,A1158_0,c1158_0,e1158,hx1158_0,hx1158_1,hl1158_0,hi1158_0⟩:=at_T73 (Kd.N_reads' HO_6.out).2.2 (ji31) p1158 q1158
                    cases e1158
                    obtain⟨ce1158,hce1158,hMe1158,hcc1158⟩:=Kd.N_get HO_6.out z73 (ji31) p1158 (by first|exact q1158|exact of_decide_eq_true (za5)|(have e_:=(Kd.N_reads' HO_6.out).1;omega))
                    obtain⟨ua1158_0,uc1158_0,rfl,ul1158_0,ge1158_0⟩:=k73_openF hMe1158
                    have hv1158_0:=hcc1158 0 _ rfl
                    rw[Nat.add_zero] at hv1158_0
                    replace hv1158_0:=Option.some.inj (hv1158_0.symm.trans hx1158_0)
                    injection hv1158_0 with hva_ hvn_ hvc_
                    rw[hva_] at ge1158_0
                    rw[hvc_] at ul1158_0
                    have HL1158_0:=Aside0.mk (show Kd.V (Kd.int .i64) 3 _ w.heap.size _ _ ((rd_T73 t1152 (ji31)).f0) from Kd.V_mk ul1158_0 ge1158_0)
                    clear hva_ hvn_ hvc_ ge1158_0 ul1158_0
                    clear hcc1158 hce1158
                    have HR1158_0:=Aside0.mk hi1158_0
                    have HC1158_0:=Aside0.mk hl1158_0
                    clear hi1158_0 hl1158_0
                    replace p1158:=eq_true p1158
                    replace q1158:=eq_true q1158
                    go_wp2
                    go_roundg k3
                    case measure=>have:=HJ5.out;have:=HK2.out;have:=HK3.out;omega
                    case rel=>exact⟨(wrap64 (x8_2+1)),(za17),H',⟨by have:=HJ5.out;have:=HK2.out;have:=HK3.out;omega⟩,⟨za11 HO_3⟩,⟨za11 HO_6⟩,⟨za1 HB⟩⟩
                 ·rw[if_neg c38] at H
                  have c38b0:(x10_3 == 1)=false:=beq_eq_false_iff_ne.mpr c38
                  have c38b1:(x10_3 != 1)=true:=bne_iff_ne.mpr c38
                  by_cases c41:((((rd_T73 t1152 (ji31)).f1) == 5) != false)=true
                  ·rw[if_pos c41] at H
                   have c41b0:((((rd_T73 t1152 (ji31)).f1) == 5) != false)=true:=c41
                   (try(have c41b1:decide ((((rd_T73 t1152 (ji31)).f1) == 5)=false)=false:=by simpa using c41))
                   (try(have c41b2:((((rd_T73 t1152 (ji31)).f1) == 5) == false)=false:=by simpa using c41))
                   (try(have c41b3:¬((((rd_T73 t1152 (ji31)).f1) == 5)=false):=by simpa using c41))
                   clear c41
                   obtain rfl:=Option.some.inj H
                   have p1158:0≤((ji31):Int):=of_decide_eq_true (za5)
                   have q1158:(ji31)<(t1152.length:Int):=of_decide_eq_true (za5)
                   obtain⟨ad1158,A1158_0,c1158_0,e1158,hx1158_0,hx1158_1,hl1158_0,hi1158_0⟩:=at_T73 (Kd.N_reads' HO_6.out).2.2 (ji31) p1158 q1158
                   cases e1158
                   obtain⟨ce1158,hce1158,hMe1158,hcc1158⟩:=Kd.N_get HO_6.out z73 (ji31) p1158 (by first|exact q1158|exact of_decide_eq_true (za5)|(have e_:=(Kd.N_reads' HO_6.out).1;omega))
                   obtain⟨ua1158_0,uc1158_0,rfl,ul1158_0,ge1158_0⟩:=k73_openF hMe1158
                   have hv1158_0:=hcc1158 0 _ rfl
                   rw[Nat.add_zero] at hv1158_0
                   replace hv1158_0:=Option.some.inj (hv1158_0.symm.trans hx1158_0)
                   injection hv1158_0 with hva_ hvn_ hvc_
                   rw[hva_] at ge1158_0
                   rw[hvc_] at ul1158_0
                   have HL1158_0:=Aside0.mk (show Kd.V (Kd.int .i64) 3 _ w.heap.size _ _ ((rd_T73 t1152 (ji31)).f0) from Kd.V_mk ul1158_0 ge1158_0)
                   clear hva_ hvn_ hvc_ ge1158_0 ul1158_0
                   clear hcc1158 hce1158
                   have HR1158_0:=Aside0.mk hi1158_0
                   have HC1158_0:=Aside0.mk hl1158_0
                   clear hi1158_0 hl1158_0
                   replace p1158:=eq_true p1158
                   replace q1158:=eq_true q1158
                   go_wp2
                   go_ret
                   exact⟨by first|rfl|(simp[qam,qal]<;>rfl)|(simp only[←hji31];first|rfl|(simp[qam,qal]<;>rfl))|(simp[*,qam,qal]<;>rfl),za1 HB⟩
                  ·rw[if_neg c41] at H
                   have c41b0:((((rd_T73 t1152 (ji31)).f1) == 5) != false)=false:=by simpa using c41
                   (try(have c41b1:decide ((((rd_T73 t1152 (ji31)).f1) == 5)=false)=true:=by simpa using c41))
                   (try(have c41b2:((((rd_T73 t1152 (ji31)).f1) == 5) == false)=true:=by simpa using c41))
                   clear c41
                   by_cases c42:((((rd_T73 t1152 (ji31)).f1) == 1) != ((wrap64 (x9_3+x10_3)) == 0))=true
                   ·rw[if_pos c42] at H
                    have c42b0:((((rd_T73 t1152 (ji31)).f1) == 1) != ((wrap64 (x9_3+x10_3)) == 0))=true:=c42
                    (try(have c42b1:decide ((((rd_T73 t1152 (ji31)).f1) == 1)=((wrap64 (x9_3+x10_3)) == 0))=false:=by simpa using c42))
                    (try(have c42b2:((((rd_T73 t1152 (ji31)).f1) == 1) == ((wrap64 (x9_3+x10_3)) == 0))=false:=by simpa using c42))
                    (try(have c42b3:¬((((rd_T73 t1152 (ji31)).f1) == 1)=((wrap64 (x9_3+x10_3)) == 0)):=by simpa using c42))
                    clear c42
                    obtain rfl:=Option.some.inj H
                    have p1158:0≤((ji31):Int):=of_decide_eq_true (za5)
                    have q1158:(ji31)<(t1152.length:Int):=of_decide_eq_true (za5)
                    obtain⟨ad1158,A1158_0,c1158_0,e1158,hx1158_0,hx1158_1,hl1158_0,hi1158_0⟩:=at_T73 (Kd.N_reads' HO_6.out).2.2 (ji31) p1158 q1158
                    cases e1158
                    obtain⟨ce1158,hce1158,hMe1158,hcc1158⟩:=Kd.N_get HO_6.out z73 (ji31) p1158 (by first|exact q1158|exact of_decide_eq_true (za5)|(have e_:=(Kd.N_reads' HO_6.out).1;omega))
                    obtain⟨ua1158_0,uc1158_0,rfl,ul1158_0,ge1158_0⟩:=k73_openF hMe1158
                    have hv1158_0:=hcc1158 0 _ rfl
                    rw[Nat.add_zero] at hv1158_0
                    replace hv1158_0:=Option.some.inj (hv1158_0.symm.trans hx1158_0)
                    injection hv1158_0 with hva_ hvn_ hvc_
                    rw[hva_] at ge1158_0
                    rw[hvc_] at ul1158_0
                    have HL1158_0:=Aside0.mk (show Kd.V (Kd.int .i64) 3 _ w.heap.size _ _ ((rd_T73 t1152 (ji31)).f0) from Kd.V_mk ul1158_0 ge1158_0)
                    clear hva_ hvn_ hvc_ ge1158_0 ul1158_0
                    clear hcc1158 hce1158
                    have HR1158_0:=Aside0.mk hi1158_0
                    have HC1158_0:=Aside0.mk hl1158_0
                    clear hi1158_0 hl1158_0
                    replace p1158:=eq_true p1158
                    replace q1158:=eq_true q1158
                    go_wp2
                    go_ret
                    exact⟨by first|rfl|(simp[qam,qal]<;>rfl)|(simp only[←hji31];first|rfl|(simp[qam,qal]<;>rfl))|(simp[*,qam,qal]<;>rfl),za1 HB⟩
                   ·rw[if_neg c42] at H
                    have c42b0:((((rd_T73 t1152 (ji31)).f1) == 1) != ((wrap64 (x9_3+x10_3)) == 0))=false:=by simpa using c42
                    (try(have c42b1:decide ((((rd_T73 t1152 (ji31)).f1) == 1)=((wrap64 (x9_3+x10_3)) == 0))=true:=by simpa using c42))
                    (try(have c42b2:((((rd_T73 t1152 (ji31)).f1) == 1) == ((wrap64 (x9_3+x10_3)) == 0))=true:=by simpa using c42))
                    clear c42
                    have H':=Aside0.mk H
                    clear H
                    have p1158:0≤((ji31):Int):=of_decide_eq_true (za5)
                    have q1158:(ji31)<(t1152.length:Int):=of_decide_eq_true (za5)
                    obtain⟨ad1158,A1158_0,c1158_0,e1158,hx1158_0,hx1158_1,hl1158_0,hi1158_0⟩:=at_T73 (Kd.N_reads' HO_6.out).2.2 (ji31) p1158 q1158
                    cases e1158
                    obtain⟨ce1158,hce1158,hMe1158,hcc1158⟩:=Kd.N_get HO_6.out z73 (ji31) p1158 (by first|exact q1158|exact of_decide_eq_true (za5)|(have e_:=(Kd.N_reads' HO_6.out).1;omega))
                    obtain⟨ua1158_0,uc1158_0,rfl,ul1158_0,ge1158_0⟩:=k73_openF hMe1158
                    have hv1158_0:=hcc1158 0 _ rfl
                    rw[Nat.add_zero] at hv1158_0
                    replace hv1158_0:=Option.some.inj (hv1158_0.symm.trans hx1158_0)
                    injection hv1158_0 with hva_ hvn_ hvc_
                    rw[hva_] at ge1158_0
                    rw[hvc_] at ul1158_0
                    have HL1158_0:=Aside0.mk (show Kd.V (Kd.int .i64) 3 _ w.heap.size _ _ ((rd_T73 t1152 (ji31)).f0) from Kd.V_mk ul1158_0 ge1158_0)
                    clear hva_ hvn_ hvc_ ge1158_0 ul1158_0
                    clear hcc1158 hce1158
                    have HR1158_0:=Aside0.mk hi1158_0
                    have HC1158_0:=Aside0.mk hl1158_0
                    clear hi1158_0 hl1158_0
                    replace p1158:=eq_true p1158
                    replace q1158:=eq_true q1158
                    go_wp2
                    go_roundg k3
                    case measure=>have:=HJ5.out;have:=HK2.out;have:=HK3.out;omega
                    case rel=>exact⟨(wrap64 (x8_2+1)),(za17),H',⟨by have:=HJ5.out;have:=HK2.out;have:=HK3.out;omega⟩,⟨za11 HO_3⟩,⟨za11 HO_6⟩,⟨za1 HB⟩⟩
               ·rw[if_neg c36] at H
                have c36b0:(x9_3 == 1)=false:=beq_eq_false_iff_ne.mpr c36
                have c36b1:(x9_3 != 1)=true:=bne_iff_ne.mpr c36
                by_cases c43:((((rd_T73 t1152 (ji31)).f1) == 4) != false)=true
                ·rw[if_pos c43] at H
                 have c43b0:((((rd_T73 t1152 (ji31)).f1) == 4) != false)=true:=c43
                 (try(have c43b1:decide ((((rd_T73 t1152 (ji31)).f1) == 4)=false)=false:=by simpa using c43))
                 (try(have c43b2:((((rd_T73 t1152 (ji31)).f1) == 4) == false)=false:=by simpa using c43))
                 (try(have c43b3:¬((((rd_T73 t1152 (ji31)).f1) == 4)=false):=by simpa using c43))
                 clear c43
                 obtain rfl:=Option.some.inj H
                 have p1158:0≤((ji31):Int):=of_decide_eq_true (za5)
                 have q1158:(ji31)<(t1152.length:Int):=of_decide_eq_true (za5)
                 obtain⟨ad1158,A1158_0,c1158_0,e1158,hx1158_0,hx1158_1,hl1158_0,hi1158_0⟩:=at_T73 (Kd.N_reads' HO_6.out).2.2 (ji31) p1158 q1158
                 cases e1158
                 obtain⟨ce1158,hce1158,hMe1158,hcc1158⟩:=Kd.N_get HO_6.out z73 (ji31) p1158 (by first|exact q1158|exact of_decide_eq_true (za5)|(have e_:=(Kd.N_reads' HO_6.out).1;omega))
                 obtain⟨ua1158_0,uc1158_0,rfl,ul1158_0,ge1158_0⟩:=k73_openF hMe1158
                 have hv1158_0:=hcc1158 0 _ rfl
                 rw[Nat.add_zero] at hv1158_0
                 replace hv1158_0:=Option.some.inj (hv1158_0.symm.trans hx1158_0)
                 injection hv1158_0 with hva_ hvn_ hvc_
                 rw[hva_] at ge1158_0
                 rw[hvc_] at ul1158_0
                 have HL1158_0:=Aside0.mk (show Kd.V (Kd.int .i64) 3 _ w.heap.size _ _ ((rd_T73 t1152 (ji31)).f0) from Kd.V_mk ul1158_0 ge1158_0)
                 clear hva_ hvn_ hvc_ ge1158_0 ul1158_0
                 clear hcc1158 hce1158
                 have HR1158_0:=Aside0.mk hi1158_0
                 have HC1158_0:=Aside0.mk hl1158_0
                 clear hi1158_0 hl1158_0
                 replace p1158:=eq_true p1158
                 replace q1158:=eq_true q1158
                 go_wp2
                 go_ret
                 exact⟨by first|rfl|(simp[qam,qal]<;>rfl)|(simp only[←hji31];first|rfl|(simp[qam,qal]<;>rfl))|(simp[*,qam,qal]<;>rfl),za1 HB⟩
                ·rw[if_neg c43] at H
                 have c43b0:((((rd_T73 t1152 (ji31)).f1) == 4) != false)=false:=by simpa using c43
                 (try(have c43b1:decide ((((rd_T73 t1152 (ji31)).f1) == 4)=false)=true:=by simpa using c43))
                 (try(have c43b2:((((rd_T73 t1152 (ji31)).f1) == 4) == false)=true:=by simpa using c43))
                 clear c43
                 by_cases c44:x10_3=1
                 ·rw[if_pos c44] at H
                  have c44b0:(x10_3 == 1)=true:=beq_iff_eq.mpr c44
                  have c44b1:(x10_3 != 1)=false:=bne_eq_false_iff_eq.mpr c44
                  clear c44
                  by_cases c45:((((rd_T73 t1152 (ji31)).f1) == 5) != (x11_3 == 1))=true
                  ·rw[if_pos c45] at H
                   have c45b0:((((rd_T73 t1152 (ji31)).f1) == 5) != (x11_3 == 1))=true:=c45
                   (try(have c45b1:decide ((((rd_T73 t1152 (ji31)).f1) == 5)=(x11_3 == 1))=false:=by simpa using c45))
                   (try(have c45b2:((((rd_T73 t1152 (ji31)).f1) == 5) == (x11_3 == 1))=false:=by simpa using c45))
                   (try(have c45b3:¬((((rd_T73 t1152 (ji31)).f1) == 5)=(x11_3 == 1)):=by simpa using c45))
                   clear c45
                   obtain rfl:=Option.some.inj H
                   have p1158:0≤((ji31):Int):=of_decide_eq_true (za5)
                   have q1158:(ji31)<(t1152.length:Int):=of_decide_eq_true (za5)
                   obtain⟨ad1158,A1158_0,c1158_0,e1158,hx1158_0,hx1158_1,hl1158_0,hi1158_0⟩:=at_T73 (Kd.N_reads' HO_6.out).2.2 (ji31) p1158 q1158
                   cases e1158
                   obtain⟨ce1158,hce1158,hMe1158,hcc1158⟩:=Kd.N_get HO_6.out z73 (ji31) p1158 (by first|exact q1158|exact of_decide_eq_true (za5)|(have e_:=(Kd.N_reads' HO_6.out).1;omega))
                   obtain⟨ua1158_0,uc1158_0,rfl,ul1158_0,ge1158_0⟩:=k73_openF hMe1158
                   have hv1158_0:=hcc1158 0 _ rfl
                   rw[Nat.add_zero] at hv1158_0
                   replace hv1158_0:=Option.some.inj (hv1158_0.symm.trans hx1158_0)
                   injection hv1158_0 with hva_ hvn_ hvc_
                   rw[hva_] at ge1158_0
                   rw[hvc_] at ul1158_0
                   have HL1158_0:=Aside0.mk (show Kd.V (Kd.int .i64) 3 _ w.heap.size _ _ ((rd_T73 t1152 (ji31)).f0) from Kd.V_mk ul1158_0 ge1158_0)
                   clear hva_ hvn_ hvc_ ge1158_0 ul1158_0
                   clear hcc1158 hce1158
                   have HR1158_0:=Aside0.mk hi1158_0
                   have HC1158_0:=Aside0.mk hl1158_0
                   clear hi1158_0 hl1158_0
                   replace p1158:=eq_true p1158
                   replace q1158:=eq_true q1158
                   go_wp2
                   go_ret
                   exact⟨by first|rfl|(simp[qam,qal]<;>rfl)|(simp only[←hji31];first|rfl|(simp[qam,qal]<;>rfl))|(simp[*,qam,qal]<;>rfl),za1 HB⟩
                  ·rw[if_neg c45] at H
                   have c45b0:((((rd_T73 t1152 (ji31)).f1) == 5) != (x11_3 == 1))=false:=by simpa using c45
                   (try(have c45b1:decide ((((rd_T73 t1152 (ji31)).f1) == 5)=(x11_3 == 1))=true:=by simpa using c45))
                   (try(have c45b2:((((rd_T73 t1152 (ji31)).f1) == 5) == (x11_3 == 1))=true:=by simpa using c45))
                   clear c45
                   by_cases c46:((((rd_T73 t1152 (ji31)).f1) == 1) != ((wrap64 (x9_3+x10_3)) == 0))=true
                   ·rw[if_pos c46] at H
                    have c46b0:((((rd_T73 t1152 (ji31)).f1) == 1) != ((wrap64 (x9_3+x10_3)) == 0))=true:=c46
                    (try(have c46b1:decide ((((rd_T73 t1152 (ji31)).f1) == 1)=((wrap64 (x9_3+x10_3)) == 0))=false:=by simpa using c46))
                    (try(have c46b2:((((rd_T73 t1152 (ji31)).f1) == 1) == ((wrap64 (x9_3+x10_3)) == 0))=false:=by simpa using c46))
                    (try(have c46b3:¬((((rd_T73 t1152 (ji31)).f1) == 1)=((wrap64 (x9_3+x10_3)) == 0)):=by simpa using c46))
                    clear c46
                    obtain rfl:=Option.some.inj H
                    have p1158:0≤((ji31):Int):=of_decide_eq_true (za5)
                    have q1158:(ji31)<(t1152.length:Int):=of_decide_eq_true (za5)
                    obtain⟨ad1158,A1158_0,c1158_0,e1158,hx1158_0,hx1158_1,hl1158_0,hi1158_0⟩:=at_T73 (Kd.N_reads' HO_6.out).2.2 (ji31) p1158 q1158
                    cases e1158
                    obtain⟨ce1158,hce1158,hMe1158,hcc1158⟩:=Kd.N_get HO_6.out z73 (ji31) p1158 (by first|exact q1158|exact of_decide_eq_true (za5)|(have e_:=(Kd.N_reads' HO_6.out).1;omega))
                    obtain⟨ua1158_0,uc1158_0,rfl,ul1158_0,ge1158_0⟩:=k73_openF hMe1158
                    have hv1158_0:=hcc1158 0 _ rfl
                    rw[Nat.add_zero] at hv1158_0
                    replace hv1158_0:=Option.some.inj (hv1158_0.symm.trans hx1158_0)
                    injection hv1158_0 with hva_ hvn_ hvc_
                    rw[hva_] at ge1158_0
                    rw[hvc_] at ul1158_0
                    have HL1158_0:=Aside0.mk (show Kd.V (Kd.int .i64) 3 _ w.heap.size _ _ ((rd_T73 t1152 (ji31)).f0) from Kd.V_mk ul1158_0 ge1158_0)
                    clear hva_ hvn_ hvc_ ge1158_0 ul1158_0
                    clear hcc1158 hce1158
                    have HR1158_0:=Aside0.mk hi1158_0
                    have HC1158_0:=Aside0.mk hl1158_0
                    clear hi1158_0 hl1158_0
                    replace p1158:=eq_true p1158
                    replace q1158:=eq_true q1158
                    go_wp2
                    go_ret
                    exact⟨by first|rfl|(simp[qam,qal]<;>rfl)|(simp only[←hji31];first|rfl|(simp[qam,qal]<;>rfl))|(simp[*,qam,qal]<;>rfl),za1 HB⟩
                   ·rw[if_neg c46] at H
                    have c46b0:((((rd_T73 t1152 (ji31)).f1) == 1) != ((wrap64 (x9_3+x10_3)) == 0))=false:=by simpa using c46
                    (try(have c46b1:decide ((((rd_T73 t1152 (ji31)).f1) == 1)=((wrap64 (x9_3+x10_3)) == 0))=true:=by simpa using c46))
                    (try(have c46b2:((((rd_T73 t1152 (ji31)).f1) == 1) == ((wrap64 (x9_3+x10_3)) == 0))=true:=by simpa using c46))
                    clear c46
                    have H':=Aside0.mk H
                    clear H
                    have p1158:0≤((ji31):Int):=of_decide_eq_true (za5)
                    have q1158:(ji31)<(t1152.length:Int):=of_decide_eq_true (za5)
                    obtain⟨ad1158,A1158_0,c1158_0,e1158,hx1158_0,hx1158_1,hl1158_0,hi1158_0⟩:=at_T73 (Kd.N_reads' HO_6.out).2.2 (ji31) p1158 q1158
                    cases e1158
                    obtain⟨ce1158,hce1158,hMe1158,hcc1158⟩:=Kd.N_get HO_6.out z73 (ji31) p1158 (by first|exact q1158|exact of_decide_eq_true (za5)|(have e_:=(Kd.N_reads' HO_6.out).1;omega))
                    obtain⟨ua1158_0,uc1158_0,rfl,ul1158_0,ge1158_0⟩:=k73_openF hMe1158
                    have hv1158_0:=hcc1158 0 _ rfl
                    rw[Nat.add_zero] at hv1158_0
                    replace hv1158_0:=Option.some.inj (hv1158_0.symm.trans hx1158_0)
                    injection hv1158_0 with hva_ hvn_ hvc_
                    rw[hva_] at ge1158_0
                    rw[hvc_] at ul1158_0
                    have HL1158_0:=Aside0.mk (show Kd.V (Kd.int .i64) 3 _ w.heap.size _ _ ((rd_T73 t1152 (ji31)).f0) from Kd.V_mk ul1158_0 ge1158_0)
                    clear hva_ hvn_ hvc_ ge1158_0 ul1158_0
                    clear hcc1158 hce1158
                    have HR1158_0:=Aside0.mk hi1158_0
                    have HC1158_0:=Aside0.mk hl1158_0
                    clear hi1158_0 hl1158_0
                    replace p1158:=eq_true p1158
                    replace q1158:=eq_true q1158
                    go_wp2
                    go_roundg k3
                    case measure=>have:=HJ5.out;have:=HK2.out;have:=HK3.out;omega
                    case rel=>exact⟨(wrap64 (x8_2+1)),(za17),H',⟨by have:=HJ5.out;have:=HK2.out;have:=HK3.out;omega⟩,⟨za11 HO_3⟩,⟨za11 HO_6⟩,⟨za1 HB⟩⟩
                 ·rw[if_neg c44] at H
                  have c44b0:(x10_3 == 1)=false:=beq_eq_false_iff_ne.mpr c44
                  have c44b1:(x10_3 != 1)=true:=bne_iff_ne.mpr c44
                  by_cases c47:((((rd_T73 t1152 (ji31)).f1) == 5) != false)=true
                  ·rw[if_pos c47] at H
                   have c47b0:((((rd_T73 t1152 (ji31)).f1) == 5) != false)=true:=c47
                   (try(have c47b1:decide ((((rd_T73 t1152 (ji31)).f1) == 5)=false)=false:=by simpa using c47))
                   (try(have c47b2:((((rd_T73 t1152 (ji31)).f1) == 5) == false)=false:=by simpa using c47))
                   (try(have c47b3:¬((((rd_T73 t1152 (ji31)).f1) == 5)=false):=by simpa using c47))
                   clear c47
                   obtain rfl:=Option.some.inj H
                   have p1158:0≤((ji31):Int):=of_decide_eq_true (za5)
                   have q1158:(ji31)<(t1152.length:Int):=of_decide_eq_true (za5)
                   obtain⟨ad1158,A1158_0,c1158_0,e1158,hx1158_0,hx1158_1,hl1158_0,hi1158_0⟩:=at_T73 (Kd.N_reads' HO_6.out).2.2 (ji31) p1158 q1158
                   cases e1158
                   obtain⟨ce1158,hce1158,hMe1158,hcc1158⟩:=Kd.N_get HO_6.out z73 (ji31) p1158 (by first|exact q1158|exact of_decide_eq_true (za5)|(have e_:=(Kd.N_reads' HO_6.out).1;omega))
                   obtain⟨ua1158_0,uc1158_0,rfl,ul1158_0,ge1158_0⟩:=k73_openF hMe1158
                   have hv1158_0:=hcc1158 0 _ rfl
                   rw[Nat.add_zero] at hv1158_0
                   replace hv1158_0:=Option.some.inj (hv1158_0.symm.trans hx1158_0)
                   injection hv1158_0 with hva_ hvn_ hvc_
                   rw[hva_] at ge1158_0
                   rw[hvc_] at ul1158_0
                   have HL1158_0:=Aside0.mk (show Kd.V (Kd.int .i64) 3 _ w.heap.size _ _ ((rd_T73 t1152 (ji31)).f0) from Kd.V_mk ul1158_0 ge1158_0)
                   clear hva_ hvn_ hvc_ ge1158_0 ul1158_0
                   clear hcc1158 hce1158
                   have HR1158_0:=Aside0.mk hi1158_0
                   have HC1158_0:=Aside0.mk hl1158_0
                   clear hi1158_0 hl1158_0
                   replace p1158:=eq_true p1158
                   replace q1158:=eq_true q1158
                   go_wp2
                   go_ret
                   exact⟨by first|rfl|(simp[qam,qal]<;>rfl)|(simp only[←hji31];first|rfl|(simp[qam,qal]<;>rfl))|(simp[*,qam,qal]<;>rfl),za1 HB⟩
                  ·rw[if_neg c47] at H
                   have c47b0:((((rd_T73 t1152 (ji31)).f1) == 5) != false)=false:=by simpa using c47
                   (try(have c47b1:decide ((((rd_T73 t1152 (ji31)).f1) == 5)=false)=true:=by simpa using c47))
                   (try(have c47b2:((((rd_T73 t1152 (ji31)).f1) == 5) == false)=true:=by simpa using c47))
                   clear c47
                   by_cases c48:((((rd_T73 t1152 (ji31)).f1) == 1) != ((wrap64 (x9_3+x10_3)) == 0))=true
                   ·rw[if_pos c48] at H
                    have c48b0:((((rd_T73 t1152 (ji31)).f1) == 1) != ((wrap64 (x9_3+x10_3)) == 0))=true:=c48
                    (try(have c48b1:decide ((((rd_T73 t1152 (ji31)).f1) == 1)=((wrap64 (x9_3+x10_3)) == 0))=false:=by simpa using c48))
                    (try(have c48b2:((((rd_T73 t1152 (ji31)).f1) == 1) == ((wrap64 (x9_3+x10_3)) == 0))=false:=by simpa using c48))
                    (try(have c48b3:¬((((rd_T73 t1152 (ji31)).f1) == 1)=((wrap64 (x9_3+x10_3)) == 0)):=by simpa using c48))
                    clear c48
                    obtain rfl:=Option.some.inj H
                    have p1158:0≤((ji31):Int):=of_decide_eq_true (za5)
                    have q1158:(ji31)<(t1152.length:Int):=of_decide_eq_true (za5)
                    obtain⟨ad1158,A1158_0,c1158_0,e1158,hx1158_0,hx1158_1,hl1158_0,hi1158_0⟩:=at_T73 (Kd.N_reads' HO_6.out).2.2 (ji31) p1158 q1158
                    cases e1158
                    obtain⟨ce1158,hce1158,hMe1158,hcc1158⟩:=Kd.N_get HO_6.out z73 (ji31) p1158 (by first|exact q1158|exact of_decide_eq_true (za5)|(have e_:=(Kd.N_reads' HO_6.out).1;omega))
                    obtain⟨ua1158_0,uc1158_0,rfl,ul1158_0,ge1158_0⟩:=k73_openF hMe1158
                    have hv1158_0:=hcc1158 0 _ rfl
                    rw[Nat.add_zero] at hv1158_0
                    replace hv1158_0:=Option.some.inj (hv1158_0.symm.trans hx1158_0)
                    injection hv1158_0 with hva_ hvn_ hvc_
                    rw[hva_] at ge1158_0
                    rw[hvc_] at ul1158_0
                    have HL1158_0:=Aside0.mk (show Kd.V (Kd.int .i64) 3 _ w.heap.size _ _ ((rd_T73 t1152 (ji31)).f0) from Kd.V_mk ul1158_0 ge1158_0)
                    clear hva_ hvn_ hvc_ ge1158_0 ul1158_0
                    clear hcc1158 hce1158
                    have HR1158_0:=Aside0.mk hi1158_0
                    have HC1158_0:=Aside0.mk hl1158_0
                    clear hi1158_0 hl1158_0
                    replace p1158:=eq_true p1158
                    replace q1158:=eq_true q1158
                    go_wp2
                    go_ret
                    exact⟨by first|rfl|(simp[qam,qal]<;>rfl)|(simp only[←hji31];first|rfl|(simp[qam,qal]<;>rfl))|(simp[*,qam,qal]<;>rfl),za1 HB⟩
                   ·rw[if_neg c48] at H
                    have c48b0:((((rd_T73 t1152 (ji31)).f1) == 1) != ((wrap64 (x9_3+x10_3)) == 0))=false:=by simpa using c48
                    (try(have c48b1:decide ((((rd_T73 t1152 (ji31)).f1) == 1)=((wrap64 (x9_3+x10_3)) == 0))=true:=by simpa using c48))
                    (try(have c48b2:((((rd_T73 t1152 (ji31)).f1) == 1) == ((wrap64 (x9_3+x10_3)) == 0))=true:=by simpa using c48))
                    clear c48
                    have H':=Aside0.mk H
                    clear H
                    have p1158:0≤((ji31):Int):=of_decide_eq_true (za5)
                    have q1158:(ji31)<(t1152.length:Int):=of_decide_eq_true (za5)
                    obtain⟨ad1158,A1158_0,c1158_0,e1158,hx1158_0,hx1158_1,hl1158_0,hi1158_0⟩:=at_T73 (Kd.N_reads' HO_6.out).2.2 (ji31) p1158 q1158
                    cases e1158
                    obtain⟨ce1158,hce1158,hMe1158,hcc1158⟩:=Kd.N_get HO_6.out z73 (ji31) p1158 (by first|exact q1158|exact of_decide_eq_true (za5)|(have e_:=(Kd.N_reads' HO_6.out).1;omega))
                    obtain⟨ua1158_0,uc1158_0,rfl,ul1158_0,ge1158_0⟩:=k73_openF hMe1158
                    have hv1158_0:=hcc1158 0 _ rfl
                    rw[Nat.add_zero] at hv1158_0
                    replace hv1158_0:=Option.some.inj (hv1158_0.symm.trans hx1158_0)
                    injection hv1158_0 with hva_ hvn_ hvc_
                    rw[hva_] at ge1158_0
                    rw[hvc_] at ul1158_0
                    have HL1158_0:=Aside0.mk (show Kd.V (Kd.int .i64) 3 _ w.heap.size _ _ ((rd_T73 t1152 (ji31)).f0) from Kd.V_mk ul1158_0 ge1158_0)
                    clear hva_ hvn_ hvc_ ge1158_0 ul1158_0
                    clear hcc1158 hce1158
                    have HR1158_0:=Aside0.mk hi1158_0
                    have HC1158_0:=Aside0.mk hl1158_0
                    clear hi1158_0 hl1158_0
                    replace p1158:=eq_true p1158
                    replace q1158:=eq_true q1158
                    go_wp2
                    go_roundg k3
                    case measure=>have:=HJ5.out;have:=HK2.out;have:=HK3.out;omega
                    case rel=>exact⟨(wrap64 (x8_2+1)),(za17),H',⟨by have:=HJ5.out;have:=HK2.out;have:=HK3.out;omega⟩,⟨za11 HO_3⟩,⟨za11 HO_6⟩,⟨za1 HB⟩⟩
            ·rw[if_neg c33] at H
             exact absurd H (by simp)
           ·rw[if_neg c32] at H
            exact absurd H (by simp)
       ·rw[if_neg c23] at H
        have c23b0:decide (x8_2≤(t1152.length:Int))=false:=decide_eq_false c23
        clear c23
        obtain rfl:=Option.some.inj H
        obtain⟨Ao49,co49,eo49⟩:=Kd.N_slice HO_6.out
        subst eo49
        go_wp2
        go_ret
        exact⟨za9,za1 HB⟩
def laws_FnTripsKept.Pure:Prop:=∀(l0:List Int),l0.length≤maxLen→l0.length*1≤140737488351232→(∀x ∈ l0,(Lit.int .u8 x).wf=true)→∃k,laws_FnTripsKept.f k l0=some true
theorem laws_FnTripsKept.walk (P:laws_FnTripsKept.Pure) (a0:Option Addr) (len0 cap0:Nat) (z0:List Int) (w:World) (w0:(a0=none∧len0=0∧cap0=0∧z0=[])∨∃x,a0=some x∧len0≤cap0∧cap0≤maxLen∧z0.length=cap0∧(∀i,i<z0.length→w.cell? (x.add i)=some (.int .u8 (z0.getD i 0)))∧∀n ∈ z0,(Lit.int .u8 n).wf=true) (y0:len0*1≤140737488351232) :
  Calls Try.prog 14 #[.slice a0 len0 cap0] w fun e w'=>e=.returned (.bool true)∧Below w.heap.size w w':=by
 obtain⟨l0,rfl,hr0,hm0,hw0,hc0⟩:=ReadsInt.ofRowC w0
 obtain⟨k,h⟩:=P l0 hm0 y0 hw0
 refine(laws_FnTripsKept.calls k _ _ l0 true w (Kd.C_of_reads (d:=(0:Int)) (h1:=fun _=>rfl) hr0) hc0 h).mono ?_
 rintro e w' ⟨rfl,hd⟩
 exact⟨rfl,hd⟩
end Go.Proofs.Ytjccnaklodbbfaa.Print
