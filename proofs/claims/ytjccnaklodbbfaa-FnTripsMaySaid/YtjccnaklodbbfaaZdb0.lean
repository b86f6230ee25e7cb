-- Written by squeeze.py: not trusted, Lean checks it.
import Derived.Test.YtjccnaklodbbfaaZK
import Derived.Test.YtjccnaklodbbfaaZab0
import Derived.Test.YtjccnaklodbbfaaZbb0
import Derived.Test.YtjccnaklodbbfaaZm0
import Derived.Test.YtjccnaklodbbfaaZv0
namespace Go.Proofs.Ytjccnaklodbbfaa.Print
open Go.RowKit Go.Proofs.YtjccnaklodbbfaaW.PrintWords Go.Proofs.YtjccnaklodbbfaaW.PrintLast Go.Proofs.YtjccnaklodbbfaaW.PrintMore
attribute [local go_sem] max2_int min2_int max_two min_two max_three min_three max_four min_four
set_option linter.unusedVariables false
set_option linter.unusedSimpArgs false
mutual
def laws_FnTripsMay.j0:Nat→List (S73)→Bool→Bool→Int→Int→List Int→Option (Bool)
 |0,_,_,_,_,_,_=>none
 |k+1,x3,x5,x32,x1091000,x1091001,x1091002=>if x32=true then((spec_TripsMay.f k x3 x1091000 x1091001 x1091002).bind fun t1095=>(some (x5 == t1095))) else(if x1091001≤(x3.length:Int) then(if 0≤(wrap64 (x1091001 - 1)) then(if(wrap64 (x1091001 - 1))<(x3.length:Int) then(laws_FnTripsMay.j1 k x3 x5 ((rd_T73 x3 (wrap64 (x1091001 - 1))).f1) x1091000 x1091001 x1091002) else(none)) else(none)) else(laws_FnTripsMay.j1 k x3 x5 0 x1091000 x1091001 x1091002))
def laws_FnTripsMay.j1:Nat→List (S73)→Bool→Int→Int→Int→List Int→Option (Bool)
 |0,_,_,_,_,_,_=>none
 |k+1,x3,x5,x6,x1091000,x1091001,x1091002=>if x1091000=4 then(some (x5 == (x1091001 == (wrap64 ((x3.length:Int)+1))))) else(if x1091000=5 then(laws_FnTripsMay.j2 k x5 x6 x1091000 (x1091000 == 5)) else(laws_FnTripsMay.j2 k x5 x6 x1091000 (x1091000 == 6)))
def laws_FnTripsMay.j2:Nat→Bool→Int→Int→Bool→Option (Bool)
 |0,_,_,_,_=>none
 |k+1,x5,x6,x51,x62=>if x62=true then(some (x5 == (x6 == 1))) else(if x51=7 then(if x6=2 then(some (x5 == true)) else(some (x5 == (x6 == 3)))) else(some (!x5)))
end
def laws_FnTripsMay.f (k:Nat) (l0:List Int):Option (Bool):=if(l0.length:Int)>1048576 then(some true) else((spec_DrawTripsMay.f k l0).bind fun bt1082=>((impl_TripsMay.f k bt1082.1 bt1082.2.1 bt1082.2.2.1 bt1082.2.2.2).bind fun t1091=>((spec_TripsMay.f k bt1082.1 bt1082.2.1 bt1082.2.2.1 bt1082.2.2.2).bind fun t1092=>(if(t1091 != t1092)=true then(laws_FnTripsMay.j0 k bt1082.1 t1091 true bt1082.2.1 bt1082.2.2.1 bt1082.2.2.2) else((spec_TripsOk.f k bt1082.1).bind fun t1093=>(if t1093=true then((spec_RecOk.f k bt1082.2.1 bt1082.2.2.1 bt1082.2.2.2).bind fun t1094=>(laws_FnTripsMay.j0 k bt1082.1 t1091 (!t1094) bt1082.2.1 bt1082.2.2.1 bt1082.2.2.2)) else(laws_FnTripsMay.j0 k bt1082.1 t1091 true bt1082.2.1 bt1082.2.2.1 bt1082.2.2.2)))))))
theorem laws_FnTripsMay.mono_l:∀k,(∀y0 y1 y2 y3 y4 y5,LeO (laws_FnTripsMay.j0 k y0 y1 y2 y3 y4 y5) (laws_FnTripsMay.j0 (k+1) y0 y1 y2 y3 y4 y5))∧(∀y0 y1 y2 y3 y4 y5,LeO (laws_FnTripsMay.j1 k y0 y1 y2 y3 y4 y5) (laws_FnTripsMay.j1 (k+1) y0 y1 y2 y3 y4 y5))∧(∀y0 y1 y2 y3,LeO (laws_FnTripsMay.j2 k y0 y1 y2 y3) (laws_FnTripsMay.j2 (k+1) y0 y1 y2 y3))
 |0=>⟨fun _ _ _ _ _ _ r h=>by simp[laws_FnTripsMay.j0] at h,fun _ _ _ _ _ _ r h=>by simp[laws_FnTripsMay.j1] at h,fun _ _ _ _ r h=>by simp[laws_FnTripsMay.j2] at h⟩
 |k+1=>by
  obtain⟨ih0,ih1,ih2⟩:=laws_FnTripsMay.mono_l k
  refine⟨?_,?_,?_⟩
  ·intro y0 y1 y2 y3 y4 y5
   unfold laws_FnTripsMay.j0
   repeat' first
   |(with_reducible exact ih0 _ _ _ _ _ _)
   |(with_reducible exact ih1 _ _ _ _ _ _)
   |(with_reducible exact ih2 _ _ _ _)
   |(with_reducible exact impl_TripsMay.mono _ _ _ _ _)
   |(with_reducible exact spec_DrawTripsMay.mono _ _)
   |(with_reducible exact spec_RecOk.mono _ _ _ _)
   |(with_reducible exact spec_TripsMay.mono _ _ _ _ _)
   |(with_reducible exact spec_TripsOk.mono _ _)
   |(with_reducible exact LeO.refl _)
   |(with_reducible exact LeO.none _)
   |(with_reducible refine LeO.ite ?_ ?_)
   |(with_reducible refine LeO.bind ?_ (fun _=>?_))
   |exact ih0 _ _ _ _ _ _
   |exact ih1 _ _ _ _ _ _
   |exact ih2 _ _ _ _
   |exact impl_TripsMay.mono _ _ _ _ _
   |exact spec_DrawTripsMay.mono _ _
   |exact spec_RecOk.mono _ _ _ _
   |exact spec_TripsMay.mono _ _ _ _ _
   |exact spec_TripsOk.mono _ _
   |exact LeO.none _
   |refine LeO.ite ?_ ?_
   |refine LeO.bind ?_ (fun _=>?_)
  ·intro y0 y1 y2 y3 y4 y5
   unfold laws_FnTripsMay.j1
   repeat' first
   |(with_reducible exact ih0 _ _ _ _ _ _)
   |(with_reducible exact ih1 _ _ _ _ _ _)
   |(with_reducible exact ih2 _ _ _ _)
   |(with_reducible exact impl_TripsMay.mono _ _ _ _ _)
   |(with_reducible exact spec_DrawTripsMay.mono _ _)
   |(with_reducible exact spec_RecOk.mono _ _ _ _)
   |(with_reducible exact spec_TripsMay.mono _ _ _ _ _)
   |(with_reducible exact spec_TripsOk.mono _ _)
   |(with_reducible exact LeO.refl _)
   |(with_reducible exact LeO.none _)
   |(with_reducible refine LeO.ite ?_ ?_)
   |(with_reducible refine LeO.bind ?_ (fun _=>?_))
   |exact ih0 _ _ _ _ _ _
   |exact ih1 _ _ _ _ _ _
   |exact ih2 _ _ _ _
   |exact impl_TripsMay.mono _ _ _ _ _
   |exact spec_DrawTripsMay.mono _ _
   |exact spec_RecOk.mono _ _ _ _
   |exact spec_TripsMay.mono _ _ _ _ _
   |exact spec_TripsOk.mono _ _
   |exact LeO.none _
   |refine LeO.ite ?_ ?_
   |refine LeO.bind ?_ (fun _=>?_)
  ·intro y0 y1 y2 y3
   unfold laws_FnTripsMay.j2
   repeat' first
   |(with_reducible exact ih0 _ _ _ _ _ _)
   |(with_reducible exact ih1 _ _ _ _ _ _)
   |(with_reducible exact ih2 _ _ _ _)
   |(with_reducible exact impl_TripsMay.mono _ _ _ _ _)
   |(with_reducible exact spec_DrawTripsMay.mono _ _)
   |(with_reducible exact spec_RecOk.mono _ _ _ _)
   |(with_reducible exact spec_TripsMay.mono _ _ _ _ _)
   |(with_reducible exact spec_TripsOk.mono _ _)
   |(with_reducible exact LeO.refl _)
   |(with_reducible exact LeO.none _)
   |(with_reducible refine LeO.ite ?_ ?_)
   |(with_reducible refine LeO.bind ?_ (fun _=>?_))
   |exact ih0 _ _ _ _ _ _
   |exact ih1 _ _ _ _ _ _
   |exact ih2 _ _ _ _
   |exact impl_TripsMay.mono _ _ _ _ _
   |exact spec_DrawTripsMay.mono _ _
   |exact spec_RecOk.mono _ _ _ _
   |exact spec_TripsMay.mono _ _ _ _ _
   |exact spec_TripsOk.mono _ _
   |exact LeO.none _
   |refine LeO.ite ?_ ?_
   |refine LeO.bind ?_ (fun _=>?_)
theorem laws_FnTripsMay.mono:∀a0 k,LeO (laws_FnTripsMay.f k a0) (laws_FnTripsMay.f (k+1) a0):=by
 intro a0 k
 obtain⟨ih0,ih1,ih2⟩:=laws_FnTripsMay.mono_l k
 unfold laws_FnTripsMay.f
 repeat' first
   |(with_reducible exact ih0 _ _ _ _ _ _)
   |(with_reducible exact ih1 _ _ _ _ _ _)
   |(with_reducible exact ih2 _ _ _ _)
   |(with_reducible exact impl_TripsMay.mono _ _ _ _ _)
   |(with_reducible exact spec_DrawTripsMay.mono _ _)
   |(with_reducible exact spec_RecOk.mono _ _ _ _)
   |(with_reducible exact spec_TripsMay.mono _ _ _ _ _)
   |(with_reducible exact spec_TripsOk.mono _ _)
   |(with_reducible exact LeO.refl _)
   |(with_reducible exact LeO.none _)
   |(with_reducible refine LeO.ite ?_ ?_)
   |(with_reducible refine LeO.bind ?_ (fun _=>?_))
   |exact ih0 _ _ _ _ _ _
   |exact ih1 _ _ _ _ _ _
   |exact ih2 _ _ _ _
   |exact impl_TripsMay.mono _ _ _ _ _
   |exact spec_DrawTripsMay.mono _ _
   |exact spec_RecOk.mono _ _ _ _
   |exact spec_TripsMay.mono _ _ _ _ _
   |exact spec_TripsOk.mono _ _
   |exact LeO.none _
   |refine LeO.ite ?_ ?_
   |refine LeO.bind ?_ (fun _=>?_)
set_option maxHeartbeats 8000000 in
set_option maxRecDepth 100000 in
theorem laws_FnTripsMay.calls (k:Nat) (A0:Option Addr) (c0:Nat) (l0:List Int) (r:Bool) (w:World) (hr0:Kd.C (Kd.int .u8) w A0 l0.length l0) (hc0:l0.length≤c0) (h:laws_FnTripsMay.f k l0=some r) :
  Calls Try.prog 13 #[.slice A0 l0.length c0] w fun e w'=>e=.returned (.bool r)∧Below w.heap.size w w':=by
 have hu62:=Try.underlying62
 have HR0:=Aside0.mk hr0
 have HC0:=Aside0.mk hc0
 clear hr0 hc0
 have HB:=Aside0.mk (Below.refl w.heap.size w)
 have H:(if(l0.length:Int)>1048576 then(some true) else((spec_DrawTripsMay.f k l0).bind fun bt1082=>((impl_TripsMay.f k bt1082.1 bt1082.2.1 bt1082.2.2.1 bt1082.2.2.2).bind fun t1091=>((spec_TripsMay.f k bt1082.1 bt1082.2.1 bt1082.2.2.1 bt1082.2.2.2).bind fun t1092=>(if(t1091 != t1092)=true then(laws_FnTripsMay.j0 k bt1082.1 t1091 true bt1082.2.1 bt1082.2.2.1 bt1082.2.2.2) else((spec_TripsOk.f k bt1082.1).bind fun t1093=>(if t1093=true then((spec_RecOk.f k bt1082.2.1 bt1082.2.2.1 bt1082.2.2.2).bind fun t1094=>(laws_FnTripsMay.j0 k bt1082.1 t1091 (!t1094) bt1082.2.1 bt1082.2.2.1 bt1082.2.2.2)) else(laws_FnTripsMay.j0 k bt1082.1 t1091 true bt1082.2.1 bt1082.2.2.1 bt1082.2.2.2))))))))=some r:=h
 clear h
 by_cases c2:(l0.length:Int)>1048576
 ·rw[if_pos c2] at H
  have c2b0:decide (1048576<(l0.length:Int))=true:=decide_eq_true c2
  have c2b1:decide (1048576<l0.length)=true:=decide_eq_true (by omega)
  clear c2
  obtain rfl:=Option.some.inj H
  go_enter Try.func13,Try.ntmps13
  go_wp2
  go_ret
  exact⟨za9,za1 HB⟩
 ·rw[if_neg c2] at H
  have c2b0:decide (1048576<(l0.length:Int))=false:=decide_eq_false c2
  have c2b1:decide (1048576<l0.length)=false:=decide_eq_false (by omega)
  clear c2
  replace H:=Option.bind_eq_some_iff.mp H
  obtain⟨⟨t1082,t1085,t1086,t1087⟩,A30,H⟩:=H
  replace H:((impl_TripsMay.f k t1082 t1085 t1086 t1087).bind fun t1091=>((spec_TripsMay.f k t1082 t1085 t1086 t1087).bind fun t1092=>(if(t1091 != t1092)=true then(laws_FnTripsMay.j0 k t1082 t1091 true t1085 t1086 t1087) else((spec_TripsOk.f k t1082).bind fun t1093=>(if t1093=true then((spec_RecOk.f k t1085 t1086 t1087).bind fun t1094=>(laws_FnTripsMay.j0 k t1082 t1091 (!t1094) t1085 t1086 t1087)) else(laws_FnTripsMay.j0 k t1082 t1091 true t1085 t1086 t1087))))))=some r:=H
  have A3:=Aside0.mk A30
  clear A30
  replace H:=Option.bind_eq_some_iff.mp H
  obtain⟨t1091,A40,H⟩:=H
  replace H:((spec_TripsMay.f k t1082 t1085 t1086 t1087).bind fun t1092=>(if(t1091 != t1092)=true then(laws_FnTripsMay.j0 k t1082 t1091 true t1085 t1086 t1087) else((spec_TripsOk.f k t1082).bind fun t1093=>(if t1093=true then((spec_RecOk.f k t1085 t1086 t1087).bind fun t1094=>(laws_FnTripsMay.j0 k t1082 t1091 (!t1094) t1085 t1086 t1087)) else(laws_FnTripsMay.j0 k t1082 t1091 true t1085 t1086 t1087)))))=some r:=H
  have A4:=Aside0.mk A40
  clear A40
  have HC5:=Aside0.mk H
  clear H
  go_enter Try.func13,Try.ntmps13
  go_upto_region 5 with(first|((with_reducible refine qaf (f:=53) rfl ?_);refine zF (some 12) Try.func53 #[.slice A0 l0.length c0] ?_;(with_reducible refine(spec_DrawTripsMay.calls k _ _ l0 t1082 t1085 t1086 t1087 _ ?side1 ?side2 A3.out).mono ?_);(case side1=>repeat(first|exact HR0.out|(with_reducible refine Kd.C_alloc ?_ _)|(with_reducible refine Kd.C_drewN ?_ _)|(with_reducible refine Kd.C_drew ?_)));(case side2=>exact HC0.out);rintro e w6 ⟨v1083,v1088,rfl,ho0,ho1,hb⟩;refine⟨_,rfl,?_⟩;have HO1084:=Aside0.mk (Kd.N_lower (Kd.N_mono (ok':=fun k_=>True) ho0 (fun k_ hk_=>trivial)) (below_size (za1 HB)));have HO1089:=Aside0.mk (Kd.V_lower (Kd.V_mono (ok':=fun k_=>some k_≠(v1083:Value).ownBlock) ho1 (fun k_ hk_=>hk_.2)) (below_size (za1 HB)));replace HB:=Aside0.mk (qab (za1 HB) hb);(try clear hb);(try clear ho0);(try clear ho1))|((with_reducible refine qah (N:=4) rfl ?_);refine zX (N:=4) (cs:=#[.int .i64 0,.int .i64 0,.slice none 0 0]) (t:=62) ?_;intro gb1090 hg w7 hbox hb;replace HO1084:=Aside0.mk (Kd.N_below (Kd.N_elderB (za11 HO1084) gb1090 (Nat.le_of_eq hg.symm)) hb);replace HO1089:=Aside0.mk (Kd.V_below (Kd.V_elderB (za19 HO1089) gb1090 (Nat.le_of_eq hg.symm)) hb);have BK1090:=Aside0.mk hbox;have GW1090:=zH (w:=w) hg (za1 HB);have GE1090:=GW1090;replace HB:=Aside0.mk (qab (za1 HB) hb);clear hb hbox hg;obtain⟨hcz8_0,hcz8_1,hcz8_2,hfz8_0,hfz8_1,hfz8_2⟩:=zC3 BK1090;obtain⟨Ao9,co9,eo9⟩:=Kd.V_slice HO1089.out;subst eo9;obtain⟨Ao10,co10,eo10⟩:=Kd.N_slice HO1084.out;subst eo10)|((with_reducible refine qaf (f:=51) rfl ?_);refine zF (some 17) Try.func51 #[.slice Ao10 t1082.length co10,.agg #[.int .i64 t1085,.int .i64 t1086,.slice Ao9 t1087.length co9]] ?_;(with_reducible refine(impl_TripsMay.calls k _ _ t1082 t1085 t1086 _ _ t1087 t1091 _ ?side1 ?side2 ?side3 ?side4 A4.out).mono ?_);(case side1=>refine(Kd.N_reads' (e:=73) (base:=w.heap.size) (ok:=fun k_=>(True∧k_≠gb1090)) (n:=t1082.length) (c:=co10) ?_).2.2;exact(by(with_reducible repeat(first|apply Kd.N_alloc|apply Kd.N_drewN|apply Kd.N_drew));exact(Kd.N_mono (Kd.N_far (p:=⟨gb1090,2,none⟩) (Kd.N_far (p:=⟨gb1090,1,none⟩) (Kd.N_far (p:=⟨gb1090,0,none⟩) (Kd.N_mono HO1084.out (fun k_ hk=>(⟨hk,hk.2⟩:_∧k_≠gb1090))) (fun _ hk=>hk.2) (.int .i64 t1085)) (fun _ hk=>hk.2) (.int .i64 t1086)) (fun _ hk=>hk.2) (.slice Ao9 t1087.length co9)) (fun _ h_=>h_.1))));(case side2=>exact(Kd.N_reads' HO1084.out).2.1);(case side3=>refine(Kd.V_reads' (e:=3) (base:=w.heap.size) (ok:=fun k_=>(some k_≠(.slice Ao10 t1082.length co10:Value).ownBlock∧k_≠gb1090)) (n:=t1087.length) (c:=co9) ?_).2.2;exact(by(with_reducible repeat(first|apply Kd.V_alloc|apply Kd.V_drewN|apply Kd.V_drew));exact(Kd.V_mono (Kd.V_far (p:=⟨gb1090,2,none⟩) (Kd.V_far (p:=⟨gb1090,1,none⟩) (Kd.V_far (p:=⟨gb1090,0,none⟩) (Kd.V_mono HO1089.out (fun k_ hk=>(⟨hk,hk.2⟩:_∧k_≠gb1090))) (fun _ hk=>hk.2) (.int .i64 t1085)) (fun _ hk=>hk.2) (.int .i64 t1086)) (fun _ hk=>hk.2) (.slice Ao9 t1087.length co9)) (fun _ h_=>h_.1))));(case side4=>exact(Kd.V_reads' HO1089.out).2.1);rintro e w11 ⟨rfl,hb⟩;refine⟨_,rfl,?_⟩;replace HO1084:=Aside0.mk (Kd.N_below (by(with_reducible repeat(first|apply Kd.N_alloc|apply Kd.N_drewN|apply Kd.N_drew));exact(Kd.N_mono (Kd.N_far (p:=⟨gb1090,2,none⟩) (Kd.N_far (p:=⟨gb1090,1,none⟩) (Kd.N_far (p:=⟨gb1090,0,none⟩) (Kd.N_mono HO1084.out (fun k_ hk=>(⟨hk,hk.2⟩:_∧k_≠gb1090))) (fun _ hk=>hk.2) (.int .i64 t1085)) (fun _ hk=>hk.2) (.int .i64 t1086)) (fun _ hk=>hk.2) (.slice Ao9 t1087.length co9)) (fun _ h_=>h_.1))) hb);replace HO1089:=Aside0.mk (Kd.V_below (by(with_reducible repeat(first|apply Kd.V_alloc|apply Kd.V_drewN|apply Kd.V_drew));exact(Kd.V_mono (Kd.V_far (p:=⟨gb1090,2,none⟩) (Kd.V_far (p:=⟨gb1090,1,none⟩) (Kd.V_far (p:=⟨gb1090,0,none⟩) (Kd.V_mono HO1089.out (fun k_ hk=>(⟨hk,hk.2⟩:_∧k_≠gb1090))) (fun _ hk=>hk.2) (.int .i64 t1085)) (fun _ hk=>hk.2) (.int .i64 t1086)) (fun _ hk=>hk.2) (.slice Ao9 t1087.length co9)) (fun _ h_=>h_.1))) hb);replace BK1090:=Aside0.mk (qaa (g:=gb1090) (o:=.cells #[.int .i64 t1085,.int .i64 t1086,.slice Ao9 t1087.length co9] 62 (0,0)) (by(with_reducible repeat(first|refine blk_drewN ?_ _|refine blk_drew ?_|refine blk_alloc ?_ _));refine qai (cs:=#[.int .i64 t1085,.int .i64 t1086,.slice none 0 0]) ?_ 2 _ rfl;(with_reducible repeat(first|refine blk_drewN ?_ _|refine blk_drew ?_|refine blk_alloc ?_ _));refine qai (cs:=#[.int .i64 t1085,.int .i64 0,.slice none 0 0]) ?_ 1 _ rfl;(with_reducible repeat(first|refine blk_drewN ?_ _|refine blk_drew ?_|refine blk_alloc ?_ _));refine qai (cs:=#[.int .i64 0,.int .i64 0,.slice none 0 0]) ?_ 0 _ rfl;(with_reducible repeat(first|refine blk_drewN ?_ _|refine blk_drew ?_|refine blk_alloc ?_ _));exact BK1090.out) hb);replace HB:=Aside0.mk (qab (za0 HB GE1090) hb);(try clear hb)))
  (try simp only[Act.put,List.setIfInBounds_toArray,List.set_cons_zero,List.set_cons_succ])
  go_cut [32] (fun v32 wc=>∃(kq:Nat) (x32_4:Bool),v32=.bool x32_4∧Aside0 (laws_FnTripsMay.j0 kq t1082 t1091 x32_4 t1085 t1086 t1087=some r)∧Aside0 (kq≤k)∧Aside0 (Kd.N k73 73 wc w.heap.size (fun k_=>k_≠gb1090) (.slice Ao10 t1082.length co10) t1082)∧Aside0 (Kd.V (Kd.int .i64) 3 wc w.heap.size (fun k_=>some k_≠((.slice Ao10 t1082.length co10):Value).ownBlock∧k_≠gb1090) (.slice Ao9 t1087.length co9) t1087)∧Aside0 (wc.heap[gb1090]?=some (.cells #[.int .i64 t1085,.int .i64 t1086,(.slice Ao9 t1087.length co9)] 62 (0,0)))∧Aside0 (Below w.heap.size w wc))
  case first=>
   have H:=HC5.out
   clear HC5
   replace H:=Option.bind_eq_some_iff.mp H
   obtain⟨t1092,A120,H⟩:=H
   replace H:(if(t1091 != t1092)=true then(laws_FnTripsMay.j0 k t1082 t1091 true t1085 t1086 t1087) else((spec_TripsOk.f k t1082).bind fun t1093=>(if t1093=true then((spec_RecOk.f k t1085 t1086 t1087).bind fun t1094=>(laws_FnTripsMay.j0 k t1082 t1091 (!t1094) t1085 t1086 t1087)) else(laws_FnTripsMay.j0 k t1082 t1091 true t1085 t1086 t1087))))=some r:=H
   have A12:=Aside0.mk A120
   clear A120
   by_cases c13:(t1091 != t1092)=true
   ·rw[if_pos c13] at H
    have c13b0:(t1091 != t1092)=true:=c13
    (try(have c13b1:decide (t1091=t1092)=false:=by simpa using c13))
    (try(have c13b2:(t1091 == t1092)=false:=by simpa using c13))
    (try(have c13b3:¬(t1091=t1092):=by simpa using c13))
    clear c13
    (first|rw[c13b0]|(simp only[qaj,qak];rw[c13b0])|skip)
    have H':=Aside0.mk H
    clear H
    obtain⟨hcz14_0,hcz14_1,hcz14_2,hfz14_0,hfz14_1,hfz14_2⟩:=zC3 BK1090
    go_wp2_with(first|((with_reducible refine qaf (f:=49) rfl ?_);refine zF (some 21) Try.func49 #[.slice Ao10 t1082.length co10,.agg #[.int .i64 t1085,.int .i64 t1086,.slice Ao9 t1087.length co9]] ?_;(with_reducible refine(spec_TripsMay.calls k _ _ t1082 t1085 t1086 _ _ t1087 t1092 _ ?side1 ?side2 ?side3 ?side4 A12.out).mono ?_);(case side1=>repeat(first|exact(Kd.N_reads' HO1084.out).2.2|(with_reducible refine Kd.C_alloc ?_ _)|(with_reducible refine Kd.C_drewN ?_ _)|(with_reducible refine Kd.C_drew ?_)));(case side2=>exact(Kd.N_reads' HO1084.out).2.1);(case side3=>repeat(first|exact(Kd.V_reads' HO1089.out).2.2|(with_reducible refine Kd.C_alloc ?_ _)|(with_reducible refine Kd.C_drewN ?_ _)|(with_reducible refine Kd.C_drew ?_)));(case side4=>exact(Kd.V_reads' HO1089.out).2.1);rintro e w15 ⟨rfl,hb⟩;refine⟨_,rfl,?_⟩;replace HO1084:=Aside0.mk (Kd.N_below (za11 HO1084) hb);replace HO1089:=Aside0.mk (Kd.V_below (za19 HO1089) hb);replace BK1090:=Aside0.mk (qaa (zB BK1090) hb);replace HB:=Aside0.mk (qab (za0 HB GE1090) hb);(try clear hb)))
    go_meet
    case rel=>exact⟨_,(true),(za17),H',⟨za23⟩,⟨by(with_reducible repeat(first|apply Kd.N_alloc|apply Kd.N_drewN|apply Kd.N_drew));exact Kd.N_mono HO1084.out (fun _ hk=>hk.2)⟩,⟨za19 HO1089⟩,⟨za16 BK1090⟩,⟨za0 HB GE1090⟩⟩
   ·rw[if_neg c13] at H
    have c13b0:(t1091 != t1092)=false:=by simpa using c13
    (try(have c13b1:decide (t1091=t1092)=true:=by simpa using c13))
    (try(have c13b2:(t1091 == t1092)=true:=by simpa using c13))
    clear c13
    (first|rw[c13b0]|(simp only[qaj,qak];rw[c13b0])|skip)
    replace H:=Option.bind_eq_some_iff.mp H
    obtain⟨t1093,A160,H⟩:=H
    replace H:(if t1093=true then((spec_RecOk.f k t1085 t1086 t1087).bind fun t1094=>(laws_FnTripsMay.j0 k t1082 t1091 (!t1094) t1085 t1086 t1087)) else(laws_FnTripsMay.j0 k t1082 t1091 true t1085 t1086 t1087))=some r:=H
    have A16:=Aside0.mk A160
    clear A160
    by_cases c17:t1093=true
    ·subst c17
     have H1:((spec_RecOk.f k t1085 t1086 t1087).bind fun t1094=>(laws_FnTripsMay.j0 k t1082 t1091 (!t1094) t1085 t1086 t1087))=some r:=by rw[if_pos rfl] at H;exact H
     clear H
     have H:=H1
     clear H1
     replace H:=Option.bind_eq_some_iff.mp H
     obtain⟨t1094,A180,H⟩:=H
     replace H:(laws_FnTripsMay.j0 k t1082 t1091 (!t1094) t1085 t1086 t1087)=some r:=H
     have A18:=Aside0.mk A180
     clear A180
     have H':=Aside0.mk H
     clear H
     obtain⟨hcz19_0,hcz19_1,hcz19_2,hfz19_0,hfz19_1,hfz19_2⟩:=zC3 BK1090
     go_wp2_with(first|((with_reducible refine qaf (f:=49) rfl ?_);refine zF (some 21) Try.func49 #[.slice Ao10 t1082.length co10,.agg #[.int .i64 t1085,.int .i64 t1086,.slice Ao9 t1087.length co9]] ?_;(with_reducible refine(spec_TripsMay.calls k _ _ t1082 t1085 t1086 _ _ t1087 t1092 _ ?side1 ?side2 ?side3 ?side4 A12.out).mono ?_);(case side1=>repeat(first|exact(Kd.N_reads' HO1084.out).2.2|(with_reducible refine Kd.C_alloc ?_ _)|(with_reducible refine Kd.C_drewN ?_ _)|(with_reducible refine Kd.C_drew ?_)));(case side2=>exact(Kd.N_reads' HO1084.out).2.1);(case side3=>repeat(first|exact(Kd.V_reads' HO1089.out).2.2|(with_reducible refine Kd.C_alloc ?_ _)|(with_reducible refine Kd.C_drewN ?_ _)|(with_reducible refine Kd.C_drew ?_)));(case side4=>exact(Kd.V_reads' HO1089.out).2.1);rintro e w20 ⟨rfl,hb⟩;refine⟨_,rfl,?_⟩;replace HO1084:=Aside0.mk (Kd.N_below (za11 HO1084) hb);replace HO1089:=Aside0.mk (Kd.V_below (za19 HO1089) hb);replace BK1090:=Aside0.mk (qaa (zB BK1090) hb);replace HB:=Aside0.mk (qab (za0 HB GE1090) hb);(try clear hb))|(go_at_call 47;(with_reducible refine(spec_TripsOk.calls k _ _ t1082 true _ ?side1 ?side2 A16.out).mono ?_);(case side1=>repeat(first|exact(Kd.N_reads' HO1084.out).2.2|(with_reducible refine Kd.C_alloc ?_ _)|(with_reducible refine Kd.C_drewN ?_ _)|(with_reducible refine Kd.C_drew ?_)));(case side2=>exact(Kd.N_reads' HO1084.out).2.1);rintro e w' ⟨rfl,⟨nd,rfl⟩⟩;obtain⟨hcz21_0,hcz21_1,hcz21_2,hfz21_0,hfz21_1,hfz21_2⟩:=zC3 BK1090)|(go_at_call 44;(with_reducible refine(spec_RecOk.calls k t1085 t1086 _ _ t1087 t1094 _ ?side1 ?side2 A18.out).mono ?_);(case side1=>repeat(first|exact(Kd.V_reads' HO1089.out).2.2|(with_reducible refine Kd.C_alloc ?_ _)|(with_reducible refine Kd.C_drewN ?_ _)|(with_reducible refine Kd.C_drew ?_)));(case side2=>exact(Kd.V_reads' HO1089.out).2.1);rintro e w22 ⟨rfl,hb⟩;replace HO1084:=Aside0.mk (Kd.N_below (za11 HO1084) hb);replace HO1089:=Aside0.mk (Kd.V_below (za19 HO1089) hb);replace BK1090:=Aside0.mk (qaa (zB BK1090) hb);replace HB:=Aside0.mk (qab (za0 HB GE1090) hb);(try clear hb)))
     go_meet
     case rel=>exact⟨_,(!t1094),(za17),H',⟨za23⟩,⟨by(with_reducible repeat(first|apply Kd.N_alloc|apply Kd.N_drewN|apply Kd.N_drew));exact Kd.N_mono HO1084.out (fun _ hk=>hk.2)⟩,⟨za19 HO1089⟩,⟨za16 BK1090⟩,⟨za0 HB GE1090⟩⟩
    ·replace c17:=Bool.eq_false_iff.mpr c17
     subst c17
     have H1:(laws_FnTripsMay.j0 k t1082 t1091 true t1085 t1086 t1087)=some r:=by rw[if_neg (show ¬(false=true) by decide)] at H;exact H
     clear H
     have H:=H1
     clear H1
     have H':=Aside0.mk H
     clear H
     obtain⟨hcz23_0,hcz23_1,hcz23_2,hfz23_0,hfz23_1,hfz23_2⟩:=zC3 BK1090
     go_wp2_with(first|((with_reducible refine qaf (f:=49) rfl ?_);refine zF (some 21) Try.func49 #[.slice Ao10 t1082.length co10,.agg #[.int .i64 t1085,.int .i64 t1086,.slice Ao9 t1087.length co9]] ?_;(with_reducible refine(spec_TripsMay.calls k _ _ t1082 t1085 t1086 _ _ t1087 t1092 _ ?side1 ?side2 ?side3 ?side4 A12.out).mono ?_);(case side1=>repeat(first|exact(Kd.N_reads' HO1084.out).2.2|(with_reducible refine Kd.C_alloc ?_ _)|(with_reducible refine Kd.C_drewN ?_ _)|(with_reducible refine Kd.C_drew ?_)));(case side2=>exact(Kd.N_reads' HO1084.out).2.1);(case side3=>repeat(first|exact(Kd.V_reads' HO1089.out).2.2|(with_reducible refine Kd.C_alloc ?_ _)|(with_reducible refine Kd.C_drewN ?_ _)|(with_reducible refine Kd.C_drew ?_)));(case side4=>exact(Kd.V_reads' HO1089.out).2.1);rintro e w24 ⟨rfl,hb⟩;refine⟨_,rfl,?_⟩;replace HO1084:=Aside0.mk (Kd.N_below (za11 HO1084) hb);replace HO1089:=Aside0.mk (Kd.V_below (za19 HO1089) hb);replace BK1090:=Aside0.mk (qaa (zB BK1090) hb);replace HB:=Aside0.mk (qab (za0 HB GE1090) hb);(try clear hb))|(go_at_call 47;(with_reducible refine(spec_TripsOk.calls k _ _ t1082 false _ ?side1 ?side2 A16.out).mono ?_);(case side1=>repeat(first|exact(Kd.N_reads' HO1084.out).2.2|(with_reducible refine Kd.C_alloc ?_ _)|(with_reducible refine Kd.C_drewN ?_ _)|(with_reducible refine Kd.C_drew ?_)));(case side2=>exact(Kd.N_reads' HO1084.out).2.1);rintro e w' ⟨rfl,⟨nd,rfl⟩⟩))
     go_meet
     case rel=>exact⟨_,(true),(za17),H',⟨za23⟩,⟨by(with_reducible repeat(first|apply Kd.N_alloc|apply Kd.N_drewN|apply Kd.N_drew));exact Kd.N_mono HO1084.out (fun _ hk=>hk.2)⟩,⟨za19 HO1089⟩,⟨za16 BK1090⟩,⟨za0 HB GE1090⟩⟩
  case rest=>
   clear HC5
   try clear c1
   try clear c2
   try clear c2b0
   try clear c2b1
   try clear p2
   try clear c4
   try clear c5
   try clear c13
   try clear c13b0
   try clear c13b1
   try clear c13b2
   try clear c17
   try clear hcz14_0
   try clear hcz14_1
   try clear hcz14_2
   try clear hcz19_0
   try clear hcz19_1
   try clear hcz19_2
   try clear hcz21_0
   try clear hcz21_1
   try clear hcz21_2
   try clear hcz23_0
   try clear hcz23_1
   try clear hcz23_2
   try clear hcz8_0
   try clear hcz8_1
   try clear hcz8_2
   try clear hfz14_0
   try clear hfz14_1
   try clear hfz14_2
   try clear hfz19_0
   try clear hfz19_1
   try clear hfz19_2
   try clear hfz21_0
   try clear hfz21_1
   try clear hfz21_2
   try clear hfz23_0
   try clear hfz23_1
   try clear hfz23_2
   try clear hfz8_0
   try clear hfz8_1
   try clear hfz8_2
   obtain⟨kq,x32_4,rfl,HA,HJ4,HO_3,HO_1091002,BK1090,HB⟩:=hcut
   cases kq with
   |zero=>exact absurd HA.out (by simp[laws_FnTripsMay.j0])
   |succ kj4=>
    have H:=HA.out
    clear HA
    simp only[laws_FnTripsMay.j0] at H
    by_cases c25:x32_4=true
    ·subst c25
     have H1:((spec_TripsMay.f kj4 t1082 t1085 t1086 t1087).bind fun t1095=>(some (t1091 == t1095)))=some r:=by rw[if_pos rfl] at H;exact H
     clear H
     have H:=H1
     clear H1
     replace H:=Option.bind_eq_some_iff.mp H
     obtain⟨t1095,A260,H⟩:=H
     replace H:(some (t1091 == t1095))=some r:=H
     have A26:=Aside0.mk A260
     clear A260
     obtain rfl:=Option.some.inj H
     obtain⟨hcz27_0,hcz27_1,hcz27_2,hfz27_0,hfz27_1,hfz27_2⟩:=zC3 BK1090
     go_wp2_with(first|((with_reducible refine qaf (f:=49) rfl ?_);refine zF (some 36) Try.func49 #[.slice Ao10 t1082.length co10,.agg #[.int .i64 t1085,.int .i64 t1086,.slice Ao9 t1087.length co9]] ?_;(with_reducible refine(spec_TripsMay.calls kj4 _ _ t1082 t1085 t1086 _ _ t1087 t1095 _ ?side1 ?side2 ?side3 ?side4 A26.out).mono ?_);(case side1=>repeat(first|exact(Kd.N_reads' HO_3.out).2.2|(with_reducible refine Kd.C_alloc ?_ _)|(with_reducible refine Kd.C_drewN ?_ _)|(with_reducible refine Kd.C_drew ?_)));(case side2=>exact(Kd.N_reads' HO_3.out).2.1);(case side3=>repeat(first|exact(Kd.V_reads' HO_1091002.out).2.2|(with_reducible refine Kd.C_alloc ?_ _)|(with_reducible refine Kd.C_drewN ?_ _)|(with_reducible refine Kd.C_drew ?_)));(case side4=>exact(Kd.V_reads' HO_1091002.out).2.1);rintro e w28 ⟨rfl,hb⟩;refine⟨_,rfl,?_⟩;replace HO_3:=Aside0.mk (Kd.N_below (za11 HO_3) hb);replace HO_1091002:=Aside0.mk (Kd.V_below (za19 HO_1091002) hb);replace BK1090:=Aside0.mk (qaa (zB BK1090) hb);replace HB:=Aside0.mk (qab (za0 HB GE1090) hb);(try clear hb)))
     go_ret
     exact⟨za9,za0 HB GE1090⟩
    ·replace c25:=Bool.eq_false_iff.mpr c25
     subst c25
     have H1:(if t1086≤(t1082.length:Int) then(if 0≤(wrap64 (t1086 - 1)) then(if(wrap64 (t1086 - 1))<(t1082.length:Int) then(laws_FnTripsMay.j1 kj4 t1082 t1091 ((rd_T73 t1082 (wrap64 (t1086 - 1))).f1) t1085 t1086 t1087) else(none)) else(none)) else(laws_FnTripsMay.j1 kj4 t1082 t1091 0 t1085 t1086 t1087))=some r:=by rw[if_neg (show ¬(false=true) by decide)] at H;exact H
     clear H
     have H:=H1
     clear H1
     have HC29:=Aside0.mk H
     clear H
     obtain⟨hcz30_0,hcz30_1,hcz30_2,hfz30_0,hfz30_1,hfz30_2⟩:=zC3 BK1090
     go_upto_if 42 with(fail)
     go_cut [6] (fun v6 wc=>∃(kq:Nat) (x6_28:Int),v6=.int .i64 x6_28∧Aside0 (laws_FnTripsMay.j1 kq t1082 t1091 x6_28 t1085 t1086 t1087=some r)∧Aside0 (kq≤kj4)∧Aside0 (Kd.N k73 73 wc w.heap.size (fun k_=>k_≠gb1090) (.slice Ao10 t1082.length co10) t1082)∧Aside0 (Kd.V (Kd.int .i64) 3 wc w.heap.size (fun k_=>some k_≠((.slice Ao10 t1082.length co10):Value).ownBlock∧k_≠gb1090) (.slice Ao9 t1087.length co9) t1087)∧Aside0 (wc.heap[gb1090]?=some (.cells #[.int .i64 t1085,.int .i64 t1086,(.slice Ao9 t1087.length co9)] 62 (0,0)))∧Aside0 (Below w.heap.size w wc))
     case first=>
      have H:=HC29.out
      clear HC29
      by_cases c31:t1086≤(t1082.length:Int)
      ·rw[if_pos c31] at H
       have c31b0:decide (t1086≤(t1082.length:Int))=true:=decide_eq_true c31
       clear c31
       (first|rw[c31b0]|(simp only[qaj,qak];rw[c31b0])|skip)
       obtain⟨ji32,hji32⟩:∃j_:Int,(wrap64 (t1086 - 1))=j_:=⟨_,rfl⟩
       replace H:(if 0≤(ji32) then(if(ji32)<(t1082.length:Int) then(laws_FnTripsMay.j1 kj4 t1082 t1091 ((rd_T73 t1082 (ji32)).f1) t1085 t1086 t1087) else(none)) else(none))=some r:=by first|(rw[hji32] at H;exact H)|(simp only[hji32] at H ⊢;exact H)
       have hji32w:(IntKind.i64.wrap (t1086 - 1))=ji32:=(qaj _).trans hji32
       by_cases c33:0≤(ji32)
       ·rw[if_pos c33] at H
        have c33b0:decide (0≤(ji32))=true:=decide_eq_true c33
        clear c33
        by_cases c34:(ji32)<(t1082.length:Int)
        ·rw[if_pos c34] at H
         have c34b0:decide ((ji32)<(t1082.length:Int))=true:=decide_eq_true c34
         clear c34
         have H':=Aside0.mk H
         clear H
         obtain⟨hcz35_0,hcz35_1,hcz35_2,hfz35_0,hfz35_1,hfz35_2⟩:=zC3 BK1090
         have p1096:0≤((ji32):Int):=of_decide_eq_true (za5)
         have q1096:(ji32)<(t1082.length:Int):=of_decide_eq_true (za5)
         obtain⟨ad1096,A1096_0,c1096_0,e1096,hx1096_0,hx1096_1,hl1096_0,hi1096_0⟩:=at_T73 (Kd.N_reads' HO_3.out).2.2 (ji32) p1096 q1096
         cases e1096
         obtain⟨ce1096,hce1096,hMe1096,hcc1096⟩:=Kd.N_get HO_3.out z73 (ji32) p1096 (by first|exact q1096|exact of_decide_eq_true (za5)|(have e_:=(Kd.N_reads' HO_3.out).1;omega))
         obtain⟨ua1096_0,uc1096_0,rfl,ul1096_0,ge1096_0⟩:=k73_openF hMe1096
         have hv1096_0:=hcc1096 0 _ rfl
         rw[Nat.add_zero] at hv1096_0
         replace hv1096_0:=Option.some.inj (hv1096_0.symm.trans hx1096_0)
         injection hv1096_0 with hva_ hvn_ hvc_
         rw[hva_] at ge1096_0
         rw[hvc_] at ul1096_0
         have HL1096_0:=Aside0.mk (show Kd.V (Kd.int .i64) 3 _ w.heap.size _ _ ((rd_T73 t1082 (ji32)).f0) from Kd.V_mk ul1096_0 ge1096_0)
         clear hva_ hvn_ hvc_ ge1096_0 ul1096_0
         clear hcc1096 hce1096
         have HR1096_0:=Aside0.mk hi1096_0
         have HC1096_0:=Aside0.mk hl1096_0
         clear hi1096_0 hl1096_0
         replace p1096:=eq_true p1096
         replace q1096:=eq_true q1096
         go_wp2
         go_meet
         case rel=>exact⟨_,((rd_T73 t1082 (ji32)).f1),(by first|rfl|(simp;done)|(simp only[←hji32]<;>(first|rfl|simp))|(simp[*];done)),H',⟨za27 HJ4⟩,⟨za11 HO_3⟩,⟨za19 HO_1091002⟩,⟨za16 BK1090⟩,⟨za0 HB GE1090⟩⟩
        ·rw[if_neg c34] at H
         exact absurd H (by simp)
       ·rw[if_neg c33] at H
        exact absurd H (by simp)
      ·rw[if_neg c31] at H
       have c31b0:decide (t1086≤(t1082.length:Int))=false:=decide_eq_false c31
       clear c31
       (first|rw[c31b0]|(simp only[qaj,qak];rw[c31b0])|skip)
       have H':=Aside0.mk H
       clear H
       go_wp2
       go_meet
       case rel=>exact⟨_,(0),(za17),H',⟨za27 HJ4⟩,⟨za11 HO_3⟩,⟨za19 HO_1091002⟩,⟨za16 BK1090⟩,⟨za0 HB GE1090⟩⟩
     case rest=>
      clear HC29
      try clear c1
      try clear p1
      try clear q1
      try clear hx1
      try clear c2
      try clear c2b0
      try clear c2b1
      try clear p2
      try clear c3
      try clear c4
      try clear c5
      try clear p6
      try clear c10
      try clear p10
      try clear q10
      try clear hx10
      try clear c13
      try clear c13b0
      try clear c13b1
      try clear c13b2
      try clear c17
      try clear c25
      try clear c31
      try clear c31b0
      try clear c33
      try clear c33b0
      try clear c34
      try clear c34b0
      try clear hcz14_0
      try clear hcz14_1
      try clear hcz14_2
      try clear hcz19_0
      try clear hcz19_1
      try clear hcz19_2
      try clear hcz21_0
      try clear hcz21_1
      try clear hcz21_2
      try clear hcz23_0
      try clear hcz23_1
      try clear hcz23_2
      try clear hcz27_0
      try clear hcz27_1
      try clear hcz27_2
      try clear hcz30_0
      try clear hcz30_1
      try clear hcz30_2
      try clear hcz35_0
      try clear hcz35_1
      try clear hcz35_2
      try clear hcz8_0
      try clear hcz8_1
      try clear hcz8_2
      try clear hfz14_0
      try clear hfz14_1
      try clear hfz14_2
      try clear hfz19_0
      try clear hfz19_1
      try clear hfz19_2
      try clear hfz21_0
      try clear hfz21_1
      try clear hfz21_2
      try clear hfz23_0
      try clear hfz23_1
      try clear hfz23_2
      try clear hfz27_0
      try clear hfz27_1
      try clear hfz27_2
      try clear hfz30_0
      try clear hfz30_1
      try clear hfz30_2
      try clear hfz35_0
      try clear hfz35_1
      try clear hfz35_2
      try clear hfz8_0
      try clear hfz8_1
      try clear hfz8_2
      try clear hx1096_0
      try clear hx1096_1
      try clear p1096
      try clear p2
      try clear q1096
      obtain⟨kq,x6_28,rfl,HA,HJ28,HO_3,HO_1091002,BK1090,HB⟩:=hcut
      cases kq with
      |zero=>exact absurd HA.out (by simp[laws_FnTripsMay.j1])
      |succ kj28=>
       have H:=HA.out
       clear HA
       simp only[laws_FnTripsMay.j1] at H
       by_cases c36:t1085=4
       ·rw[if_pos c36] at H
        have c36b0:(t1085 == 4)=true:=beq_iff_eq.mpr c36
        have c36b1:(t1085 != 4)=false:=bne_eq_false_iff_eq.mpr c36
        clear c36
        obtain rfl:=Option.some.inj H
        obtain⟨hcz37_0,hcz37_1,hcz37_2,hfz37_0,hfz37_1,hfz37_2⟩:=zC3 BK1090
        go_wp2
        go_ret
        exact⟨za9,za0 HB GE1090⟩
       ·rw[if_neg c36] at H
        have c36b0:(t1085 == 4)=false:=beq_eq_false_iff_ne.mpr c36
        have c36b1:(t1085 != 4)=true:=bne_iff_ne.mpr c36
        have HC38:=Aside0.mk H
        clear H
        obtain⟨hcz39_0,hcz39_1,hcz39_2,hfz39_0,hfz39_1,hfz39_2⟩:=zC3 BK1090
        go_upto_if 62 with(fail)
        go_cut [62] (fun v62 wc=>∃(kq:Nat) (x62_37:Bool),v62=.bool x62_37∧Aside0 (laws_FnTripsMay.j2 kq t1091 x6_28 t1085 x62_37=some r)∧Aside0 (kq≤kj28)∧Aside0 (Kd.V (Kd.int .i64) 3 wc w.heap.size (fun k_=>k_≠gb1090) (.slice Ao9 t1087.length co9) t1087)∧Aside0 (wc.heap[gb1090]?=some (.cells #[.int .i64 t1085,.int .i64 t1086,(.slice Ao9 t1087.length co9)] 62 (0,0)))∧Aside0 (Below w.heap.size w wc))
        case first=>
         have H:=HC38.out
         clear HC38
         by_cases c40:t1085=5
         ·rw[if_pos c40] at H
          have c40b0:(t1085 == 5)=true:=beq_iff_eq.mpr c40
          have c40b1:(t1085 != 5)=false:=bne_eq_false_iff_eq.mpr c40
          clear c40
          (first|rw[c40b0]|(simp only[qaj,qak];rw[c40b0])|skip)
          have H':=Aside0.mk H
          clear H
          go_wp2
          go_meet
          case rel=>exact⟨_,((t1085 == 5)),(za17),H',⟨by have:=HJ4.out;have:=HJ28.out;first|omega|exact Nat.le_refl _⟩,⟨by(with_reducible repeat(first|apply Kd.V_alloc|apply Kd.V_drewN|apply Kd.V_drew));exact Kd.V_mono HO_1091002.out (fun _ hk=>hk.2)⟩,⟨za16 BK1090⟩,⟨za0 HB GE1090⟩⟩
         ·rw[if_neg c40] at H
          have c40b0:(t1085 == 5)=false:=beq_eq_false_iff_ne.mpr c40
          have c40b1:(t1085 != 5)=true:=bne_iff_ne.mpr c40
          (first|rw[c40b0]|(simp only[qaj,qak];rw[c40b0])|skip)
          have H':=Aside0.mk H
          clear H
          go_wp2
          go_meet
          case rel=>exact⟨_,((t1085 == 6)),(za17),H',⟨by have:=HJ4.out;have:=HJ28.out;first|omega|exact Nat.le_refl _⟩,⟨by(with_reducible repeat(first|apply Kd.V_alloc|apply Kd.V_drewN|apply Kd.V_drew));exact Kd.V_mono HO_1091002.out (fun _ hk=>hk.2)⟩,⟨za16 BK1090⟩,⟨za0 HB GE1090⟩⟩
        case rest=>
         clear HC38
         try clear c1
         try clear p1
         try clear q1
         try clear hx1
         try clear c2
         try clear c2b0
         try clear c2b1
         try clear p2
         try clear c3
         try clear c4
         try clear c5
         try clear p6
         try clear c10
         try clear p10
         try clear q10
         try clear hx10
         try clear c13
         try clear c13b0
         try clear c13b1
         try clear c13b2
         try clear c17
         try clear c25
         try clear c31
         try clear c31b0
         try clear c33
         try clear c33b0
         try clear c34
         try clear c34b0
         try clear c36
         try clear c36b0
         try clear c36b1
         try clear c40
         try clear c40b0
         try clear c40b1
         try clear hcz14_0
         try clear hcz14_1
         try clear hcz14_2
         try clear hcz19_0
         try clear hcz19_1
         try clear hcz19_2
         try clear hcz21_0
         try clear hcz21_1
         try clear hcz21_2
         try clear hcz23_0
         try clear hcz23_1
         try clear hcz23_2
         try clear hcz27_0
         try clear hcz27_1
         try clear hcz27_2
         try clear hcz30_0
         try clear hcz30_1
         try clear hcz30_2
         try clear hcz35_0
         try clear hcz35_1
         try clear hcz35_2
         try clear hcz37_0
         try clear hcz37_1
         try clear hcz37_2
         try clear hcz39_0
         try clear hcz39_1
         try clear hcz39_2
         try clear hcz8_0
         try clear hcz8_1
         try clear hcz8_2
         try clear hfz14_0
         try clear hfz14_1
         try clear hfz14_2
         try clear hfz19_0
         try clear hfz19_1
         try clear hfz19_2
         try clear hfz21_0
         try clear hfz21_1
         try clear hfz21_2
         try clear hfz23_0
         try clear hfz23_1
         try clear hfz23_2
         try clear hfz27_0
         try clear hfz27_1
         try clear hfz27_2
         try clear hfz30_0
         try clear hfz30_1
         try clear hfz30_2
         try clear hfz35_0
         try clear hfz35_1
         try clear hfz35_2
         try clear hfz37_0
         try clear hfz37_1
         try clear hfz37_2
         try clear hfz39_0
         try clear hfz39_1
         try clear hfz39_2
         try clear hfz8_0
         try clear hfz8_1
         try clear hfz8_2
         try clear hx1096_0
         try clear hx1096_1
         try clear p1
         try clear p10
         try clear p1096
         try clear p2
         try clear p6
         try clear q1
         try clear q10
         try clear q1096
         obtain⟨kq,x62_37,rfl,HA,HJ37,HO_1091002,BK1090,HB⟩:=hcut
         cases kq with
         |zero=>exact absurd HA.out (by simp[laws_FnTripsMay.j2])
         |succ kj37=>
          have H:=HA.out
          clear HA
          simp only[laws_FnTripsMay.j2] at H
          by_cases c41:x62_37=true
          ·subst c41
           have H1:(some (t1091 == (x6_28 == 1)))=some r:=by rw[if_pos rfl] at H;exact H
           clear H
           have H:=H1
           clear H1
           obtain rfl:=Option.some.inj H
           go_wp2
           go_ret
           exact⟨za9,za0 HB GE1090⟩
          ·replace c41:=Bool.eq_false_iff.mpr c41
           subst c41
           have H1:(if t1085=7 then(if x6_28=2 then(some (t1091 == true)) else(some (t1091 == (x6_28 == 3)))) else(some (!t1091)))=some r:=by rw[if_neg (show ¬(false=true) by decide)] at H;exact H
           clear H
           have H:=H1
           clear H1
           by_cases c42:t1085=7
           ·rw[if_pos c42] at H
            have c42b0:(t1085 == 7)=true:=beq_iff_eq.mpr c42
            have c42b1:(t1085 != 7)=false:=bne_eq_false_iff_eq.mpr c42
            clear c42
            by_cases c43:x6_28=2
            ·rw[if_pos c43] at H
             have c43b0:(x6_28 == 2)=true:=beq_iff_eq.mpr c43
             have c43b1:(x6_28 != 2)=false:=bne_eq_false_iff_eq.mpr c43
             clear c43
             obtain rfl:=Option.some.inj H
             go_wp2
             go_ret
             exact⟨za9,za0 HB GE1090⟩
            ·rw[if_neg c43] at H
             have c43b0:(x6_28 == 2)=false:=beq_eq_false_iff_ne.mpr c43
             have c43b1:(x6_28 != 2)=true:=bne_iff_ne.mpr c43
             obtain rfl:=Option.some.inj H
             go_wp2
             go_ret
             exact⟨za9,za0 HB GE1090⟩
           ·rw[if_neg c42] at H
            have c42b0:(t1085 == 7)=false:=beq_eq_false_iff_ne.mpr c42
            have c42b1:(t1085 != 7)=true:=bne_iff_ne.mpr c42
            obtain rfl:=Option.some.inj H
            go_wp2
            go_ret
            exact⟨za9,za0 HB GE1090⟩
def laws_FnTripsMay.Pure:Prop:=∀(l0:List Int),l0.length≤maxLen→l0.length*1≤140737488351232→(∀x ∈ l0,(Lit.int .u8 x).wf=true)→∃k,laws_FnTripsMay.f k l0=some true
theorem laws_FnTripsMay.walk (P:laws_FnTripsMay.Pure) (a0:Option Addr) (len0 cap0:Nat) (z0:List Int) (w:World) (w0:(a0=none∧len0=0∧cap0=0∧z0=[])∨∃x,a0=some x∧len0≤cap0∧cap0≤maxLen∧z0.length=cap0∧(∀i,i<z0.length→w.cell? (x.add i)=some (.int .u8 (z0.getD i 0)))∧∀n ∈ z0,(Lit.int .u8 n).wf=true) (y0:len0*1≤140737488351232) :
  Calls Try.prog 13 #[.slice a0 len0 cap0] w fun e w'=>e=.returned (.bool true)∧Below w.heap.size w w':=by
 obtain⟨l0,rfl,hr0,hm0,hw0,hc0⟩:=ReadsInt.ofRowC w0
 obtain⟨k,h⟩:=P l0 hm0 y0 hw0
 refine(laws_FnTripsMay.calls k _ _ l0 true w (Kd.C_of_reads (d:=(0:Int)) (h1:=fun _=>rfl) hr0) hc0 h).mono ?_
 rintro e w' ⟨rfl,hd⟩
 exact⟨rfl,hd⟩
end Go.Proofs.Ytjccnaklodbbfaa.Print
