-- Written by squeeze.py: not trusted, Lean checks it.
import Derived.Test.YtjccnaklodbbfaaZK
import Derived.Test.YtjccnaklodbbfaaZab0
import Derived.Test.YtjccnaklodbbfaaZbb0
import Derived.Test.YtjccnaklodbbfaaZv0
namespace Go.Proofs.Ytjccnaklodbbfaa.Print
open Go.RowKit Go.Proofs.YtjccnaklodbbfaaW.PrintWords Go.Proofs.YtjccnaklodbbfaaW.PrintLast Go.Proofs.YtjccnaklodbbfaaW.PrintMore
attribute [local go_sem] max2_int min2_int max_two min_two max_three min_three max_four min_four
set_option linter.unusedVariables false
set_option linter.unusedSimpArgs false
mutual
def laws_FnTripsBegin.j0:Nat→List Int→List Int→Bool→Option (Bool)
 |0,_,_,_=>none
 |k+1,x0,x1,x18=>if x18=true then(some true) else((spec_DrawTripsMay.f k x0).bind fun bt1059=>((impl_TripsMay.f k bt1059.1 bt1059.2.1 bt1059.2.2.1 bt1059.2.2.2).bind fun t1068=>((spec_TripsMay.f k bt1059.1 bt1059.2.1 bt1059.2.2.1 bt1059.2.2.2).bind fun t1069=>(if(t1068 != t1069)=true then(laws_FnTripsBegin.j1 k x1 bt1059.1 t1068 true bt1059.2.1 bt1059.2.2.1 bt1059.2.2.2) else((spec_TripsOk.f k bt1059.1).bind fun t1070=>(laws_FnTripsBegin.j1 k x1 bt1059.1 t1068 (!t1070) bt1059.2.1 bt1059.2.2.1 bt1059.2.2.2))))))
def laws_FnTripsBegin.j1:Nat→List Int→List (S73)→Bool→Bool→Int→Int→List Int→Option (Bool)
 |0,_,_,_,_,_,_,_=>none
 |k+1,x1,x5,x7,x36,x1068000,x1068001,x1068002=>if x36=true then((spec_TripsMay.f k x5 x1068000 x1068001 x1068002).bind fun t1071=>(some (x7 == t1071))) else((impl_TripsMay.f k x5 4 (wrap64 ((x5.length:Int)+1)) (([1,1,1]:List Int))).bind fun t1080=>(if(t1080 == (decide ((x5.length:Int)<6)))=true then((impl_TripsMay.f k x5 4 (1+((x1.length:Int)%6)) (([1,1,1]:List Int))).bind fun t1081=>(some (t1081 == ((1+((x1.length:Int)%6)) == (wrap64 ((x5.length:Int)+1)))))) else(some false)))
end
def laws_FnTripsBegin.f (k:Nat) (l0:List Int) (l1:List Int):Option (Bool):=if(l0.length:Int)>1048576 then(laws_FnTripsBegin.j0 k l0 l1 true) else(laws_FnTripsBegin.j0 k l0 l1 (decide ((l1.length:Int)>1048576)))
theorem laws_FnTripsBegin.mono_l:∀k,(∀y0 y1 y2,LeO (laws_FnTripsBegin.j0 k y0 y1 y2) (laws_FnTripsBegin.j0 (k+1) y0 y1 y2))∧(∀y0 y1 y2 y3 y4 y5 y6,LeO (laws_FnTripsBegin.j1 k y0 y1 y2 y3 y4 y5 y6) (laws_FnTripsBegin.j1 (k+1) y0 y1 y2 y3 y4 y5 y6))
 |0=>⟨fun _ _ _ r h=>by simp[laws_FnTripsBegin.j0] at h,fun _ _ _ _ _ _ _ r h=>by simp[laws_FnTripsBegin.j1] at h⟩
 |k+1=>by
  obtain⟨ih0,ih1⟩:=laws_FnTripsBegin.mono_l k
  refine⟨?_,?_⟩
  ·intro y0 y1 y2
   unfold laws_FnTripsBegin.j0
   repeat' first
   |(with_reducible exact ih0 _ _ _)
   |(with_reducible exact ih1 _ _ _ _ _ _ _)
   |(with_reducible exact impl_TripsMay.mono _ _ _ _ _)
   |(with_reducible exact spec_DrawTripsMay.mono _ _)
   |(with_reducible exact spec_TripsMay.mono _ _ _ _ _)
   |(with_reducible exact spec_TripsOk.mono _ _)
   |(with_reducible exact LeO.refl _)
   |(with_reducible exact LeO.none _)
   |(with_reducible refine LeO.ite ?_ ?_)
   |(with_reducible refine LeO.bind ?_ (fun _=>?_))
   |exact ih0 _ _ _
   |exact ih1 _ _ _ _ _ _ _
   |exact impl_TripsMay.mono _ _ _ _ _
   |exact spec_DrawTripsMay.mono _ _
   |exact spec_TripsMay.mono _ _ _ _ _
   |exact spec_TripsOk.mono _ _
   |exact LeO.none _
   |refine LeO.ite ?_ ?_
   |refine LeO.bind ?_ (fun _=>?_)
  ·intro y0 y1 y2 y3 y4 y5 y6
   unfold laws_FnTripsBegin.j1
   repeat' first
   |(with_reducible exact ih0 _ _ _)
   |(with_reducible exact ih1 _ _ _ _ _ _ _)
   |(with_reducible exact impl_TripsMay.mono _ _ _ _ _)
   |(with_reducible exact spec_DrawTripsMay.mono _ _)
   |(with_reducible exact spec_TripsMay.mono _ _ _ _ _)
   |(with_reducible exact spec_TripsOk.mono _ _)
   |(with_reducible exact LeO.refl _)
   |(with_reducible exact LeO.none _)
   |(with_reducible refine LeO.ite ?_ ?_)
   |(with_reducible refine LeO.bind ?_ (fun _=>?_))
   |exact ih0 _ _ _
   |exact ih1 _ _ _ _ _ _ _
   |exact impl_TripsMay.mono _ _ _ _ _
   |exact spec_DrawTripsMay.mono _ _
   |exact spec_TripsMay.mono _ _ _ _ _
   |exact spec_TripsOk.mono _ _
   |exact LeO.none _
   |refine LeO.ite ?_ ?_
   |refine LeO.bind ?_ (fun _=>?_)
theorem laws_FnTripsBegin.mono:∀a0 a1 k,LeO (laws_FnTripsBegin.f k a0 a1) (laws_FnTripsBegin.f (k+1) a0 a1):=by
 intro a0 a1 k
 obtain⟨ih0,ih1⟩:=laws_FnTripsBegin.mono_l k
 unfold laws_FnTripsBegin.f
 repeat' first
   |(with_reducible exact ih0 _ _ _)
   |(with_reducible exact ih1 _ _ _ _ _ _ _)
   |(with_reducible exact impl_TripsMay.mono _ _ _ _ _)
   |(with_reducible exact spec_DrawTripsMay.mono _ _)
   |(with_reducible exact spec_TripsMay.mono _ _ _ _ _)
   |(with_reducible exact spec_TripsOk.mono _ _)
   |(with_reducible exact LeO.refl _)
   |(with_reducible exact LeO.none _)
   |(with_reducible refine LeO.ite ?_ ?_)
   |(with_reducible refine LeO.bind ?_ (fun _=>?_))
   |exact ih0 _ _ _
   |exact ih1 _ _ _ _ _ _ _
   |exact impl_TripsMay.mono _ _ _ _ _
   |exact spec_DrawTripsMay.mono _ _
   |exact spec_TripsMay.mono _ _ _ _ _
   |exact spec_TripsOk.mono _ _
   |exact LeO.none _
   |refine LeO.ite ?_ ?_
   |refine LeO.bind ?_ (fun _=>?_)
def laws_FnTripsBegin.T10:Bool × List (List Nat × List Nat):=(true,[([],[]),([],[]),([0,1],[0,1]),([],[]),([3],[3]),([2,4],[2,4]),([5,2],[5]),([6],[6]),([6],[6]),([7,8,6,6],[6,7,8]),([6],[6]),([10,6],[6,10]),([6],[6]),([12,6],[6,12]),([11,13,6],[6,11,13]),([9,14,6],[6,9,14]),([6,15],[6,15]),([16,9,0,1,2,3,4,5,6,7,8,9,10,11,12,13,14,15,16],[16])])
def laws_FnTripsBegin.B10:List Nat:=[0,0,3,0,8,31,63,127,127,511,127,1151,127,4223,15487,32767,65535,131071]
theorem laws_FnTripsBegin.tab10:rtab .any (opsOf Try.f12 10)=laws_FnTripsBegin.T10:=by kernel_rfl
theorem laws_FnTripsBegin.bits10:waitsOk laws_FnTripsBegin.T10.2 laws_FnTripsBegin.B10=true:=by kernel_rfl
set_option maxHeartbeats 8000000 in
set_option maxRecDepth 100000 in
theorem laws_FnTripsBegin.calls (k:Nat) (A0:Option Addr) (c0:Nat) (l0:List Int) (A1:Option Addr) (c1:Nat) (l1:List Int) (r:Bool) (w:World) (hr0:Kd.C (Kd.int .u8) w A0 l0.length l0) (hc0:l0.length≤c0) (hr1:Kd.C (Kd.int .u8) w A1 l1.length l1) (hc1:l1.length≤c1) (h:laws_FnTripsBegin.f k l0 l1=some r) :
  Calls Try.prog 12 #[.slice A0 l0.length c0,.slice A1 l1.length c1] w fun e w'=>e=.returned (.bool r)∧Below w.heap.size w w':=by
 have hu62:=Try.underlying62
 have HR0:=Aside0.mk hr0
 have HC0:=Aside0.mk hc0
 clear hr0 hc0
 have HR1:=Aside0.mk hr1
 have HC1:=Aside0.mk hc1
 clear hr1 hc1
 have HB:=Aside0.mk (Below.refl w.heap.size w)
 have H:(if(l0.length:Int)>1048576 then(laws_FnTripsBegin.j0 k l0 l1 true) else(laws_FnTripsBegin.j0 k l0 l1 (decide ((l1.length:Int)>1048576))))=some r:=h
 clear h
 have HC3:=Aside0.mk H
 clear H
 go_enter Try.func12,Try.ntmps12
 go_upto_region 1 with(fail)
 go_cut [18] (fun v18 wc=>∃(kq:Nat) (x18_2:Bool),v18=.bool x18_2∧Aside0 (laws_FnTripsBegin.j0 kq l0 l1 x18_2=some r)∧Aside0 (kq≤k)∧Aside0 (Below w.heap.size w wc))
 case first=>
  have H:=HC3.out
  clear HC3
  by_cases c4:(l0.length:Int)>1048576
  ·rw[if_pos c4] at H
   have c4b0:decide (1048576<(l0.length:Int))=true:=decide_eq_true c4
   have c4b1:decide (1048576<l0.length)=true:=decide_eq_true (by omega)
   clear c4
   (first|rw[c4b0]|(simp only[qaj,qak];rw[c4b0])|skip)
   have H':=Aside0.mk H
   clear H
   go_wp2
   go_meet
   case rel=>exact⟨_,(true),(za17),H',⟨za23⟩,⟨za1 HB⟩⟩
  ·rw[if_neg c4] at H
   have c4b0:decide (1048576<(l0.length:Int))=false:=decide_eq_false c4
   have c4b1:decide (1048576<l0.length)=false:=decide_eq_false (by omega)
   clear c4
   (first|rw[c4b0]|(simp only[qaj,qak];rw[c4b0])|skip)
   have H':=Aside0.mk H
   clear H
   go_wp2
   go_meet
   case rel=>exact⟨_,(decide ((l1.length:Int)>1048576)),(za17),H',⟨za23⟩,⟨za1 HB⟩⟩
 case rest=>
  clear HC3
  try clear c1
  try clear p2
  try clear c4
  try clear c4b0
  try clear c4b1
  obtain⟨kq,x18_2,rfl,HA,HJ2,HB⟩:=hcut
  cases kq with
  |zero=>exact absurd HA.out (by simp[laws_FnTripsBegin.j0])
  |succ kj2=>
   have H:=HA.out
   clear HA
   simp only[laws_FnTripsBegin.j0] at H
   by_cases c5:x18_2=true
   ·subst c5
    have H1:(some true)=some r:=by rw[if_pos rfl] at H;exact H
    clear H
    have H:=H1
    clear H1
    obtain rfl:=Option.some.inj H
    go_wp2
    go_ret
    exact⟨za9,za1 HB⟩
   ·replace c5:=Bool.eq_false_iff.mpr c5
    subst c5
    have H1:((spec_DrawTripsMay.f kj2 l0).bind fun bt1059=>((impl_TripsMay.f kj2 bt1059.1 bt1059.2.1 bt1059.2.2.1 bt1059.2.2.2).bind fun t1068=>((spec_TripsMay.f kj2 bt1059.1 bt1059.2.1 bt1059.2.2.1 bt1059.2.2.2).bind fun t1069=>(if(t1068 != t1069)=true then(laws_FnTripsBegin.j1 kj2 l1 bt1059.1 t1068 true bt1059.2.1 bt1059.2.2.1 bt1059.2.2.2) else((spec_TripsOk.f kj2 bt1059.1).bind fun t1070=>(laws_FnTripsBegin.j1 kj2 l1 bt1059.1 t1068 (!t1070) bt1059.2.1 bt1059.2.2.1 bt1059.2.2.2))))))=some r:=by rw[if_neg (show ¬(false=true) by decide)] at H;exact H
    clear H
    have H:=H1
    clear H1
    replace H:=Option.bind_eq_some_iff.mp H
    obtain⟨⟨t1059,t1062,t1063,t1064⟩,A60,H⟩:=H
    replace H:((impl_TripsMay.f kj2 t1059 t1062 t1063 t1064).bind fun t1068=>((spec_TripsMay.f kj2 t1059 t1062 t1063 t1064).bind fun t1069=>(if(t1068 != t1069)=true then(laws_FnTripsBegin.j1 kj2 l1 t1059 t1068 true t1062 t1063 t1064) else((spec_TripsOk.f kj2 t1059).bind fun t1070=>(laws_FnTripsBegin.j1 kj2 l1 t1059 t1068 (!t1070) t1062 t1063 t1064)))))=some r:=H
    have A6:=Aside0.mk A60
    clear A60
    replace H:=Option.bind_eq_some_iff.mp H
    obtain⟨t1068,A70,H⟩:=H
    replace H:((spec_TripsMay.f kj2 t1059 t1062 t1063 t1064).bind fun t1069=>(if(t1068 != t1069)=true then(laws_FnTripsBegin.j1 kj2 l1 t1059 t1068 true t1062 t1063 t1064) else((spec_TripsOk.f kj2 t1059).bind fun t1070=>(laws_FnTripsBegin.j1 kj2 l1 t1059 t1068 (!t1070) t1062 t1063 t1064))))=some r:=H
    have A7:=Aside0.mk A70
    clear A70
    have HC8:=Aside0.mk H
    clear H
    go_upto_region 5 with(first|((with_reducible refine qaf (f:=53) rfl ?_);refine zF (some 21) Try.func53 #[.slice A0 l0.length c0] ?_;(with_reducible refine(spec_DrawTripsMay.calls kj2 _ _ l0 t1059 t1062 t1063 t1064 _ ?side1 ?side2 A6.out).mono ?_);(case side1=>exact zR HR0 HB);(case side2=>exact HC0.out);rintro e w9 ⟨v1060,v1065,rfl,ho0,ho1,hb⟩;refine⟨_,rfl,?_⟩;have HO1061:=Aside0.mk (Kd.N_lower (Kd.N_mono (ok':=fun k_=>True) ho0 (fun k_ hk_=>trivial)) (below_size (za1 HB)));have HO1066:=Aside0.mk (Kd.V_lower (Kd.V_mono (ok':=fun k_=>some k_≠(v1060:Value).ownBlock) ho1 (fun k_ hk_=>hk_.2)) (below_size (za1 HB)));replace HB:=Aside0.mk (qab (za1 HB) hb);(try clear hb);(try clear ho0);(try clear ho1))|((with_reducible refine qah (N:=6) rfl ?_);(try(refine qaq (by rfl) ?_;dsimp only));refine zX (N:=6) (cs:=#[.int .i64 0,.int .i64 0,.slice none 0 0]) (t:=62) ?_;intro gb1067 hg w10 hbox hb;replace HO1061:=Aside0.mk (Kd.N_below (Kd.N_elderB (za11 HO1061) gb1067 (Nat.le_of_eq hg.symm)) hb);replace HO1066:=Aside0.mk (Kd.V_below (Kd.V_elderB (za19 HO1066) gb1067 (Nat.le_of_eq hg.symm)) hb);have BK1067:=Aside0.mk hbox;have GW1067:=zH (w:=w) hg (za1 HB);have GE1067:=GW1067;replace HB:=Aside0.mk (qab (za1 HB) hb);clear hb hbox hg;obtain⟨hcz11_0,hcz11_1,hcz11_2,hfz11_0,hfz11_1,hfz11_2⟩:=zC3 BK1067;obtain⟨Ao12,co12,eo12⟩:=Kd.V_slice HO1066.out;subst eo12;obtain⟨Ao13,co13,eo13⟩:=Kd.N_slice HO1061.out;subst eo13)|((with_reducible refine qaf (f:=51) rfl ?_);refine zF (some 26) Try.func51 #[.slice Ao13 t1059.length co13,.agg #[.int .i64 t1062,.int .i64 t1063,.slice Ao12 t1064.length co12]] ?_;(with_reducible refine(impl_TripsMay.calls kj2 _ _ t1059 t1062 t1063 _ _ t1064 t1068 _ ?side1 ?side2 ?side3 ?side4 A7.out).mono ?_);(case side1=>refine(Kd.N_reads' (e:=73) (base:=w.heap.size) (ok:=fun k_=>(True∧k_≠gb1067)) (n:=t1059.length) (c:=co13) ?_).2.2;exact(by(with_reducible repeat(first|apply Kd.N_alloc|apply Kd.N_drewN|apply Kd.N_drew));exact(Kd.N_mono (Kd.N_far (p:=⟨gb1067,2,none⟩) (Kd.N_far (p:=⟨gb1067,1,none⟩) (Kd.N_far (p:=⟨gb1067,0,none⟩) (Kd.N_mono HO1061.out (fun k_ hk=>(⟨hk,hk.2⟩:_∧k_≠gb1067))) (fun _ hk=>hk.2) (.int .i64 t1062)) (fun _ hk=>hk.2) (.int .i64 t1063)) (fun _ hk=>hk.2) (.slice Ao12 t1064.length co12)) (fun _ h_=>h_.1))));(case side2=>exact(Kd.N_reads' HO1061.out).2.1);(case side3=>refine(Kd.V_reads' (e:=3) (base:=w.heap.size) (ok:=fun k_=>(some k_≠(.slice Ao13 t1059.length co13:Value).ownBlock∧k_≠gb1067)) (n:=t1064.length) (c:=co12) ?_).2.2;exact(by(with_reducible repeat(first|apply Kd.V_alloc|apply Kd.V_drewN|apply Kd.V_drew));exact(Kd.V_mono (Kd.V_far (p:=⟨gb1067,2,none⟩) (Kd.V_far (p:=⟨gb1067,1,none⟩) (Kd.V_far (p:=⟨gb1067,0,none⟩) (Kd.V_mono HO1066.out (fun k_ hk=>(⟨hk,hk.2⟩:_∧k_≠gb1067))) (fun _ hk=>hk.2) (.int .i64 t1062)) (fun _ hk=>hk.2) (.int .i64 t1063)) (fun _ hk=>hk.2) (.slice Ao12 t1064.length co12)) (fun _ h_=>h_.1))));(case side4=>exact(Kd.V_reads' HO1066.out).2.1);rintro e w14 ⟨rfl,hb⟩;refine⟨_,rfl,?_⟩;replace HO1061:=Aside0.mk (Kd.N_below (by(with_reducible repeat(first|apply Kd.N_alloc|apply Kd.N_drewN|apply Kd.N_drew));exact(Kd.N_mono (Kd.N_far (p:=⟨gb1067,2,none⟩) (Kd.N_far (p:=⟨gb1067,1,none⟩) (Kd.N_far (p:=⟨gb1067,0,none⟩) (Kd.N_mono HO1061.out (fun k_ hk=>(⟨hk,hk.2⟩:_∧k_≠gb1067))) (fun _ hk=>hk.2) (.int .i64 t1062)) (fun _ hk=>hk.2) (.int .i64 t1063)) (fun _ hk=>hk.2) (.slice Ao12 t1064.length co12)) (fun _ h_=>h_.1))) hb);replace HO1066:=Aside0.mk (Kd.V_below (by(with_reducible repeat(first|apply Kd.V_alloc|apply Kd.V_drewN|apply Kd.V_drew));exact(Kd.V_mono (Kd.V_far (p:=⟨gb1067,2,none⟩) (Kd.V_far (p:=⟨gb1067,1,none⟩) (Kd.V_far (p:=⟨gb1067,0,none⟩) (Kd.V_mono HO1066.out (fun k_ hk=>(⟨hk,hk.2⟩:_∧k_≠gb1067))) (fun _ hk=>hk.2) (.int .i64 t1062)) (fun _ hk=>hk.2) (.int .i64 t1063)) (fun _ hk=>hk.2) (.slice Ao12 t1064.length co12)) (fun _ h_=>h_.1))) hb);replace BK1067:=Aside0.mk (qaa (g:=gb1067) (o:=.cells #[.int .i64 t1062,.int .i64 t1063,.slice Ao12 t1064.length co12] 62 (0,0)) (by(with_reducible repeat(first|refine blk_drewN ?_ _|refine blk_drew ?_|refine blk_alloc ?_ _));refine qai (cs:=#[.int .i64 t1062,.int .i64 t1063,.slice none 0 0]) ?_ 2 _ rfl;(with_reducible repeat(first|refine blk_drewN ?_ _|refine blk_drew ?_|refine blk_alloc ?_ _));refine qai (cs:=#[.int .i64 t1062,.int .i64 0,.slice none 0 0]) ?_ 1 _ rfl;(with_reducible repeat(first|refine blk_drewN ?_ _|refine blk_drew ?_|refine blk_alloc ?_ _));refine qai (cs:=#[.int .i64 0,.int .i64 0,.slice none 0 0]) ?_ 0 _ rfl;(with_reducible repeat(first|refine blk_drewN ?_ _|refine blk_drew ?_|refine blk_alloc ?_ _));exact BK1067.out) hb);replace HB:=Aside0.mk (qab (za0 HB GE1067) hb);(try clear hb)))
    (try simp only[Act.put,List.setIfInBounds_toArray,List.set_cons_zero,List.set_cons_succ])
    go_cut [36] (fun v36 wc=>∃(kq:Nat) (x36_7:Bool),v36=.bool x36_7∧Aside0 (laws_FnTripsBegin.j1 kq l1 t1059 t1068 x36_7 t1062 t1063 t1064=some r)∧Aside0 (kq≤kj2)∧Aside0 (Kd.N k73 73 wc w.heap.size (fun k_=>k_≠gb1067) (.slice Ao13 t1059.length co13) t1059)∧Aside0 (Kd.V (Kd.int .i64) 3 wc w.heap.size (fun k_=>some k_≠((.slice Ao13 t1059.length co13):Value).ownBlock∧k_≠gb1067) (.slice Ao12 t1064.length co12) t1064)∧Aside0 (wc.heap[gb1067]?=some (.cells #[.int .i64 t1062,.int .i64 t1063,(.slice Ao12 t1064.length co12)] 62 (0,0)))∧Aside0 (Below w.heap.size w wc))
    case first=>
     have H:=HC8.out
     clear HC8
     replace H:=Option.bind_eq_some_iff.mp H
     obtain⟨t1069,A150,H⟩:=H
     replace H:(if(t1068 != t1069)=true then(laws_FnTripsBegin.j1 kj2 l1 t1059 t1068 true t1062 t1063 t1064) else((spec_TripsOk.f kj2 t1059).bind fun t1070=>(laws_FnTripsBegin.j1 kj2 l1 t1059 t1068 (!t1070) t1062 t1063 t1064)))=some r:=H
     have A15:=Aside0.mk A150
     clear A150
     by_cases c16:(t1068 != t1069)=true
     ·rw[if_pos c16] at H
      have c16b0:(t1068 != t1069)=true:=c16
      (try(have c16b1:decide (t1068=t1069)=false:=by simpa using c16))
      (try(have c16b2:(t1068 == t1069)=false:=by simpa using c16))
      (try(have c16b3:¬(t1068=t1069):=by simpa using c16))
      clear c16
      (first|rw[c16b0]|(simp only[qaj,qak];rw[c16b0])|skip)
      have H':=Aside0.mk H
      clear H
      obtain⟨hcz17_0,hcz17_1,hcz17_2,hfz17_0,hfz17_1,hfz17_2⟩:=zC3 BK1067
      go_wp2_with(first|((with_reducible refine qaf (f:=49) rfl ?_);refine zF (some 30) Try.func49 #[.slice Ao13 t1059.length co13,.agg #[.int .i64 t1062,.int .i64 t1063,.slice Ao12 t1064.length co12]] ?_;(with_reducible refine(spec_TripsMay.calls kj2 _ _ t1059 t1062 t1063 _ _ t1064 t1069 _ ?side1 ?side2 ?side3 ?side4 A15.out).mono ?_);(case side1=>repeat(first|exact(Kd.N_reads' HO1061.out).2.2|(with_reducible refine Kd.C_alloc ?_ _)|(with_reducible refine Kd.C_drewN ?_ _)|(with_reducible refine Kd.C_drew ?_)));(case side2=>exact(Kd.N_reads' HO1061.out).2.1);(case side3=>repeat(first|exact(Kd.V_reads' HO1066.out).2.2|(with_reducible refine Kd.C_alloc ?_ _)|(with_reducible refine Kd.C_drewN ?_ _)|(with_reducible refine Kd.C_drew ?_)));(case side4=>exact(Kd.V_reads' HO1066.out).2.1);rintro e w18 ⟨rfl,hb⟩;refine⟨_,rfl,?_⟩;replace HO1061:=Aside0.mk (Kd.N_below (za11 HO1061) hb);replace HO1066:=Aside0.mk (Kd.V_below (za19 HO1066) hb);replace BK1067:=Aside0.mk (qaa (zB BK1067) hb);replace HB:=Aside0.mk (qab (za0 HB GE1067) hb);(try clear hb)))
      go_meet
      case rel=>exact⟨_,(true),(za17),H',⟨za27 HJ2⟩,⟨by(with_reducible repeat(first|apply Kd.N_alloc|apply Kd.N_drewN|apply Kd.N_drew));exact Kd.N_mono HO1061.out (fun _ hk=>hk.2)⟩,⟨za19 HO1066⟩,⟨za16 BK1067⟩,⟨za0 HB GE1067⟩⟩
     ·rw[if_neg c16] at H
      have c16b0:(t1068 != t1069)=false:=by simpa using c16
      (try(have c16b1:decide (t1068=t1069)=true:=by simpa using c16))
      (try(have c16b2:(t1068 == t1069)=true:=by simpa using c16))
      clear c16
      (first|rw[c16b0]|(simp only[qaj,qak];rw[c16b0])|skip)
      replace H:=Option.bind_eq_some_iff.mp H
      obtain⟨t1070,A190,H⟩:=H
      replace H:(laws_FnTripsBegin.j1 kj2 l1 t1059 t1068 (!t1070) t1062 t1063 t1064)=some r:=H
      have A19:=Aside0.mk A190
      clear A190
      have H':=Aside0.mk H
      clear H
      obtain⟨hcz20_0,hcz20_1,hcz20_2,hfz20_0,hfz20_1,hfz20_2⟩:=zC3 BK1067
      go_wp2_with(first|((with_reducible refine qaf (f:=49) rfl ?_);refine zF (some 30) Try.func49 #[.slice Ao13 t1059.length co13,.agg #[.int .i64 t1062,.int .i64 t1063,.slice Ao12 t1064.length co12]] ?_;(with_reducible refine(spec_TripsMay.calls kj2 _ _ t1059 t1062 t1063 _ _ t1064 t1069 _ ?side1 ?side2 ?side3 ?side4 A15.out).mono ?_);(case side1=>repeat(first|exact(Kd.N_reads' HO1061.out).2.2|(with_reducible refine Kd.C_alloc ?_ _)|(with_reducible refine Kd.C_drewN ?_ _)|(with_reducible refine Kd.C_drew ?_)));(case side2=>exact(Kd.N_reads' HO1061.out).2.1);(case side3=>repeat(first|exact(Kd.V_reads' HO1066.out).2.2|(with_reducible refine Kd.C_alloc ?_ _)|(with_reducible refine Kd.C_drewN ?_ _)|(with_reducible refine Kd.C_drew ?_)));(case side4=>exact(Kd.V_reads' HO1066.out).2.1);rintro e w21 ⟨rfl,hb⟩;refine⟨_,rfl,?_⟩;replace HO1061:=Aside0.mk (Kd.N_below (za11 HO1061) hb);replace HO1066:=Aside0.mk (Kd.V_below (za19 HO1066) hb);replace BK1067:=Aside0.mk (qaa (zB BK1067) hb);replace HB:=Aside0.mk (qab (za0 HB GE1067) hb);(try clear hb))|(go_at_call 47;(with_reducible refine(spec_TripsOk.calls kj2 _ _ t1059 t1070 _ ?side1 ?side2 A19.out).mono ?_);(case side1=>repeat(first|exact(Kd.N_reads' HO1061.out).2.2|(with_reducible refine Kd.C_alloc ?_ _)|(with_reducible refine Kd.C_drewN ?_ _)|(with_reducible refine Kd.C_drew ?_)));(case side2=>exact(Kd.N_reads' HO1061.out).2.1);rintro e w' ⟨rfl,⟨nd,rfl⟩⟩))
      go_meet
      case rel=>exact⟨_,(!t1070),(za17),H',⟨za27 HJ2⟩,⟨by(with_reducible repeat(first|apply Kd.N_alloc|apply Kd.N_drewN|apply Kd.N_drew));exact Kd.N_mono HO1061.out (fun _ hk=>hk.2)⟩,⟨za19 HO1066⟩,⟨za16 BK1067⟩,⟨za0 HB GE1067⟩⟩
    case rest=>
     clear HC8
     try clear c1
     try clear p2
     try clear c4
     try clear c4b0
     try clear c4b1
     try clear c5
     try clear c12
     try clear c16
     try clear c16b0
     try clear c16b1
     try clear c16b2
     try clear hcz11_0
     try clear hcz11_1
     try clear hcz11_2
     try clear hcz17_0
     try clear hcz17_1
     try clear hcz17_2
     try clear hcz20_0
     try clear hcz20_1
     try clear hcz20_2
     try clear hfz11_0
     try clear hfz11_1
     try clear hfz11_2
     try clear hfz17_0
     try clear hfz17_1
     try clear hfz17_2
     try clear hfz20_0
     try clear hfz20_1
     try clear hfz20_2
     try clear p2
     obtain⟨kq,x36_7,rfl,HA,HJ7,HO_5,HO_1068002,BK1067,HB⟩:=hcut
     cases kq with
     |zero=>exact absurd HA.out (by simp[laws_FnTripsBegin.j1])
     |succ kj7=>
      have H:=HA.out
      clear HA
      simp only[laws_FnTripsBegin.j1] at H
      by_cases c22:x36_7=true
      ·subst c22
       have H1:((spec_TripsMay.f kj7 t1059 t1062 t1063 t1064).bind fun t1071=>(some (t1068 == t1071)))=some r:=by rw[if_pos rfl] at H;exact H
       clear H
       have H:=H1
       clear H1
       replace H:=Option.bind_eq_some_iff.mp H
       obtain⟨t1071,A230,H⟩:=H
       replace H:(some (t1068 == t1071))=some r:=H
       have A23:=Aside0.mk A230
       clear A230
       obtain rfl:=Option.some.inj H
       obtain⟨hcz24_0,hcz24_1,hcz24_2,hfz24_0,hfz24_1,hfz24_2⟩:=zC3 BK1067
       go_wp2_with(first|((with_reducible refine qaf (f:=49) rfl ?_);refine zF (some 40) Try.func49 #[.slice Ao13 t1059.length co13,.agg #[.int .i64 t1062,.int .i64 t1063,.slice Ao12 t1064.length co12]] ?_;(with_reducible refine(spec_TripsMay.calls kj7 _ _ t1059 t1062 t1063 _ _ t1064 t1071 _ ?side1 ?side2 ?side3 ?side4 A23.out).mono ?_);(case side1=>repeat(first|exact(Kd.N_reads' HO_5.out).2.2|(with_reducible refine Kd.C_alloc ?_ _)|(with_reducible refine Kd.C_drewN ?_ _)|(with_reducible refine Kd.C_drew ?_)));(case side2=>exact(Kd.N_reads' HO_5.out).2.1);(case side3=>repeat(first|exact(Kd.V_reads' HO_1068002.out).2.2|(with_reducible refine Kd.C_alloc ?_ _)|(with_reducible refine Kd.C_drewN ?_ _)|(with_reducible refine Kd.C_drew ?_)));(case side4=>exact(Kd.V_reads' HO_1068002.out).2.1);rintro e w25 ⟨rfl,hb⟩;refine⟨_,rfl,?_⟩;replace HO_5:=Aside0.mk (Kd.N_below (za11 HO_5) hb);replace HO_1068002:=Aside0.mk (Kd.V_below (za19 HO_1068002) hb);replace BK1067:=Aside0.mk (qaa (zB BK1067) hb);replace HB:=Aside0.mk (qab (za0 HB GE1067) hb);(try clear hb)))
       go_ret
       exact⟨za9,za0 HB GE1067⟩
      ·replace c22:=Bool.eq_false_iff.mpr c22
       subst c22
       have H1:((impl_TripsMay.f kj7 t1059 4 (wrap64 ((t1059.length:Int)+1)) (([1,1,1]:List Int))).bind fun t1080=>(if(t1080 == (decide ((t1059.length:Int)<6)))=true then((impl_TripsMay.f kj7 t1059 4 (1+((l1.length:Int)%6)) (([1,1,1]:List Int))).bind fun t1081=>(some (t1081 == ((1+((l1.length:Int)%6)) == (wrap64 ((t1059.length:Int)+1)))))) else(some false)))=some r:=by rw[if_neg (show ¬(false=true) by decide)] at H;exact H
       clear H
       have H:=H1
       clear H1
       obtain⟨y1072,hy1072⟩:∃y_:List Int,y_=(([1,1,1]:List Int)):=⟨_,rfl⟩
       replace H:((impl_TripsMay.f kj7 t1059 4 (wrap64 ((t1059.length:Int)+1)) y1072).bind fun t1080=>(if(t1080 == (decide ((t1059.length:Int)<6)))=true then((impl_TripsMay.f kj7 t1059 4 (1+((l1.length:Int)%6)) (([1,1,1]:List Int))).bind fun t1081=>(some (t1081 == ((1+((l1.length:Int)%6)) == (wrap64 ((t1059.length:Int)+1)))))) else(some false)))=some r:=by first|(rw[hy1072];with_reducible exact H)|(have H2_:=(Option.bind_some _ _).symm.trans H;rw[hy1072];with_reducible exact H2_)|(have H2_:=(Option.bind_some _ _).symm.trans H;with_reducible exact H2_)|with_reducible exact H|(rw[hy1072];exact H)|exact H
       have Ny1072:=Aside0.mk hy1072
       clear hy1072
       obtain⟨y1076,hy1076⟩:∃y_:List Int,y_=(([1,1,1]:List Int)):=⟨_,rfl⟩
       replace H:((impl_TripsMay.f kj7 t1059 4 (wrap64 ((t1059.length:Int)+1)) y1072).bind fun t1080=>(if(t1080 == (decide ((t1059.length:Int)<6)))=true then((impl_TripsMay.f kj7 t1059 4 (1+((l1.length:Int)%6)) y1076).bind fun t1081=>(some (t1081 == ((1+((l1.length:Int)%6)) == (wrap64 ((t1059.length:Int)+1)))))) else(some false)))=some r:=by first|(rw[hy1076];with_reducible exact H)|(have H2_:=(Option.bind_some _ _).symm.trans H;rw[hy1076];with_reducible exact H2_)|(have H2_:=(Option.bind_some _ _).symm.trans H;with_reducible exact H2_)|with_reducible exact H|(rw[hy1076];exact H)|exact H
       have Ny1076:=Aside0.mk hy1076
       clear hy1076
       replace H:=Option.bind_eq_some_iff.mp H
       obtain⟨t1080,A260,H⟩:=H
       replace H:(if(t1080 == (decide ((t1059.length:Int)<6)))=true then((impl_TripsMay.f kj7 t1059 4 (1+((l1.length:Int)%6)) y1076).bind fun t1081=>(some (t1081 == ((1+((l1.length:Int)%6)) == (wrap64 ((t1059.length:Int)+1)))))) else(some false))=some r:=H
       have A26:=Aside0.mk A260
       clear A260
       by_cases c27:(t1080 == (decide ((t1059.length:Int)<6)))=true
       ·rw[if_pos c27] at H
        have c27b0:(t1080 == (decide ((t1059.length:Int)<6)))=true:=c27
        (try(have c27b1:decide (t1080=(decide ((t1059.length:Int)<6)))=true:=by simpa using c27))
        (try(have c27b2:(t1080 == (decide ((t1059.length:Int)<6)))=true:=by simpa using c27))
        clear c27
        replace H:=Option.bind_eq_some_iff.mp H
        obtain⟨t1081,A280,H⟩:=H
        replace H:(some (t1081 == ((1+((l1.length:Int)%6)) == (wrap64 ((t1059.length:Int)+1)))))=some r:=H
        have A28:=Aside0.mk A280
        clear A280
        obtain rfl:=Option.some.inj H
        try go_wp2_with(first|((with_reducible refine qah (N:=46) rfl ?_);(try(refine qaq (by rfl) ?_;dsimp only));refine Kd.R_lit (Kd.int .i64) _ 3 (by rfl) (N:=46) (by rfl) (xs:=([1,1,1]:List Int)) (inner:=[.int .i64 1,.int .i64 1,.int .i64 1]) (ok:=fun _=>True) (okp:=fun _=>True) (by first|(go_simp;done)|(go_simp;rfl)) ?hp (fun _ hk=>hk) trivial (Below.refl _ _) (Nat.le_refl _) (by simp) ?_;(case hp=>exact(Reps.one (show Kd.M (Kd.int .i64) _ _ _ 1 [.int .i64 1] from rfl) (Reps.one (show Kd.M (Kd.int .i64) _ _ _ 1 [.int .i64 1] from rfl) (Reps.one (show Kd.M (Kd.int .i64) _ _ _ 1 [.int .i64 1] from rfl) (Reps.none _ _)))));intro v1073 w29 ho30 hb hg_ hnew_;clear hg_ hnew_;(first|rw[←Ny1072.out] at ho30|(simp only[Int.reduceToNat] at ho30;rw[←Ny1072.out] at ho30));replace HO_5:=Aside0.mk (Kd.N_elder' (za11 HO_5) (Kd.R_base ho30) hb);replace HO_1068002:=Aside0.mk (Kd.V_elder' (za19 HO_1068002) (Kd.R_base ho30) hb);have HO1074:=Aside0.mk (Kd.R_lower ho30 (below_size (za0 HB GE1067)));replace BK1067:=Aside0.mk (qaa (zB BK1067) hb);replace HB:=Aside0.mk (qab (za0 HB GE1067) hb);clear hb ho30;obtain⟨Ao31,co31,eo31⟩:=Kd.R_slice HO1074.out;subst eo31)|((with_reducible refine qah (N:=9) rfl ?_);(try(refine qaq (by rfl) ?_;dsimp only));refine zX (N:=9) (cs:=#[.int .i64 0,.int .i64 0,.slice none 0 0]) (t:=62) ?_;intro gb1075 hg w32 hbox hb;replace HO_5:=Aside0.mk (Kd.N_below (Kd.N_elderB (za11 HO_5) gb1075 (Nat.le_of_eq hg.symm)) hb);replace HO_1068002:=Aside0.mk (Kd.V_below (Kd.V_elderB (za19 HO_1068002) gb1075 (Nat.le_of_eq hg.symm)) hb);replace HO1074:=Aside0.mk (Kd.R_below (za3 HO1074) hb);have BK1075:=Aside0.mk hbox;have GW1075:=zH (w:=w) hg (za0 HB GE1067);have GE1075:=GW1075;replace HB:=Aside0.mk (qab (za0 HB GE1067) hb);have NB1067_1075:=zL BK1067 hg;have NB1075_1067:=zG BK1067 hg;replace BK1067:=Aside0.mk (qaa (zB BK1067) hb);clear hb hbox hg;have hnb33:=NB1075_1067.out;have hnc33:=NB1067_1075.out;obtain⟨hcz34_0,hcz34_1,hcz34_2,hfz34_0,hfz34_1,hfz34_2⟩:=zC3 BK1075)|((with_reducible refine qah (N:=52) rfl ?_);(try(refine qaq (by rfl) ?_;dsimp only));refine Kd.R_lit (Kd.int .i64) _ 3 (by rfl) (N:=52) (by rfl) (xs:=([1,1,1]:List Int)) (inner:=[.int .i64 1,.int .i64 1,.int .i64 1]) (ok:=fun _=>True) (okp:=fun _=>True) (by first|(go_simp;done)|(go_simp;rfl)) ?hp (fun _ hk=>hk) trivial (Below.refl _ _) (Nat.le_refl _) (by simp) ?_;(case hp=>exact(Reps.one (show Kd.M (Kd.int .i64) _ _ _ 1 [.int .i64 1] from rfl) (Reps.one (show Kd.M (Kd.int .i64) _ _ _ 1 [.int .i64 1] from rfl) (Reps.one (show Kd.M (Kd.int .i64) _ _ _ 1 [.int .i64 1] from rfl) (Reps.none _ _)))));intro v1077 w35 ho36 hb hg_ hnew_;clear hg_ hnew_;(first|rw[←Ny1076.out] at ho36|(simp only[Int.reduceToNat] at ho36;rw[←Ny1076.out] at ho36));replace HO_5:=Aside0.mk (Kd.N_elder' (by(with_reducible repeat(first|apply Kd.N_alloc|apply Kd.N_drewN|apply Kd.N_drew));exact(Kd.N_mono (Kd.N_far (p:=⟨gb1075,2,none⟩) (Kd.N_far (p:=⟨gb1075,1,none⟩) (Kd.N_far (p:=⟨gb1075,0,none⟩) (Kd.N_mono HO_5.out (fun k_ hk=>(⟨hk,hk.2⟩:_∧k_≠gb1075))) (fun _ hk=>hk.2) (.int .i64 4)) (fun _ hk=>hk.2) (.int .i64 (wrap64 ((t1059.length:Int)+1)))) (fun _ hk=>hk.2) (.slice Ao31 y1072.length co31)) (fun _ h_=>h_.1))) (Kd.R_base ho36) hb);replace HO_1068002:=Aside0.mk (Kd.V_elder' (by(with_reducible repeat(first|apply Kd.V_alloc|apply Kd.V_drewN|apply Kd.V_drew));exact(Kd.V_mono (Kd.V_far (p:=⟨gb1075,2,none⟩) (Kd.V_far (p:=⟨gb1075,1,none⟩) (Kd.V_far (p:=⟨gb1075,0,none⟩) (Kd.V_mono HO_1068002.out (fun k_ hk=>(⟨hk,hk.2⟩:_∧k_≠gb1075))) (fun _ hk=>hk.2) (.int .i64 4)) (fun _ hk=>hk.2) (.int .i64 (wrap64 ((t1059.length:Int)+1)))) (fun _ hk=>hk.2) (.slice Ao31 y1072.length co31)) (fun _ h_=>h_.1))) (Kd.R_base ho36) hb);have HO1078:=Aside0.mk (Kd.R_lower (Kd.R_new' ho36 (Kd.R_lt (by(with_reducible repeat(first|apply Kd.R_alloc|apply Kd.R_drewN|apply Kd.R_drew));exact(Kd.R_mono (Kd.R_far (p:=⟨gb1075,2,none⟩) (Kd.R_far (p:=⟨gb1075,1,none⟩) (Kd.R_far (p:=⟨gb1075,0,none⟩) (Kd.R_types HO1074.out BK1075.out (by decide)) (fun _ hk=>hk.2) (.int .i64 4)) (fun _ hk=>hk.2) (.int .i64 (wrap64 ((t1059.length:Int)+1)))) (fun _ hk=>hk.2) (.slice Ao31 y1072.length co31)) (fun _ h_=>h_.1))))) (below_size (za2 HB GE1067 GE1075)));replace HO1074:=Aside0.mk (Kd.R_elder' (by(with_reducible repeat(first|apply Kd.R_alloc|apply Kd.R_drewN|apply Kd.R_drew));exact(Kd.R_mono (Kd.R_far (p:=⟨gb1075,2,none⟩) (Kd.R_far (p:=⟨gb1075,1,none⟩) (Kd.R_far (p:=⟨gb1075,0,none⟩) (Kd.R_types HO1074.out BK1075.out (by decide)) (fun _ hk=>hk.2) (.int .i64 4)) (fun _ hk=>hk.2) (.int .i64 (wrap64 ((t1059.length:Int)+1)))) (fun _ hk=>hk.2) (.slice Ao31 y1072.length co31)) (fun _ h_=>h_.1))) (Kd.R_base ho36) hb);replace BK1067:=Aside0.mk (qaa (g:=gb1067) (o:=.cells #[.int .i64 t1062,.int .i64 t1063,.slice Ao12 t1064.length co12] 62 (0,0)) (za6 NB1067_1075 BK1067) hb);replace BK1075:=Aside0.mk (qaa (g:=gb1075) (o:=.cells #[.int .i64 4,.int .i64 (wrap64 ((t1059.length:Int)+1)),.slice Ao31 y1072.length co31] 62 (0,0)) (by(with_reducible repeat(first|refine blk_drewN ?_ _|refine blk_drew ?_|refine blk_alloc ?_ _));refine qai (cs:=#[.int .i64 4,.int .i64 (wrap64 ((t1059.length:Int)+1)),.slice none 0 0]) ?_ 2 _ rfl;(with_reducible repeat(first|refine blk_drewN ?_ _|refine blk_drew ?_|refine blk_alloc ?_ _));refine qai (cs:=#[.int .i64 4,.int .i64 0,.slice none 0 0]) ?_ 1 _ rfl;(with_reducible repeat(first|refine blk_drewN ?_ _|refine blk_drew ?_|refine blk_alloc ?_ _));refine qai (cs:=#[.int .i64 0,.int .i64 0,.slice none 0 0]) ?_ 0 _ rfl;(with_reducible repeat(first|refine blk_drewN ?_ _|refine blk_drew ?_|refine blk_alloc ?_ _));exact BK1075.out) hb);replace HB:=Aside0.mk (qab (za2 HB GE1067 GE1075) hb);clear hb ho36;obtain⟨Ao37,co37,eo37⟩:=Kd.R_slice HO1078.out;subst eo37)|((with_reducible refine qah (N:=10) rfl ?_);(try(refine qaq (by rfl) ?_;dsimp only));refine zX (N:=10) (cs:=#[.int .i64 0,.int .i64 0,.slice none 0 0]) (t:=62) ?_;intro gb1079 hg w38 hbox hb;replace HO_5:=Aside0.mk (Kd.N_below (Kd.N_elderB (za11 HO_5) gb1079 (Nat.le_of_eq hg.symm)) hb);replace HO_1068002:=Aside0.mk (Kd.V_below (Kd.V_elderB (za19 HO_1068002) gb1079 (Nat.le_of_eq hg.symm)) hb);replace HO1074:=Aside0.mk (Kd.R_below (za3 HO1074) hb);replace HO1078:=Aside0.mk (Kd.R_below (za3 HO1078) hb);have BK1079:=Aside0.mk hbox;have GW1079:=zH (w:=w) hg (za2 HB GE1067 GE1075);have GE1079:=GW1079;replace HB:=Aside0.mk (qab (za2 HB GE1067 GE1075) hb);have NB1067_1079:=zL BK1067 hg;have NB1079_1067:=zG BK1067 hg;replace BK1067:=Aside0.mk (qaa (zB BK1067) hb);have NB1075_1079:=zL BK1075 hg;have NB1079_1075:=zG BK1075 hg;replace BK1075:=Aside0.mk (qaa (zB BK1075) hb);clear hb hbox hg;have hnb39:=NB1079_1067.out;have hnc39:=NB1067_1079.out;have hnb40:=NB1079_1075.out;have hnc40:=NB1075_1079.out;obtain⟨hcz41_0,hcz41_1,hcz41_2,hfz41_0,hfz41_1,hfz41_2⟩:=zC3 BK1079))
        have n0_:Aside0 (Kd.N k73 73 (((w38.setCell ⟨gb1079,0,none⟩ (.int .i64 4)).setCell ⟨gb1079,1,none⟩ (.int .i64 (1+((l1.length:Int)%6)))).setCell ⟨gb1079,2,none⟩ (.slice Ao37 y1076.length co37)) w.heap.size (fun k_=>some k_≠(.slice Ao31 y1072.length co31:Value).ownBlock∧some k_≠(.slice Ao37 y1076.length co37:Value).ownBlock∧k_≠gb1067∧k_≠gb1075∧k_≠gb1079) (.slice Ao13 t1059.length co13) t1059):=⟨by(with_reducible repeat(first|apply Kd.N_alloc|apply Kd.N_drewN|apply Kd.N_drew));exact Kd.N_mono (Kd.N_far (p:=⟨gb1079,2,none⟩) (Kd.N_far (p:=⟨gb1079,1,none⟩) (Kd.N_far (p:=⟨gb1079,0,none⟩) (Kd.N_mono HO_5.out (fun k_ hk=>(⟨hk,hk.2⟩:_∧k_≠gb1079))) (fun _ hk=>hk.2) (.int .i64 4)) (fun _ hk=>hk.2) (.int .i64 (1+((l1.length:Int)%6)))) (fun _ hk=>hk.2) (.slice Ao37 y1076.length co37)) (fun _ hk=>⟨hk.1.1.1.1.2,⟨hk.1.1.2,⟨hk.1.1.1.1.1,⟨hk.1.1.1.2,hk.1.2⟩⟩⟩⟩)⟩
        have n1_:Aside0 (Kd.V (Kd.int .i64) 3 (((w38.setCell ⟨gb1079,0,none⟩ (.int .i64 4)).setCell ⟨gb1079,1,none⟩ (.int .i64 (1+((l1.length:Int)%6)))).setCell ⟨gb1079,2,none⟩ (.slice Ao37 y1076.length co37)) w.heap.size (fun k_=>some k_≠(.slice Ao13 t1059.length co13:Value).ownBlock∧some k_≠(.slice Ao31 y1072.length co31:Value).ownBlock∧some k_≠(.slice Ao37 y1076.length co37:Value).ownBlock∧k_≠gb1067∧k_≠gb1075∧k_≠gb1079) (.slice Ao12 t1064.length co12) t1064):=⟨by(with_reducible repeat(first|apply Kd.V_alloc|apply Kd.V_drewN|apply Kd.V_drew));exact Kd.V_mono (Kd.V_far (p:=⟨gb1079,2,none⟩) (Kd.V_far (p:=⟨gb1079,1,none⟩) (Kd.V_far (p:=⟨gb1079,0,none⟩) (Kd.V_mono HO_1068002.out (fun k_ hk=>(⟨hk,hk.2⟩:_∧k_≠gb1079))) (fun _ hk=>hk.2) (.int .i64 4)) (fun _ hk=>hk.2) (.int .i64 (1+((l1.length:Int)%6)))) (fun _ hk=>hk.2) (.slice Ao37 y1076.length co37)) (fun _ hk=>⟨hk.1.1.1.1.1.1,⟨hk.1.1.1.1.2,⟨hk.1.1.2,⟨hk.1.1.1.1.1.2,⟨hk.1.1.1.2,hk.1.2⟩⟩⟩⟩⟩)⟩
        have n2_:Aside0 (Kd.R (Kd.int .i64) 3 (((w38.setCell ⟨gb1079,0,none⟩ (.int .i64 4)).setCell ⟨gb1079,1,none⟩ (.int .i64 (1+((l1.length:Int)%6)))).setCell ⟨gb1079,2,none⟩ (.slice Ao37 y1076.length co37)) w.heap.size (fun k_=>some k_≠(.slice Ao37 y1076.length co37:Value).ownBlock) (.slice Ao31 y1072.length co31) y1072):=⟨by(with_reducible repeat(first|apply Kd.R_alloc|apply Kd.R_drewN|apply Kd.R_drew));exact Kd.R_mono (Kd.R_far (p:=⟨gb1079,2,none⟩) (Kd.R_far (p:=⟨gb1079,1,none⟩) (Kd.R_far (p:=⟨gb1079,0,none⟩) (Kd.R_types HO1074.out BK1079.out (by decide)) (fun _ hk=>hk.2) (.int .i64 4)) (fun _ hk=>hk.2) (.int .i64 (1+((l1.length:Int)%6)))) (fun _ hk=>hk.2) (.slice Ao37 y1076.length co37)) (fun _ hk=>hk.1.2)⟩
        have n3_:Aside0 (Kd.R (Kd.int .i64) 3 (((w38.setCell ⟨gb1079,0,none⟩ (.int .i64 4)).setCell ⟨gb1079,1,none⟩ (.int .i64 (1+((l1.length:Int)%6)))).setCell ⟨gb1079,2,none⟩ (.slice Ao37 y1076.length co37)) w.heap.size (fun k_=>some k_≠(.slice Ao31 y1072.length co31:Value).ownBlock) (.slice Ao37 y1076.length co37) y1076):=⟨by(with_reducible repeat(first|apply Kd.R_alloc|apply Kd.R_drewN|apply Kd.R_drew));exact Kd.R_mono (Kd.R_far (p:=⟨gb1079,2,none⟩) (Kd.R_far (p:=⟨gb1079,1,none⟩) (Kd.R_far (p:=⟨gb1079,0,none⟩) (Kd.R_types HO1078.out BK1079.out (by decide)) (fun _ hk=>hk.2) (.int .i64 4)) (fun _ hk=>hk.2) (.int .i64 (1+((l1.length:Int)%6)))) (fun _ hk=>hk.2) (.slice Ao37 y1076.length co37)) (fun _ hk=>hk.1.2)⟩
        have n4_:Aside0 ((((w38.setCell ⟨gb1079,0,none⟩ (.int .i64 4)).setCell ⟨gb1079,1,none⟩ (.int .i64 (1+((l1.length:Int)%6)))).setCell ⟨gb1079,2,none⟩ (.slice Ao37 y1076.length co37)).heap[gb1067]?=some (.cells #[.int .i64 t1062,.int .i64 t1063,.slice Ao12 t1064.length co12] 62 (0,0))):=⟨za6 NB1067_1079 BK1067⟩
        have n5_:Aside0 ((((w38.setCell ⟨gb1079,0,none⟩ (.int .i64 4)).setCell ⟨gb1079,1,none⟩ (.int .i64 (1+((l1.length:Int)%6)))).setCell ⟨gb1079,2,none⟩ (.slice Ao37 y1076.length co37)).heap[gb1075]?=some (.cells #[.int .i64 4,.int .i64 (wrap64 ((t1059.length:Int)+1)),.slice Ao31 y1072.length co31] 62 (0,0))):=⟨za6 NB1075_1079 BK1075⟩
        have n6_:Aside0 ((((w38.setCell ⟨gb1079,0,none⟩ (.int .i64 4)).setCell ⟨gb1079,1,none⟩ (.int .i64 (1+((l1.length:Int)%6)))).setCell ⟨gb1079,2,none⟩ (.slice Ao37 y1076.length co37)).heap[gb1079]?=some (.cells #[.int .i64 4,.int .i64 (1+((l1.length:Int)%6)),.slice Ao37 y1076.length co37] 62 (0,0))):=⟨by(with_reducible repeat(first|refine blk_drewN ?_ _|refine blk_drew ?_|refine blk_alloc ?_ _));refine qai (cs:=#[.int .i64 4,.int .i64 (1+((l1.length:Int)%6)),.slice none 0 0]) ?_ 2 _ rfl;(with_reducible repeat(first|refine blk_drewN ?_ _|refine blk_drew ?_|refine blk_alloc ?_ _));refine qai (cs:=#[.int .i64 4,.int .i64 0,.slice none 0 0]) ?_ 1 _ rfl;(with_reducible repeat(first|refine blk_drewN ?_ _|refine blk_drew ?_|refine blk_alloc ?_ _));refine qai (cs:=#[.int .i64 0,.int .i64 0,.slice none 0 0]) ?_ 0 _ rfl;(with_reducible repeat(first|refine blk_drewN ?_ _|refine blk_drew ?_|refine blk_alloc ?_ _));exact BK1079.out⟩
        have n7_:Aside0 (Below w.heap.size w (((w38.setCell ⟨gb1079,0,none⟩ (.int .i64 4)).setCell ⟨gb1079,1,none⟩ (.int .i64 (1+((l1.length:Int)%6)))).setCell ⟨gb1079,2,none⟩ (.slice Ao37 y1076.length co37))):=⟨za7 HB GE1067 GE1075 GE1079⟩
        (try clear HO_5)
        (try clear HO_1068002)
        (try clear HO1074)
        (try clear HO1078)
        (try clear BK1067)
        (try clear BK1075)
        (try clear BK1079)
        (try clear HB)
        generalize (((w38.setCell ⟨gb1079,0,none⟩ (.int .i64 4)).setCell ⟨gb1079,1,none⟩ (.int .i64 (1+((l1.length:Int)%6)))).setCell ⟨gb1079,2,none⟩ (.slice Ao37 y1076.length co37))=w42 at n0_ n1_ n2_ n3_ n4_ n5_ n6_ n7_ ⊢
        have HO_5:=n0_
        have HO_1068002:=n1_
        have HO1074:=n2_
        have HO1078:=n3_
        have BK1067:=n4_
        have BK1075:=n5_
        have BK1079:=n6_
        have HB:=n7_
        clear n0_ n1_ n2_ n3_ n4_ n5_ n6_ n7_
        replace HO_5:=Aside0.mk (Kd.N_drew HO_5.out)
        replace HO_1068002:=Aside0.mk (Kd.V_drew HO_1068002.out)
        replace HO1074:=Aside0.mk (Kd.R_drew HO1074.out)
        replace HO1078:=Aside0.mk (Kd.R_drew HO1078.out)
        replace BK1067:=Aside0.mk (blk_drew BK1067.out)
        replace BK1075:=Aside0.mk (blk_drew BK1075.out)
        replace BK1079:=Aside0.mk (blk_drew BK1079.out)
        replace HB:=Aside0.mk (qae HB.out)
        refine start_ (n:=18) (S:=fun w'=>w'.cell? ⟨gb1075,0,none⟩=some (.int .i64 4)∧w'.cell? ⟨gb1075,1,none⟩=some (.int .i64 (wrap64 ((t1059.length:Int)+1)))∧w'.cell? ⟨gb1075,2,none⟩=some (.slice Ao31 y1072.length co31)∧w'.cell? ⟨gb1079,0,none⟩=some (.int .i64 4)∧w'.cell? ⟨gb1079,1,none⟩=some (.int .i64 (1+((l1.length:Int)%6)))∧w'.cell? ⟨gb1079,2,none⟩=some (.slice Ao37 y1076.length co37)) (ds:=[]) #[false,false,false,false,false,false,false,false,false,false,false,false,false,false,false,false,false,false] (by kernel_rfl) rfl rfl ⟨(blk_cell BK1075.out 0).trans rfl,(blk_cell BK1075.out 1).trans rfl,(blk_cell BK1075.out 2).trans rfl,(blk_cell BK1079.out 0).trans rfl,(blk_cell BK1079.out 1).trans rfl,(blk_cell BK1079.out 2).trans rfl⟩ (fun hHeld=>?_);refine with_tabW laws_FnTripsBegin.tab10 laws_FnTripsBegin.bits10 (fun HT_ HW_=>?_)
        generalize w42.drew=w43 at HO_5 HO_1068002 HO1074 HO1078 BK1067 BK1075 BK1079 HB hHeld ⊢
        refine qar (i:=0) (N:=some 54) (v:=?_) (a':=?_) #[true,false,false,false,false,false,false,false,false,false,false,false,false,false,false,false,false,false] rfl rfl (qan HT_.out (by kernel_rfl)) (fun _ _ _ h=>h) (Or.inl ⟨by rfl,?_⟩) ?_ ?_
        rotate_left
        ·intro w'
         go_simp
         with_reducible rfl
        rotate_left
        ·simp only[Act.put,List.setIfInBounds_toArray,List.set_cons_zero,List.set_cons_succ,qaj,qak]
         rfl
        refine qar (i:=3) (N:=some 57) (v:=?_) (a':=?_) #[true,false,false,true,false,false,false,false,false,false,false,false,false,false,false,false,false,false] rfl rfl (qan HT_.out (by kernel_rfl)) (fun _ _ _ h=>h) (Or.inl ⟨by rfl,?_⟩) ?_ ?_
        rotate_left
        ·intro w'
         go_simp
         with_reducible rfl
        rotate_left
        ·simp only[Act.put,List.setIfInBounds_toArray,List.set_cons_zero,List.set_cons_succ,qaj,qak]
         rfl
        refine qar (i:=4) (N:=some 58) (v:=?_) (a':=?_) #[true,false,false,true,true,false,false,false,false,false,false,false,false,false,false,false,false,false] rfl rfl (qan HT_.out (by kernel_rfl)) (fun _ _ _ h=>h) (Or.inl ⟨by rfl,?_⟩) ?_ ?_
        rotate_left
        ·intro w'
         go_simp
         with_reducible rfl
        rotate_left
        ·simp only[Act.put,List.setIfInBounds_toArray,List.set_cons_zero,List.set_cons_succ,qaj,qak]
         rfl
        refine take_ (i:=1) (N:=some 55) (v:=?_) (a':=?_) #[true,true,false,true,true,false,false,false,false,false,false,false,false,false,false,false,false,false] rfl rfl (take_ofW HT_.out HW_.out (by kernel_rfl)) (fun _ _ _ h=>h) (Or.inl ⟨by rfl,?_⟩) hHeld ?_ ?_
        rotate_left
        ·rintro w' ⟨s0,s1,s2,s3,s4,s5⟩
         go_simp
         with_reducible rfl
        rotate_left
        ·simp only[Act.put,List.setIfInBounds_toArray,List.set_cons_zero,List.set_cons_succ,qaj,qak]
         rfl
        refine one_ (i:=2) (N:=some 56) #[true,true,true,true,true,false,false,false,false,false,false,false,false,false,false,false,false,false] rfl rfl (one_of HT_.out (by kernel_rfl)) (by decide) (fun K hK=>?_)
        refine goes_ Try.func51 (by kernel_rfl) rfl #[.slice Ao13 t1059.length co13,.agg #[.int .i64 4,.int .i64 (wrap64 ((t1059.length:Int)+1)),.slice Ao31 y1072.length co31]] (by rfl) rfl rfl (by(try simp only[List.map_toArray,List.map_cons,List.map_nil]);first|done|rfl|(simp only[List.length_drop,List.length_take];rfl)) ?_
        with_reducible refine(impl_TripsMay.calls kj7 _ _ t1059 4 (wrap64 ((t1059.length:Int)+1)) _ _ y1072 t1080 _ ?side1 ?side2 ?side3 ?side4 A26.out).mono ?_
        (case side1=>repeat(first|exact(Kd.N_reads' HO_5.out).2.2|(with_reducible refine Kd.C_alloc ?_ _)|(with_reducible refine Kd.C_drewN ?_ _)|(with_reducible refine Kd.C_drew ?_)))
        (case side2=>exact(Kd.N_reads' HO_5.out).2.1)
        (case side3=>repeat(first|exact(Kd.R_reads' HO1074.out).2.2|(with_reducible refine Kd.C_alloc ?_ _)|(with_reducible refine Kd.C_drewN ?_ _)|(with_reducible refine Kd.C_drew ?_)))
        (case side4=>exact(Kd.R_reads' HO1074.out).2.1)
        rintro e w44 ⟨rfl,hb⟩
        refine⟨_,rfl,?_⟩
        replace HO_5:=Aside0.mk (Kd.N_below (za11 HO_5) hb)
        replace HO_1068002:=Aside0.mk (Kd.V_below (za19 HO_1068002) hb)
        replace HO1074:=Aside0.mk (Kd.R_below (za3 HO1074) hb)
        replace HO1078:=Aside0.mk (Kd.R_below (za3 HO1078) hb)
        replace BK1067:=Aside0.mk (qaa (zB BK1067) hb)
        replace BK1075:=Aside0.mk (qaa (zB BK1075) hb)
        replace BK1079:=Aside0.mk (qaa (zB BK1079) hb)
        replace HB:=Aside0.mk (qab (za7 HB GE1067 GE1075 GE1079) hb)
        (try clear hb)
        (try clear hb2)
        (try clear hk)
        (try clear hi)
        refine hK.out _ _ ⟨(blk_cell BK1075.out 0).trans rfl,(blk_cell BK1075.out 1).trans rfl,(blk_cell BK1075.out 2).trans rfl,(blk_cell BK1079.out 0).trans rfl,(blk_cell BK1079.out 1).trans rfl,(blk_cell BK1079.out 2).trans rfl⟩ (fun hHeld=>?_)
        clear hK K
        refine norm_ (a':=?_) ?_ ?_
        rotate_left
        ·show Act.put _ (some 56) _=_
         simp only[Act.put,List.setIfInBounds_toArray,List.set_cons_zero,List.set_cons_succ,qaj,qak]
         rfl
        refine qar (i:=5) (N:=some 59) (v:=?_) (a':=?_) #[true,true,true,true,true,true,false,false,false,false,false,false,false,false,false,false,false,false] rfl rfl (qan HT_.out (by kernel_rfl)) (fun _ _ _ h=>h) (Or.inl ⟨by rfl,?_⟩) ?_ ?_
        rotate_left
        ·intro w'
         go_simp
         with_reducible rfl
        rotate_left
        ·simp only[Act.put,List.setIfInBounds_toArray,List.set_cons_zero,List.set_cons_succ,qaj,qak]
         rfl
        refine qar (i:=6) (N:=some 60) (v:=?_) (a':=?_) #[true,true,true,true,true,true,true,false,false,false,false,false,false,false,false,false,false,false] rfl rfl (qan HT_.out (by kernel_rfl)) (fun _ _ _ h=>h) (Or.inl ⟨by rfl,?_⟩) ?_ ?_
        rotate_left
        ·intro w'
         go_simp
         with_reducible rfl
        rotate_left
        ·simp only[Act.put,List.setIfInBounds_toArray,List.set_cons_zero,List.set_cons_succ,qaj,qak]
         rfl
        refine qar (i:=7) (N:=some 61) (v:=?_) (a':=?_) #[true,true,true,true,true,true,true,true,false,false,false,false,false,false,false,false,false,false] rfl rfl (qan HT_.out (by kernel_rfl)) (fun _ _ _ h=>h) (Or.inl ⟨by rfl,?_⟩) ?_ ?_
        rotate_left
        ·intro w'
         go_simp
         with_reducible rfl
        rotate_left
        ·simp only[Act.put,List.setIfInBounds_toArray,List.set_cons_zero,List.set_cons_succ,qaj,qak]
         rfl
        refine qar (i:=10) (N:=some 64) (v:=?_) (a':=?_) #[true,true,true,true,true,true,true,true,false,false,true,false,false,false,false,false,false,false] rfl rfl (qan HT_.out (by kernel_rfl)) (fun _ _ _ h=>h) (Or.inl ⟨by rfl,?_⟩) ?_ ?_
        rotate_left
        ·intro w'
         go_simp
         with_reducible rfl
        rotate_left
        ·simp only[Act.put,List.setIfInBounds_toArray,List.set_cons_zero,List.set_cons_succ,qaj,qak]
         rfl
        refine qar (i:=12) (N:=some 66) (v:=?_) (a':=?_) #[true,true,true,true,true,true,true,true,false,false,true,false,true,false,false,false,false,false] rfl rfl (qan HT_.out (by kernel_rfl)) (fun _ _ _ h=>h) (Or.inl ⟨by rfl,?_⟩) ?_ ?_
        rotate_left
        ·intro w'
         go_simp
         with_reducible rfl
        rotate_left
        ·simp only[Act.put,List.setIfInBounds_toArray,List.set_cons_zero,List.set_cons_succ,qaj,qak]
         rfl
        refine qar (i:=13) (N:=some 67) (v:=?_) (a':=?_) #[true,true,true,true,true,true,true,true,false,false,true,false,true,true,false,false,false,false] rfl rfl (qan HT_.out (by kernel_rfl)) (fun _ _ _ h=>h) (Or.inl ⟨by rfl,?_⟩) ?_ ?_
        rotate_left
        ·intro w'
         go_simp
         with_reducible rfl
        rotate_left
        ·simp only[Act.put,List.setIfInBounds_toArray,List.set_cons_zero,List.set_cons_succ,qaj,qak]
         rfl
        refine take_ (i:=8) (N:=some 62) (v:=?_) (a':=?_) #[true,true,true,true,true,true,true,true,true,false,true,false,true,true,false,false,false,false] rfl rfl (take_ofW HT_.out HW_.out (by kernel_rfl)) (fun _ _ _ h=>h) (Or.inl ⟨by rfl,?_⟩) hHeld ?_ ?_
        rotate_left
        ·rintro w' ⟨s0,s1,s2,s3,s4,s5⟩
         go_simp
         with_reducible rfl
        rotate_left
        ·simp only[Act.put,List.setIfInBounds_toArray,List.set_cons_zero,List.set_cons_succ,qaj,qak]
         rfl
        refine take_ (i:=11) (N:=some 65) (v:=?_) (a':=?_) #[true,true,true,true,true,true,true,true,true,false,true,true,true,true,false,false,false,false] rfl rfl (take_ofW HT_.out HW_.out (by kernel_rfl)) (fun _ _ _ h=>h) (Or.inl ⟨by rfl,?_⟩) hHeld ?_ ?_
        rotate_left
        ·rintro w' ⟨s0,s1,s2,s3,s4,s5⟩
         go_simp
         with_reducible rfl
        rotate_left
        ·simp only[Act.put,List.setIfInBounds_toArray,List.set_cons_zero,List.set_cons_succ,qaj,qak]
         rfl
        refine qar (i:=14) (N:=some 68) (v:=?_) (a':=?_) #[true,true,true,true,true,true,true,true,true,false,true,true,true,true,true,false,false,false] rfl rfl (qan HT_.out (by kernel_rfl)) (fun _ _ _ h=>h) (Or.inl ⟨by rfl,?_⟩) ?_ ?_
        rotate_left
        ·intro w'
         go_simp
         with_reducible rfl
        rotate_left
        ·simp only[Act.put,List.setIfInBounds_toArray,List.set_cons_zero,List.set_cons_succ,qaj,qak]
         rfl
        refine one_ (i:=9) (N:=some 63) #[true,true,true,true,true,true,true,true,true,true,true,true,true,true,true,false,false,false] rfl rfl (one_of HT_.out (by kernel_rfl)) (by decide) (fun K hK=>?_)
        refine goes_ Try.func51 (by kernel_rfl) rfl #[.slice Ao13 t1059.length co13,.agg #[.int .i64 4,.int .i64 (1+((l1.length:Int)%6)),.slice Ao37 y1076.length co37]] (by rfl) rfl rfl (by(try simp only[List.map_toArray,List.map_cons,List.map_nil]);first|done|rfl|(simp only[List.length_drop,List.length_take];rfl)) ?_
        with_reducible refine(impl_TripsMay.calls kj7 _ _ t1059 4 (1+((l1.length:Int)%6)) _ _ y1076 t1081 _ ?side1 ?side2 ?side3 ?side4 A28.out).mono ?_
        (case side1=>repeat(first|exact(Kd.N_reads' HO_5.out).2.2|(with_reducible refine Kd.C_alloc ?_ _)|(with_reducible refine Kd.C_drewN ?_ _)|(with_reducible refine Kd.C_drew ?_)))
        (case side2=>exact(Kd.N_reads' HO_5.out).2.1)
        (case side3=>repeat(first|exact(Kd.R_reads' HO1078.out).2.2|(with_reducible refine Kd.C_alloc ?_ _)|(with_reducible refine Kd.C_drewN ?_ _)|(with_reducible refine Kd.C_drew ?_)))
        (case side4=>exact(Kd.R_reads' HO1078.out).2.1)
        rintro e w45 ⟨rfl,hb⟩
        refine⟨_,rfl,?_⟩
        replace HO_5:=Aside0.mk (Kd.N_below (za11 HO_5) hb)
        replace HO_1068002:=Aside0.mk (Kd.V_below (za19 HO_1068002) hb)
        replace HO1074:=Aside0.mk (Kd.R_below (za3 HO1074) hb)
        replace HO1078:=Aside0.mk (Kd.R_below (za3 HO1078) hb)
        replace BK1067:=Aside0.mk (qaa (zB BK1067) hb)
        replace BK1075:=Aside0.mk (qaa (zB BK1075) hb)
        replace BK1079:=Aside0.mk (qaa (zB BK1079) hb)
        replace HB:=Aside0.mk (qab (za7 HB GE1067 GE1075 GE1079) hb)
        (try clear hb)
        (try clear hb2)
        (try clear hk)
        (try clear hi)
        refine hK.out _ _ ⟨(blk_cell BK1075.out 0).trans rfl,(blk_cell BK1075.out 1).trans rfl,(blk_cell BK1075.out 2).trans rfl,(blk_cell BK1079.out 0).trans rfl,(blk_cell BK1079.out 1).trans rfl,(blk_cell BK1079.out 2).trans rfl⟩ (fun hHeld=>?_)
        clear hK K
        refine norm_ (a':=?_) ?_ ?_
        rotate_left
        ·show Act.put _ (some 63) _=_
         simp only[Act.put,List.setIfInBounds_toArray,List.set_cons_zero,List.set_cons_succ,qaj,qak]
         rfl
        refine qar (i:=15) (N:=some 69) (v:=?_) (a':=?_) #[true,true,true,true,true,true,true,true,true,true,true,true,true,true,true,true,false,false] rfl rfl (qan HT_.out (by kernel_rfl)) (fun _ _ _ h=>h) (Or.inl ⟨by rfl,?_⟩) ?_ ?_
        rotate_left
        ·intro w'
         go_simp
         with_reducible rfl
        rotate_left
        ·simp only[Act.put,List.setIfInBounds_toArray,List.set_cons_zero,List.set_cons_succ,qaj,qak]
         rfl
        refine qar (i:=16) (N:=some 70) (v:=?_) (a':=?_) #[true,true,true,true,true,true,true,true,true,true,true,true,true,true,true,true,true,false] rfl rfl (qan HT_.out (by kernel_rfl)) (fun _ _ _ h=>h) (Or.inl ⟨by rfl,?_⟩) ?_ ?_
        rotate_left
        ·intro w'
         go_simp
         with_reducible rfl
        rotate_left
        ·simp only[Act.put,List.setIfInBounds_toArray,List.set_cons_zero,List.set_cons_succ,qaj,qak]
         rfl
        refine qar (i:=17) (N:=some 4) (v:=?_) (a':=?_) #[true,true,true,true,true,true,true,true,true,true,true,true,true,true,true,true,true,true] rfl rfl (qan HT_.out (by kernel_rfl)) (fun _ _ _ h=>h) (Or.inl ⟨by rfl,?_⟩) ?_ ?_
        rotate_left
        ·intro w'
         go_simp
         with_reducible rfl
        rotate_left
        ·simp only[Act.put,List.setIfInBounds_toArray,List.set_cons_zero,List.set_cons_succ,qaj,qak]
         rfl
        refine done_ (done_of HT_.out (by kernel_rfl)) ?_
        try go_wp2
        go_ret
        exact⟨za9,za7 HB GE1067 GE1075 GE1079⟩
       ·rw[if_neg c27] at H
        have c27b0:(t1080 == (decide ((t1059.length:Int)<6)))=false:=by simpa using c27
        (try(have c27b1:decide (t1080=(decide ((t1059.length:Int)<6)))=false:=by simpa using c27))
        (try(have c27b2:(t1080 == (decide ((t1059.length:Int)<6)))=false:=by simpa using c27))
        (try(have c27b3:¬(t1080=(decide ((t1059.length:Int)<6))):=by simpa using c27))
        clear c27
        obtain rfl:=Option.some.inj H
        try go_wp2_with(first|((with_reducible refine qah (N:=46) rfl ?_);(try(refine qaq (by rfl) ?_;dsimp only));refine Kd.R_lit (Kd.int .i64) _ 3 (by rfl) (N:=46) (by rfl) (xs:=([1,1,1]:List Int)) (inner:=[.int .i64 1,.int .i64 1,.int .i64 1]) (ok:=fun _=>True) (okp:=fun _=>True) (by first|(go_simp;done)|(go_simp;rfl)) ?hp (fun _ hk=>hk) trivial (Below.refl _ _) (Nat.le_refl _) (by simp) ?_;(case hp=>exact(Reps.one (show Kd.M (Kd.int .i64) _ _ _ 1 [.int .i64 1] from rfl) (Reps.one (show Kd.M (Kd.int .i64) _ _ _ 1 [.int .i64 1] from rfl) (Reps.one (show Kd.M (Kd.int .i64) _ _ _ 1 [.int .i64 1] from rfl) (Reps.none _ _)))));intro v1073 w46 ho47 hb hg_ hnew_;clear hg_ hnew_;(first|rw[←Ny1072.out] at ho47|(simp only[Int.reduceToNat] at ho47;rw[←Ny1072.out] at ho47));replace HO_5:=Aside0.mk (Kd.N_elder' (za11 HO_5) (Kd.R_base ho47) hb);replace HO_1068002:=Aside0.mk (Kd.V_elder' (za19 HO_1068002) (Kd.R_base ho47) hb);have HO1074:=Aside0.mk (Kd.R_lower ho47 (below_size (za0 HB GE1067)));replace BK1067:=Aside0.mk (qaa (zB BK1067) hb);replace HB:=Aside0.mk (qab (za0 HB GE1067) hb);clear hb ho47;obtain⟨Ao48,co48,eo48⟩:=Kd.R_slice HO1074.out;subst eo48)|((with_reducible refine qah (N:=9) rfl ?_);(try(refine qaq (by rfl) ?_;dsimp only));refine zX (N:=9) (cs:=#[.int .i64 0,.int .i64 0,.slice none 0 0]) (t:=62) ?_;intro gb1075 hg w49 hbox hb;replace HO_5:=Aside0.mk (Kd.N_below (Kd.N_elderB (za11 HO_5) gb1075 (Nat.le_of_eq hg.symm)) hb);replace HO_1068002:=Aside0.mk (Kd.V_below (Kd.V_elderB (za19 HO_1068002) gb1075 (Nat.le_of_eq hg.symm)) hb);replace HO1074:=Aside0.mk (Kd.R_below (za3 HO1074) hb);have BK1075:=Aside0.mk hbox;have GW1075:=zH (w:=w) hg (za0 HB GE1067);have GE1075:=GW1075;replace HB:=Aside0.mk (qab (za0 HB GE1067) hb);have NB1067_1075:=zL BK1067 hg;have NB1075_1067:=zG BK1067 hg;replace BK1067:=Aside0.mk (qaa (zB BK1067) hb);clear hb hbox hg;have hnb50:=NB1075_1067.out;have hnc50:=NB1067_1075.out;obtain⟨hcz51_0,hcz51_1,hcz51_2,hfz51_0,hfz51_1,hfz51_2⟩:=zC3 BK1075)|((with_reducible refine qah (N:=52) rfl ?_);(try(refine qaq (by rfl) ?_;dsimp only));refine Kd.R_lit (Kd.int .i64) _ 3 (by rfl) (N:=52) (by rfl) (xs:=([1,1,1]:List Int)) (inner:=[.int .i64 1,.int .i64 1,.int .i64 1]) (ok:=fun _=>True) (okp:=fun _=>True) (by first|(go_simp;done)|(go_simp;rfl)) ?hp (fun _ hk=>hk) trivial (Below.refl _ _) (Nat.le_refl _) (by simp) ?_;(case hp=>exact(Reps.one (show Kd.M (Kd.int .i64) _ _ _ 1 [.int .i64 1] from rfl) (Reps.one (show Kd.M (Kd.int .i64) _ _ _ 1 [.int .i64 1] from rfl) (Reps.one (show Kd.M (Kd.int .i64) _ _ _ 1 [.int .i64 1] from rfl) (Reps.none _ _)))));intro v1077 w52 ho53 hb hg_ hnew_;clear hg_ hnew_;(first|rw[←Ny1076.out] at ho53|(simp only[Int.reduceToNat] at ho53;rw[←Ny1076.out] at ho53));replace HO_5:=Aside0.mk (Kd.N_elder' (by(with_reducible repeat(first|apply Kd.N_alloc|apply Kd.N_drewN|apply Kd.N_drew));exact(Kd.N_mono (Kd.N_far (p:=⟨gb1075,2,none⟩) (Kd.N_far (p:=⟨gb1075,1,none⟩) (Kd.N_far (p:=⟨gb1075,0,none⟩) (Kd.N_mono HO_5.out (fun k_ hk=>(⟨hk,hk.2⟩:_∧k_≠gb1075))) (fun _ hk=>hk.2) (.int .i64 4)) (fun _ hk=>hk.2) (.int .i64 (wrap64 ((t1059.length:Int)+1)))) (fun _ hk=>hk.2) (.slice Ao48 y1072.length co48)) (fun _ h_=>h_.1))) (Kd.R_base ho53) hb);replace HO_1068002:=Aside0.mk (Kd.V_elder' (by(with_reducible repeat(first|apply Kd.V_alloc|apply Kd.V_drewN|apply Kd.V_drew));exact(Kd.V_mono (Kd.V_far (p:=⟨gb1075,2,none⟩) (Kd.V_far (p:=⟨gb1075,1,none⟩) (Kd.V_far (p:=⟨gb1075,0,none⟩) (Kd.V_mono HO_1068002.out (fun k_ hk=>(⟨hk,hk.2⟩:_∧k_≠gb1075))) (fun _ hk=>hk.2) (.int .i64 4)) (fun _ hk=>hk.2) (.int .i64 (wrap64 ((t1059.length:Int)+1)))) (fun _ hk=>hk.2) (.slice Ao48 y1072.length co48)) (fun _ h_=>h_.1))) (Kd.R_base ho53) hb);have HO1078:=Aside0.mk (Kd.R_lower (Kd.R_new' ho53 (Kd.R_lt (by(with_reducible repeat(first|apply Kd.R_alloc|apply Kd.R_drewN|apply Kd.R_drew));exact(Kd.R_mono (Kd.R_far (p:=⟨gb1075,2,none⟩) (Kd.R_far (p:=⟨gb1075,1,none⟩) (Kd.R_far (p:=⟨gb1075,0,none⟩) (Kd.R_types HO1074.out BK1075.out (by decide)) (fun _ hk=>hk.2) (.int .i64 4)) (fun _ hk=>hk.2) (.int .i64 (wrap64 ((t1059.length:Int)+1)))) (fun _ hk=>hk.2) (.slice Ao48 y1072.length co48)) (fun _ h_=>h_.1))))) (below_size (za2 HB GE1067 GE1075)));replace HO1074:=Aside0.mk (Kd.R_elder' (by(with_reducible repeat(first|apply Kd.R_alloc|apply Kd.R_drewN|apply Kd.R_drew));exact(Kd.R_mono (Kd.R_far (p:=⟨gb1075,2,none⟩) (Kd.R_far (p:=⟨gb1075,1,none⟩) (Kd.R_far (p:=⟨gb1075,0,none⟩) (Kd.R_types HO1074.out BK1075.out (by decide)) (fun _ hk=>hk.2) (.int .i64 4)) (fun _ hk=>hk.2) (.int .i64 (wrap64 ((t1059.length:Int)+1)))) (fun _ hk=>hk.2) (.slice Ao48 y1072.length co48)) (fun _ h_=>h_.1))) (Kd.R_base ho53) hb);replace BK1067:=Aside0.mk (qaa (g:=gb1067) (o:=.cells #[.int .i64 t1062,.int .i64 t1063,.slice Ao12 t1064.length co12] 62 (0,0)) (za6 NB1067_1075 BK1067) hb);replace BK1075:=Aside0.mk (qaa (g:=gb1075) (o:=.cells #[.int .i64 4,.int .i64 (wrap64 ((t1059.length:Int)+1)),.slice Ao48 y1072.length co48] 62 (0,0)) (by(with_reducible repeat(first|refine blk_drewN ?_ _|refine blk_drew ?_|refine blk_alloc ?_ _));refine qai (cs:=#[.int .i64 4,.int .i64 (wrap64 ((t1059.length:Int)+1)),.slice none 0 0]) ?_ 2 _ rfl;(with_reducible repeat(first|refine blk_drewN ?_ _|refine blk_drew ?_|refine blk_alloc ?_ _));refine qai (cs:=#[.int .i64 4,.int .i64 0,.slice none 0 0]) ?_ 1 _ rfl;(with_reducible repeat(first|refine blk_drewN ?_ _|refine blk_drew ?_|refine blk_alloc ?_ _));refine qai (cs:=#[.int .i64 0,.int .i64 0,.slice none 0 0]) ?_ 0 _ rfl;(with_reducible repeat(first|refine blk_drewN ?_ _|refine blk_drew ?_|refine blk_alloc ?_ _));exact BK1075.out) hb);replace HB:=Aside0.mk (qab (za2 HB GE1067 GE1075) hb);clear hb ho53;obtain⟨Ao54,co54,eo54⟩:=Kd.R_slice HO1078.out;subst eo54)|((with_reducible refine qah (N:=10) rfl ?_);(try(refine qaq (by rfl) ?_;dsimp only));refine zX (N:=10) (cs:=#[.int .i64 0,.int .i64 0,.slice none 0 0]) (t:=62) ?_;intro gb1079 hg w55 hbox hb;replace HO_5:=Aside0.mk (Kd.N_below (Kd.N_elderB (za11 HO_5) gb1079 (Nat.le_of_eq hg.symm)) hb);replace HO_1068002:=Aside0.mk (Kd.V_below (Kd.V_elderB (za19 HO_1068002) gb1079 (Nat.le_of_eq hg.symm)) hb);replace HO1074:=Aside0.mk (Kd.R_below (za3 HO1074) hb);replace HO1078:=Aside0.mk (Kd.R_below (za3 HO1078) hb);have BK1079:=Aside0.mk hbox;have GW1079:=zH (w:=w) hg (za2 HB GE1067 GE1075);have GE1079:=GW1079;replace HB:=Aside0.mk (qab (za2 HB GE1067 GE1075) hb);have NB1067_1079:=zL BK1067 hg;have NB1079_1067:=zG BK1067 hg;replace BK1067:=Aside0.mk (qaa (zB BK1067) hb);have NB1075_1079:=zL BK1075 hg;have NB1079_1075:=zG BK1075 hg;replace BK1075:=Aside0.mk (qaa (zB BK1075) hb);clear hb hbox hg;have hnb56:=NB1079_1067.out;have hnc56:=NB1067_1079.out;have hnb57:=NB1079_1075.out;have hnc57:=NB1075_1079.out;obtain⟨hcz58_0,hcz58_1,hcz58_2,hfz58_0,hfz58_1,hfz58_2⟩:=zC3 BK1079))
        have n0_:Aside0 (Kd.N k73 73 (((w55.setCell ⟨gb1079,0,none⟩ (.int .i64 4)).setCell ⟨gb1079,1,none⟩ (.int .i64 (1+((l1.length:Int)%6)))).setCell ⟨gb1079,2,none⟩ (.slice Ao54 y1076.length co54)) w.heap.size (fun k_=>some k_≠(.slice Ao48 y1072.length co48:Value).ownBlock∧some k_≠(.slice Ao54 y1076.length co54:Value).ownBlock∧k_≠gb1067∧k_≠gb1075∧k_≠gb1079) (.slice Ao13 t1059.length co13) t1059):=⟨by(with_reducible repeat(first|apply Kd.N_alloc|apply Kd.N_drewN|apply Kd.N_drew));exact Kd.N_mono (Kd.N_far (p:=⟨gb1079,2,none⟩) (Kd.N_far (p:=⟨gb1079,1,none⟩) (Kd.N_far (p:=⟨gb1079,0,none⟩) (Kd.N_mono HO_5.out (fun k_ hk=>(⟨hk,hk.2⟩:_∧k_≠gb1079))) (fun _ hk=>hk.2) (.int .i64 4)) (fun _ hk=>hk.2) (.int .i64 (1+((l1.length:Int)%6)))) (fun _ hk=>hk.2) (.slice Ao54 y1076.length co54)) (fun _ hk=>⟨hk.1.1.1.1.2,⟨hk.1.1.2,⟨hk.1.1.1.1.1,⟨hk.1.1.1.2,hk.1.2⟩⟩⟩⟩)⟩
        have n1_:Aside0 (Kd.V (Kd.int .i64) 3 (((w55.setCell ⟨gb1079,0,none⟩ (.int .i64 4)).setCell ⟨gb1079,1,none⟩ (.int .i64 (1+((l1.length:Int)%6)))).setCell ⟨gb1079,2,none⟩ (.slice Ao54 y1076.length co54)) w.heap.size (fun k_=>some k_≠(.slice Ao13 t1059.length co13:Value).ownBlock∧some k_≠(.slice Ao48 y1072.length co48:Value).ownBlock∧some k_≠(.slice Ao54 y1076.length co54:Value).ownBlock∧k_≠gb1067∧k_≠gb1075∧k_≠gb1079) (.slice Ao12 t1064.length co12) t1064):=⟨by(with_reducible repeat(first|apply Kd.V_alloc|apply Kd.V_drewN|apply Kd.V_drew));exact Kd.V_mono (Kd.V_far (p:=⟨gb1079,2,none⟩) (Kd.V_far (p:=⟨gb1079,1,none⟩) (Kd.V_far (p:=⟨gb1079,0,none⟩) (Kd.V_mono HO_1068002.out (fun k_ hk=>(⟨hk,hk.2⟩:_∧k_≠gb1079))) (fun _ hk=>hk.2) (.int .i64 4)) (fun _ hk=>hk.2) (.int .i64 (1+((l1.length:Int)%6)))) (fun _ hk=>hk.2) (.slice Ao54 y1076.length co54)) (fun _ hk=>⟨hk.1.1.1.1.1.1,⟨hk.1.1.1.1.2,⟨hk.1.1.2,⟨hk.1.1.1.1.1.2,⟨hk.1.1.1.2,hk.1.2⟩⟩⟩⟩⟩)⟩
        have n2_:Aside0 (Kd.R (Kd.int .i64) 3 (((w55.setCell ⟨gb1079,0,none⟩ (.int .i64 4)).setCell ⟨gb1079,1,none⟩ (.int .i64 (1+((l1.length:Int)%6)))).setCell ⟨gb1079,2,none⟩ (.slice Ao54 y1076.length co54)) w.heap.size (fun k_=>some k_≠(.slice Ao54 y1076.length co54:Value).ownBlock) (.slice Ao48 y1072.length co48) y1072):=⟨by(with_reducible repeat(first|apply Kd.R_alloc|apply Kd.R_drewN|apply Kd.R_drew));exact Kd.R_mono (Kd.R_far (p:=⟨gb1079,2,none⟩) (Kd.R_far (p:=⟨gb1079,1,none⟩) (Kd.R_far (p:=⟨gb1079,0,none⟩) (Kd.R_types HO1074.out BK1079.out (by decide)) (fun _ hk=>hk.2) (.int .i64 4)) (fun _ hk=>hk.2) (.int .i64 (1+((l1.length:Int)%6)))) (fun _ hk=>hk.2) (.slice Ao54 y1076.length co54)) (fun _ hk=>hk.1.2)⟩
        have n3_:Aside0 (Kd.R (Kd.int .i64) 3 (((w55.setCell ⟨gb1079,0,none⟩ (.int .i64 4)).setCell ⟨gb1079,1,none⟩ (.int .i64 (1+((l1.length:Int)%6)))).setCell ⟨gb1079,2,none⟩ (.slice Ao54 y1076.length co54)) w.heap.size (fun k_=>some k_≠(.slice Ao48 y1072.length co48:Value).ownBlock) (.slice Ao54 y1076.length co54) y1076):=⟨by(with_reducible repeat(first|apply Kd.R_alloc|apply Kd.R_drewN|apply Kd.R_drew));exact Kd.R_mono (Kd.R_far (p:=⟨gb1079,2,none⟩) (Kd.R_far (p:=⟨gb1079,1,none⟩) (Kd.R_far (p:=⟨gb1079,0,none⟩) (Kd.R_types HO1078.out BK1079.out (by decide)) (fun _ hk=>hk.2) (.int .i64 4)) (fun _ hk=>hk.2) (.int .i64 (1+((l1.length:Int)%6)))) (fun _ hk=>hk.2) (.slice Ao54 y1076.length co54)) (fun _ hk=>hk.1.2)⟩
        have n4_:Aside0 ((((w55.setCell ⟨gb1079,0,none⟩ (.int .i64 4)).setCell ⟨gb1079,1,none⟩ (.int .i64 (1+((l1.length:Int)%6)))).setCell ⟨gb1079,2,none⟩ (.slice Ao54 y1076.length co54)).heap[gb1067]?=some (.cells #[.int .i64 t1062,.int .i64 t1063,.slice Ao12 t1064.length co12] 62 (0,0))):=⟨za6 NB1067_1079 BK1067⟩
        have n5_:Aside0 ((((w55.setCell ⟨gb1079,0,none⟩ (.int .i64 4)).setCell ⟨gb1079,1,none⟩ (.int .i64 (1+((l1.length:Int)%6)))).setCell ⟨gb1079,2,none⟩ (.slice Ao54 y1076.length co54)).heap[gb1075]?=some (.cells #[.int .i64 4,.int .i64 (wrap64 ((t1059.length:Int)+1)),.slice Ao48 y1072.length co48] 62 (0,0))):=⟨za6 NB1075_1079 BK1075⟩
        have n6_:Aside0 ((((w55.setCell ⟨gb1079,0,none⟩ (.int .i64 4)).setCell ⟨gb1079,1,none⟩ (.int .i64 (1+((l1.length:Int)%6)))).setCell ⟨gb1079,2,none⟩ (.slice Ao54 y1076.length co54)).heap[gb1079]?=some (.cells #[.int .i64 4,.int .i64 (1+((l1.length:Int)%6)),.slice Ao54 y1076.length co54] 62 (0,0))):=⟨by(with_reducible repeat(first|refine blk_drewN ?_ _|refine blk_drew ?_|refine blk_alloc ?_ _));refine qai (cs:=#[.int .i64 4,.int .i64 (1+((l1.length:Int)%6)),.slice none 0 0]) ?_ 2 _ rfl;(with_reducible repeat(first|refine blk_drewN ?_ _|refine blk_drew ?_|refine blk_alloc ?_ _));refine qai (cs:=#[.int .i64 4,.int .i64 0,.slice none 0 0]) ?_ 1 _ rfl;(with_reducible repeat(first|refine blk_drewN ?_ _|refine blk_drew ?_|refine blk_alloc ?_ _));refine qai (cs:=#[.int .i64 0,.int .i64 0,.slice none 0 0]) ?_ 0 _ rfl;(with_reducible repeat(first|refine blk_drewN ?_ _|refine blk_drew ?_|refine blk_alloc ?_ _));exact BK1079.out⟩
        have n7_:Aside0 (Below w.heap.size w (((w55.setCell ⟨gb1079,0,none⟩ (.int .i64 4)).setCell ⟨gb1079,1,none⟩ (.int .i64 (1+((l1.length:Int)%6)))).setCell ⟨gb1079,2,none⟩ (.slice Ao54 y1076.length co54))):=⟨za7 HB GE1067 GE1075 GE1079⟩
        (try clear HO_5)
        (try clear HO_1068002)
        (try clear HO1074)
        (try clear HO1078)
        (try clear BK1067)
        (try clear BK1075)
        (try clear BK1079)
        (try clear HB)
        generalize (((w55.setCell ⟨gb1079,0,none⟩ (.int .i64 4)).setCell ⟨gb1079,1,none⟩ (.int .i64 (1+((l1.length:Int)%6)))).setCell ⟨gb1079,2,none⟩ (.slice Ao54 y1076.length co54))=w59 at n0_ n1_ n2_ n3_ n4_ n5_ n6_ n7_ ⊢
        have HO_5:=n0_
        have HO_1068002:=n1_
        have HO1074:=n2_
        have HO1078:=n3_
        have BK1067:=n4_
        have BK1075:=n5_
        have BK1079:=n6_
        have HB:=n7_
        clear n0_ n1_ n2_ n3_ n4_ n5_ n6_ n7_
        replace HO_5:=Aside0.mk (Kd.N_drew HO_5.out)
        replace HO_1068002:=Aside0.mk (Kd.V_drew HO_1068002.out)
        replace HO1074:=Aside0.mk (Kd.R_drew HO1074.out)
        replace HO1078:=Aside0.mk (Kd.R_drew HO1078.out)
        replace BK1067:=Aside0.mk (blk_drew BK1067.out)
        replace BK1075:=Aside0.mk (blk_drew BK1075.out)
        replace BK1079:=Aside0.mk (blk_drew BK1079.out)
        replace HB:=Aside0.mk (qae HB.out)
        refine start_ (n:=18) (S:=fun w'=>w'.cell? ⟨gb1075,0,none⟩=some (.int .i64 4)∧w'.cell? ⟨gb1075,1,none⟩=some (.int .i64 (wrap64 ((t1059.length:Int)+1)))∧w'.cell? ⟨gb1075,2,none⟩=some (.slice Ao48 y1072.length co48)) (ds:=[]) #[false,false,false,false,false,false,false,false,false,false,false,false,false,false,false,false,false,false] (by kernel_rfl) rfl rfl ⟨(blk_cell BK1075.out 0).trans rfl,(blk_cell BK1075.out 1).trans rfl,(blk_cell BK1075.out 2).trans rfl⟩ (fun hHeld=>?_);refine with_tabW laws_FnTripsBegin.tab10 laws_FnTripsBegin.bits10 (fun HT_ HW_=>?_)
        generalize w59.drew=w60 at HO_5 HO_1068002 HO1074 HO1078 BK1067 BK1075 BK1079 HB hHeld ⊢
        refine qar (i:=0) (N:=some 54) (v:=?_) (a':=?_) #[true,false,false,false,false,false,false,false,false,false,false,false,false,false,false,false,false,false] rfl rfl (qan HT_.out (by kernel_rfl)) (fun _ _ _ h=>h) (Or.inl ⟨by rfl,?_⟩) ?_ ?_
        rotate_left
        ·intro w'
         go_simp
         with_reducible rfl
        rotate_left
        ·simp only[Act.put,List.setIfInBounds_toArray,List.set_cons_zero,List.set_cons_succ,qaj,qak]
         rfl
        refine qar (i:=3) (N:=some 57) (v:=?_) (a':=?_) #[true,false,false,true,false,false,false,false,false,false,false,false,false,false,false,false,false,false] rfl rfl (qan HT_.out (by kernel_rfl)) (fun _ _ _ h=>h) (Or.inl ⟨by rfl,?_⟩) ?_ ?_
        rotate_left
        ·intro w'
         go_simp
         with_reducible rfl
        rotate_left
        ·simp only[Act.put,List.setIfInBounds_toArray,List.set_cons_zero,List.set_cons_succ,qaj,qak]
         rfl
        refine qar (i:=4) (N:=some 58) (v:=?_) (a':=?_) #[true,false,false,true,true,false,false,false,false,false,false,false,false,false,false,false,false,false] rfl rfl (qan HT_.out (by kernel_rfl)) (fun _ _ _ h=>h) (Or.inl ⟨by rfl,?_⟩) ?_ ?_
        rotate_left
        ·intro w'
         go_simp
         with_reducible rfl
        rotate_left
        ·simp only[Act.put,List.setIfInBounds_toArray,List.set_cons_zero,List.set_cons_succ,qaj,qak]
         rfl
        refine take_ (i:=1) (N:=some 55) (v:=?_) (a':=?_) #[true,true,false,true,true,false,false,false,false,false,false,false,false,false,false,false,false,false] rfl rfl (take_ofW HT_.out HW_.out (by kernel_rfl)) (fun _ _ _ h=>h) (Or.inl ⟨by rfl,?_⟩) hHeld ?_ ?_
        rotate_left
        ·rintro w' ⟨s0,s1,s2⟩
         go_simp
         with_reducible rfl
        rotate_left
        ·simp only[Act.put,List.setIfInBounds_toArray,List.set_cons_zero,List.set_cons_succ,qaj,qak]
         rfl
        refine one_ (i:=2) (N:=some 56) #[true,true,true,true,true,false,false,false,false,false,false,false,false,false,false,false,false,false] rfl rfl (one_of HT_.out (by kernel_rfl)) (by decide) (fun K hK=>?_)
        refine goes_ Try.func51 (by kernel_rfl) rfl #[.slice Ao13 t1059.length co13,.agg #[.int .i64 4,.int .i64 (wrap64 ((t1059.length:Int)+1)),.slice Ao48 y1072.length co48]] (by rfl) rfl rfl (by(try simp only[List.map_toArray,List.map_cons,List.map_nil]);first|done|rfl|(simp only[List.length_drop,List.length_take];rfl)) ?_
        with_reducible refine(impl_TripsMay.calls kj7 _ _ t1059 4 (wrap64 ((t1059.length:Int)+1)) _ _ y1072 t1080 _ ?side1 ?side2 ?side3 ?side4 A26.out).mono ?_
        (case side1=>repeat(first|exact(Kd.N_reads' HO_5.out).2.2|(with_reducible refine Kd.C_alloc ?_ _)|(with_reducible refine Kd.C_drewN ?_ _)|(with_reducible refine Kd.C_drew ?_)))
        (case side2=>exact(Kd.N_reads' HO_5.out).2.1)
        (case side3=>repeat(first|exact(Kd.R_reads' HO1074.out).2.2|(with_reducible refine Kd.C_alloc ?_ _)|(with_reducible refine Kd.C_drewN ?_ _)|(with_reducible refine Kd.C_drew ?_)))
        (case side4=>exact(Kd.R_reads' HO1074.out).2.1)
        rintro e w61 ⟨rfl,hb⟩
        refine⟨_,rfl,?_⟩
        replace HO_5:=Aside0.mk (Kd.N_below (za11 HO_5) hb)
        replace HO_1068002:=Aside0.mk (Kd.V_below (za19 HO_1068002) hb)
        replace HO1074:=Aside0.mk (Kd.R_below (za3 HO1074) hb)
        replace HO1078:=Aside0.mk (Kd.R_below (za3 HO1078) hb)
        replace BK1067:=Aside0.mk (qaa (zB BK1067) hb)
        replace BK1075:=Aside0.mk (qaa (zB BK1075) hb)
        replace BK1079:=Aside0.mk (qaa (zB BK1079) hb)
        replace HB:=Aside0.mk (qab (za7 HB GE1067 GE1075 GE1079) hb)
        (try clear hb)
        (try clear hb2)
        (try clear hk)
        (try clear hi)
        refine hK.out _ _ ⟨(blk_cell BK1075.out 0).trans rfl,(blk_cell BK1075.out 1).trans rfl,(blk_cell BK1075.out 2).trans rfl⟩ (fun hHeld=>?_)
        clear hK K
        refine norm_ (a':=?_) ?_ ?_
        rotate_left
        ·show Act.put _ (some 56) _=_
         simp only[Act.put,List.setIfInBounds_toArray,List.set_cons_zero,List.set_cons_succ,qaj,qak]
         rfl
        refine qar (i:=5) (N:=some 59) (v:=?_) (a':=?_) #[true,true,true,true,true,true,false,false,false,false,false,false,false,false,false,false,false,false] rfl rfl (qan HT_.out (by kernel_rfl)) (fun _ _ _ h=>h) (Or.inl ⟨by rfl,?_⟩) ?_ ?_
        rotate_left
        ·intro w'
         go_simp
         with_reducible rfl
        rotate_left
        ·simp only[Act.put,List.setIfInBounds_toArray,List.set_cons_zero,List.set_cons_succ,qaj,qak]
         rfl
        refine qar (i:=6) (N:=some 60) (v:=?_) (a':=?_) #[true,true,true,true,true,true,true,false,false,false,false,false,false,false,false,false,false,false] rfl rfl (qan HT_.out (by kernel_rfl)) (fun _ _ _ h=>h) (Or.inl ⟨by rfl,?_⟩) ?_ ?_
        rotate_left
        ·intro w'
         go_simp
         with_reducible rfl
        rotate_left
        ·simp only[Act.put,List.setIfInBounds_toArray,List.set_cons_zero,List.set_cons_succ,qaj,qak]
         rfl
        refine qar (i:=7) (N:=some 61) (v:=undef) (a':=?_) #[true,true,true,true,true,true,true,true,false,false,false,false,false,false,false,false,false,false] rfl rfl (qan HT_.out (by kernel_rfl)) (fun _ _ _ h=>h) (Or.inr ⟨by rfl,rfl⟩) ?_ ?_
        rotate_left
        ·simp only[Act.put,List.setIfInBounds_toArray,List.set_cons_zero,List.set_cons_succ,qaj,qak]
         rfl
        refine qar (i:=8) (N:=some 62) (v:=undef) (a':=?_) #[true,true,true,true,true,true,true,true,true,false,false,false,false,false,false,false,false,false] rfl rfl (qan HT_.out (by kernel_rfl)) (fun _ _ _ h=>h) (Or.inr ⟨by rfl,rfl⟩) ?_ ?_
        rotate_left
        ·simp only[Act.put,List.setIfInBounds_toArray,List.set_cons_zero,List.set_cons_succ,qaj,qak]
         rfl
        refine qar (i:=9) (N:=some 63) (v:=undef) (a':=?_) #[true,true,true,true,true,true,true,true,true,true,false,false,false,false,false,false,false,false] rfl rfl (qan HT_.out (by kernel_rfl)) (fun _ _ _ h=>h) (Or.inr ⟨by rfl,rfl⟩) ?_ ?_
        rotate_left
        ·simp only[Act.put,List.setIfInBounds_toArray,List.set_cons_zero,List.set_cons_succ,qaj,qak]
         rfl
        refine qar (i:=10) (N:=some 64) (v:=undef) (a':=?_) #[true,true,true,true,true,true,true,true,true,true,true,false,false,false,false,false,false,false] rfl rfl (qan HT_.out (by kernel_rfl)) (fun _ _ _ h=>h) (Or.inr ⟨by rfl,rfl⟩) ?_ ?_
        rotate_left
        ·simp only[Act.put,List.setIfInBounds_toArray,List.set_cons_zero,List.set_cons_succ,qaj,qak]
         rfl
        refine qar (i:=11) (N:=some 65) (v:=undef) (a':=?_) #[true,true,true,true,true,true,true,true,true,true,true,true,false,false,false,false,false,false] rfl rfl (qan HT_.out (by kernel_rfl)) (fun _ _ _ h=>h) (Or.inr ⟨by rfl,rfl⟩) ?_ ?_
        rotate_left
        ·simp only[Act.put,List.setIfInBounds_toArray,List.set_cons_zero,List.set_cons_succ,qaj,qak]
         rfl
        refine qar (i:=12) (N:=some 66) (v:=undef) (a':=?_) #[true,true,true,true,true,true,true,true,true,true,true,true,true,false,false,false,false,false] rfl rfl (qan HT_.out (by kernel_rfl)) (fun _ _ _ h=>h) (Or.inr ⟨by rfl,rfl⟩) ?_ ?_
        rotate_left
        ·simp only[Act.put,List.setIfInBounds_toArray,List.set_cons_zero,List.set_cons_succ,qaj,qak]
         rfl
        refine qar (i:=13) (N:=some 67) (v:=undef) (a':=?_) #[true,true,true,true,true,true,true,true,true,true,true,true,true,true,false,false,false,false] rfl rfl (qan HT_.out (by kernel_rfl)) (fun _ _ _ h=>h) (Or.inr ⟨by rfl,rfl⟩) ?_ ?_
        rotate_left
        ·simp only[Act.put,List.setIfInBounds_toArray,List.set_cons_zero,List.set_cons_succ,qaj,qak]
         rfl
        refine qar (i:=14) (N:=some 68) (v:=undef) (a':=?_) #[true,true,true,true,true,true,true,true,true,true,true,true,true,true,true,false,false,false] rfl rfl (qan HT_.out (by kernel_rfl)) (fun _ _ _ h=>h) (Or.inr ⟨by rfl,rfl⟩) ?_ ?_
        rotate_left
        ·simp only[Act.put,List.setIfInBounds_toArray,List.set_cons_zero,List.set_cons_succ,qaj,qak]
         rfl
        refine qar (i:=15) (N:=some 69) (v:=undef) (a':=?_) #[true,true,true,true,true,true,true,true,true,true,true,true,true,true,true,true,false,false] rfl rfl (qan HT_.out (by kernel_rfl)) (fun _ _ _ h=>h) (Or.inr ⟨by rfl,rfl⟩) ?_ ?_
        rotate_left
        ·simp only[Act.put,List.setIfInBounds_toArray,List.set_cons_zero,List.set_cons_succ,qaj,qak]
         rfl
        refine qar (i:=16) (N:=some 70) (v:=?_) (a':=?_) #[true,true,true,true,true,true,true,true,true,true,true,true,true,true,true,true,true,false] rfl rfl (qan HT_.out (by kernel_rfl)) (fun _ _ _ h=>h) (Or.inl ⟨by rfl,?_⟩) ?_ ?_
        rotate_left
        ·intro w'
         go_simp
         with_reducible rfl
        rotate_left
        ·simp only[Act.put,List.setIfInBounds_toArray,List.set_cons_zero,List.set_cons_succ,qaj,qak]
         rfl
        refine qar (i:=17) (N:=some 4) (v:=?_) (a':=?_) #[true,true,true,true,true,true,true,true,true,true,true,true,true,true,true,true,true,true] rfl rfl (qan HT_.out (by kernel_rfl)) (fun _ _ _ h=>h) (Or.inl ⟨by rfl,?_⟩) ?_ ?_
        rotate_left
        ·intro w'
         go_simp
         with_reducible rfl
        rotate_left
        ·simp only[Act.put,List.setIfInBounds_toArray,List.set_cons_zero,List.set_cons_succ,qaj,qak]
         rfl
        refine done_ (done_of HT_.out (by kernel_rfl)) ?_
        try go_wp2
        go_ret
        exact⟨za9,za7 HB GE1067 GE1075 GE1079⟩
def laws_FnTripsBegin.Pure:Prop:=∀(l0:List Int) (l1:List Int),l0.length≤maxLen→l0.length*1≤140737488351232→(∀x ∈ l0,(Lit.int .u8 x).wf=true)→l1.length≤maxLen→l1.length*1≤140737488351232→(∀x ∈ l1,(Lit.int .u8 x).wf=true)→∃k,laws_FnTripsBegin.f k l0 l1=some true
theorem laws_FnTripsBegin.walk (P:laws_FnTripsBegin.Pure) (a0:Option Addr) (len0 cap0:Nat) (z0:List Int) (a1:Option Addr) (len1 cap1:Nat) (z1:List Int) (w:World) (w0:(a0=none∧len0=0∧cap0=0∧z0=[])∨∃x,a0=some x∧len0≤cap0∧cap0≤maxLen∧z0.length=cap0∧(∀i,i<z0.length→w.cell? (x.add i)=some (.int .u8 (z0.getD i 0)))∧∀n ∈ z0,(Lit.int .u8 n).wf=true) (y0:len0*1≤140737488351232) (w1:(a1=none∧len1=0∧cap1=0∧z1=[])∨∃x,a1=some x∧len1≤cap1∧cap1≤maxLen∧z1.length=cap1∧(∀i,i<z1.length→w.cell? (x.add i)=some (.int .u8 (z1.getD i 0)))∧∀n ∈ z1,(Lit.int .u8 n).wf=true) (y1:len1*1≤140737488351232) :
  Calls Try.prog 12 #[.slice a0 len0 cap0,.slice a1 len1 cap1] w fun e w'=>e=.returned (.bool true)∧Below w.heap.size w w':=by
 obtain⟨l0,rfl,hr0,hm0,hw0,hc0⟩:=ReadsInt.ofRowC w0
 obtain⟨l1,rfl,hr1,hm1,hw1,hc1⟩:=ReadsInt.ofRowC w1
 obtain⟨k,h⟩:=P l0 l1 hm0 y0 hw0 hm1 y1 hw1
 refine(laws_FnTripsBegin.calls k _ _ l0 _ _ l1 true w (Kd.C_of_reads (d:=(0:Int)) (h1:=fun _=>rfl) hr0) hc0 (Kd.C_of_reads (d:=(0:Int)) (h1:=fun _=>rfl) hr1) hc1 h).mono ?_
 rintro e w' ⟨rfl,hd⟩
 exact⟨rfl,hd⟩
end Go.Proofs.Ytjccnaklodbbfaa.Print
