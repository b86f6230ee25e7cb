-- Written by squeeze.py: not trusted, Lean checks it.
import Derived.Test.YtmbdphefnalenaaZK
import Derived.Test.YtmbdphefnalenaaZc6
import Derived.Test.YtmbdphefnalenaaZf0
import Derived.Test.YtmbdphefnalenaaZo1
import Derived.Test.YtmbdphefnalenaaZo2
namespace Go.Proofs.Ytmbdphefnalenaa.Print
open Go.RowKit Go.Proofs.YtmbdphefnalenaaW.PrintWords Go.Proofs.YtmbdphefnalenaaW.PrintLast Go.Proofs.YtmbdphefnalenaaW.PrintMore
attribute [local go_sem] max2_int min2_int max_two min_two max_three min_three max_four min_four
set_option linter.unusedVariables false
set_option linter.unusedSimpArgs false
mutual
def laws_FnHouseLog.j0:Nat→List Int→List Int→Bool→Option (Bool)
 |0,_,_,_=>none
 |k+1,x0,x1,x18=>if x18=true then(some true) else((spec_DrawHouseOk.f k x0).bind fun bt1163=>((impl_HouseOk.f k bt1163.1 bt1163.2.1 bt1163.2.2.1 bt1163.2.2.2.1 bt1163.2.2.2.2).bind fun t1171=>((spec_HouseOk.f k bt1163.1 bt1163.2.1 bt1163.2.2.1 bt1163.2.2.2.1 bt1163.2.2.2.2).bind fun t1172=>(if(t1171 != t1172)=true then(laws_FnHouseLog.j1 k x1 t1171 true bt1163.1 bt1163.2.1 bt1163.2.2.1 bt1163.2.2.2.1 bt1163.2.2.2.2) else(laws_FnHouseLog.j1 k x1 t1171 (!t1171) bt1163.1 bt1163.2.1 bt1163.2.2.1 bt1163.2.2.2.1 bt1163.2.2.2.2)))))
def laws_FnHouseLog.j1:Nat→List Int→Bool→Bool→Int→Bool→Int→List (S32)→Int→Option (Bool)
 |0,_,_,_,_,_,_,_,_=>none
 |k+1,x1,x6,x30,x1171000,x1171001,x1171002,x1171003,x1171004=>if x30=true then((spec_HouseOk.f k x1171000 x1171001 x1171002 x1171003 x1171004).bind fun t1173=>(some (x6 == t1173))) else(if(wrap64 ((x1171003.length:Int)+1))=0 then(none) else(if 0≤((x1.length:Int)%(wrap64 ((x1171003.length:Int)+1))) then(if((x1.length:Int)%(wrap64 ((x1171003.length:Int)+1)))≤(x1171003.length:Int) then((some (x1171003.take (((x1.length:Int)%(wrap64 ((x1171003.length:Int)+1))):Int).toNat:List (S32))).bind fun y1174=>((impl_StockOf.f k x1171002 y1174).bind fun bt1179=>(if bt1179.2.2=true then((impl_StockOk.f k bt1179.1 bt1179.2.1).bind fun t1191=>(if t1191=true then((impl_HouseOk.f k x1171000 x1171001 x1171002 y1174 (mn ((x1.length:Int)%(wrap64 ((x1171003.length:Int)+1))) x1171004)).bind fun t1192=>(some t1192)) else(some false))) else(some false)))) else(none)) else(none)))
end
def laws_FnHouseLog.f (k:Nat) (l0:List Int) (l1:List Int):Option (Bool):=if(l0.length:Int)>1048576 then(laws_FnHouseLog.j0 k l0 l1 true) else(laws_FnHouseLog.j0 k l0 l1 (decide ((l1.length:Int)>1048576)))
theorem laws_FnHouseLog.mono_l:∀k,(∀y0 y1 y2,LeO (laws_FnHouseLog.j0 k y0 y1 y2) (laws_FnHouseLog.j0 (k+1) y0 y1 y2))∧(∀y0 y1 y2 y3 y4 y5 y6 y7,LeO (laws_FnHouseLog.j1 k y0 y1 y2 y3 y4 y5 y6 y7) (laws_FnHouseLog.j1 (k+1) y0 y1 y2 y3 y4 y5 y6 y7))
 |0=>⟨fun _ _ _ r h=>by simp[laws_FnHouseLog.j0] at h,fun _ _ _ _ _ _ _ _ r h=>by simp[laws_FnHouseLog.j1] at h⟩
 |k+1=>by
  obtain⟨ih0,ih1⟩:=laws_FnHouseLog.mono_l k
  refine⟨?_,?_⟩
  ·intro y0 y1 y2
   unfold laws_FnHouseLog.j0
   repeat' first
   |(with_reducible exact ih0 _ _ _)
   |(with_reducible exact ih1 _ _ _ _ _ _ _ _)
   |(with_reducible exact impl_HouseOk.mono _ _ _ _ _ _)
   |(with_reducible exact impl_StockOf.mono _ _ _)
   |(with_reducible exact impl_StockOk.mono _ _ _)
   |(with_reducible exact spec_DrawHouseOk.mono _ _)
   |(with_reducible exact spec_HouseOk.mono _ _ _ _ _ _)
   |(with_reducible exact LeO.refl _)
   |(with_reducible exact LeO.none _)
   |(with_reducible refine LeO.ite ?_ ?_)
   |(with_reducible refine LeO.bind ?_ (fun _=>?_))
   |exact ih0 _ _ _
   |exact ih1 _ _ _ _ _ _ _ _
   |exact impl_HouseOk.mono _ _ _ _ _ _
   |exact impl_StockOf.mono _ _ _
   |exact impl_StockOk.mono _ _ _
   |exact spec_DrawHouseOk.mono _ _
   |exact spec_HouseOk.mono _ _ _ _ _ _
   |exact LeO.none _
   |refine LeO.ite ?_ ?_
   |refine LeO.bind ?_ (fun _=>?_)
  ·intro y0 y1 y2 y3 y4 y5 y6 y7
   unfold laws_FnHouseLog.j1
   repeat' first
   |(with_reducible exact ih0 _ _ _)
   |(with_reducible exact ih1 _ _ _ _ _ _ _ _)
   |(with_reducible exact impl_HouseOk.mono _ _ _ _ _ _)
   |(with_reducible exact impl_StockOf.mono _ _ _)
   |(with_reducible exact impl_StockOk.mono _ _ _)
   |(with_reducible exact spec_DrawHouseOk.mono _ _)
   |(with_reducible exact spec_HouseOk.mono _ _ _ _ _ _)
   |(with_reducible exact LeO.refl _)
   |(with_reducible exact LeO.none _)
   |(with_reducible refine LeO.ite ?_ ?_)
   |(with_reducible refine LeO.bind ?_ (fun _=>?_))
   |exact ih0 _ _ _
   |exact ih1 _ _ _ _ _ _ _ _
   |exact impl_HouseOk.mono _ _ _ _ _ _
   |exact impl_StockOf.mono _ _ _
   |exact impl_StockOk.mono _ _ _
   |exact spec_DrawHouseOk.mono _ _
   |exact spec_HouseOk.mono _ _ _ _ _ _
   |exact LeO.none _
   |refine LeO.ite ?_ ?_
   |refine LeO.bind ?_ (fun _=>?_)
theorem laws_FnHouseLog.mono:∀a0 a1 k,LeO (laws_FnHouseLog.f k a0 a1) (laws_FnHouseLog.f (k+1) a0 a1):=by
 intro a0 a1 k
 obtain⟨ih0,ih1⟩:=laws_FnHouseLog.mono_l k
 unfold laws_FnHouseLog.f
 repeat' first
   |(with_reducible exact ih0 _ _ _)
   |(with_reducible exact ih1 _ _ _ _ _ _ _ _)
   |(with_reducible exact impl_HouseOk.mono _ _ _ _ _ _)
   |(with_reducible exact impl_StockOf.mono _ _ _)
   |(with_reducible exact impl_StockOk.mono _ _ _)
   |(with_reducible exact spec_DrawHouseOk.mono _ _)
   |(with_reducible exact spec_HouseOk.mono _ _ _ _ _ _)
   |(with_reducible exact LeO.refl _)
   |(with_reducible exact LeO.none _)
   |(with_reducible refine LeO.ite ?_ ?_)
   |(with_reducible refine LeO.bind ?_ (fun _=>?_))
   |exact ih0 _ _ _
   |exact ih1 _ _ _ _ _ _ _ _
   |exact impl_HouseOk.mono _ _ _ _ _ _
   |exact impl_StockOf.mono _ _ _
   |exact impl_StockOk.mono _ _ _
   |exact spec_DrawHouseOk.mono _ _
   |exact spec_HouseOk.mono _ _ _ _ _ _
   |exact LeO.none _
   |refine LeO.ite ?_ ?_
   |refine LeO.bind ?_ (fun _=>?_)
def laws_FnHouseLog.T8:Bool × List (List Nat × List Nat):=(true,[([],[]),([0],[0]),([],[]),([2],[2]),([3],[3]),([],[]),([4,5],[4,5]),([1,6],[1,6]),([7],[7]),([8],[8]),([8],[8]),([],[]),([11,9,7,0,1,2,3,4,5,6,7,8,9,11],[9,11]),([10,12,0,1,2,3,4,5,6,7,8,9,10,11,12],[10])])
def laws_FnHouseLog.B8:List Nat:=[0,1,0,4,12,0,60,127,255,511,511,0,3071,8191]
theorem laws_FnHouseLog.tab8:rtab .any (opsOf Try.f14 8)=laws_FnHouseLog.T8:=by kernel_rfl
theorem laws_FnHouseLog.bits8:waitsOk laws_FnHouseLog.T8.2 laws_FnHouseLog.B8=true:=by kernel_rfl
def laws_FnHouseLog.T10:Bool × List (List Nat × List Nat):=(true,[([],[]),([0],[0]),([1],[1]),([],[]),([2,3],[2,3]),([],[]),([],[]),([6],[6]),([7],[7]),([5,8],[5,8]),([4,9],[4,9]),([0,1,2,3,4,5,6,7,8,9,10],[]),([11,10,0,1,2,3,4,5,6,7,8,9,10],[10,11])])
def laws_FnHouseLog.B10:List Nat:=[0,1,3,0,15,0,0,64,192,480,1023,2047,4095]
theorem laws_FnHouseLog.tab10:rtab .any (opsOf Try.f14 10)=laws_FnHouseLog.T10:=by kernel_rfl
theorem laws_FnHouseLog.bits10:waitsOk laws_FnHouseLog.T10.2 laws_FnHouseLog.B10=true:=by kernel_rfl
set_option maxHeartbeats 8000000 in
set_option maxRecDepth 100000 in
theorem laws_FnHouseLog.calls (k:Nat) (A0:Option Addr) (c0:Nat) (l0:List Int) (A1:Option Addr) (c1:Nat) (l1:List Int) (r:Bool) (w:World) (hr0:Kd.C (Kd.int .u8) w A0 l0.length l0) (hc0:l0.length≤c0) (hr1:Kd.C (Kd.int .u8) w A1 l1.length l1) (hc1:l1.length≤c1) (h:laws_FnHouseLog.f k l0 l1=some r) :
  Calls Try.prog 14 #[.slice A0 l0.length c0,.slice A1 l1.length c1] w fun e w'=>e=.returned (.bool r)∧Below w.heap.size w w':=by
 have hu72:=Try.underlying72
 have hu38:=Try.underlying38
 have hu70:=Try.underlying70
 have HR0:=Aside0.mk hr0
 have HC0:=Aside0.mk hc0
 clear hr0 hc0
 have HR1:=Aside0.mk hr1
 have HC1:=Aside0.mk hc1
 clear hr1 hc1
 have HB:=Aside0.mk (Below.refl w.heap.size w)
 have H:(if(l0.length:Int)>1048576 then(laws_FnHouseLog.j0 k l0 l1 true) else(laws_FnHouseLog.j0 k l0 l1 (decide ((l1.length:Int)>1048576))))=some r:=h
 clear h
 have HC3:=Aside0.mk H
 clear H
 go_enter Try.func14,Try.ntmps14
 go_upto_region 1 with(fail)
 go_cut [18] (fun v18 wc=>∃(kq:Nat) (x18_2:Bool),v18=.bool x18_2∧Aside0 (laws_FnHouseLog.j0 kq l0 l1 x18_2=some r)∧Aside0 (kq≤k)∧Aside0 (Below w.heap.size w wc))
 case first=>
  have H:=HC3.out
  clear HC3
  by_cases c4:(l0.length:Int)>1048576
  ·rw[if_pos c4] at H
   have c4b0:decide (1048576<(l0.length:Int))=true:=decide_eq_true c4
   have c4b1:decide (1048576<l0.length)=true:=decide_eq_true (by omega)
   clear c4
   (first|rw[c4b0]|(simp only[qaf,qag];rw[c4b0])|skip)
   have H':=Aside0.mk H
   clear H
   go_wp2
   go_meet
   case rel=>exact⟨_,(true),(za43),H',⟨za57⟩,⟨za4 HB⟩⟩
  ·rw[if_neg c4] at H
   have c4b0:decide (1048576<(l0.length:Int))=false:=decide_eq_false c4
   have c4b1:decide (1048576<l0.length)=false:=decide_eq_false (by omega)
   clear c4
   (first|rw[c4b0]|(simp only[qaf,qag];rw[c4b0])|skip)
   have H':=Aside0.mk H
   clear H
   go_wp2
   go_meet
   case rel=>exact⟨_,(decide ((l1.length:Int)>1048576)),(za43),H',⟨za57⟩,⟨za4 HB⟩⟩
 case rest=>
  clear HC3
  try clear c1
  try clear p2
  try clear c4
  try clear c4b0
  try clear c4b1
  obtain⟨kq,x18_2,rfl,HA,HJ2,HB⟩:=hcut
  cases kq with
  |zero=>exact absurd HA.out (by simp[laws_FnHouseLog.j0])
  |succ kj2=>
   have H:=HA.out
   clear HA
   simp only[laws_FnHouseLog.j0] at H
   by_cases c5:x18_2=true
   ·subst c5
    have H1:(some true)=some r:=by rw[if_pos rfl] at H;exact H
    clear H
    have H:=H1
    clear H1
    obtain rfl:=Option.some.inj H
    go_wp2
    go_ret
    exact⟨za16,za4 HB⟩
   ·replace c5:=Bool.eq_false_iff.mpr c5
    subst c5
    have H1:((spec_DrawHouseOk.f kj2 l0).bind fun bt1163=>((impl_HouseOk.f kj2 bt1163.1 bt1163.2.1 bt1163.2.2.1 bt1163.2.2.2.1 bt1163.2.2.2.2).bind fun t1171=>((spec_HouseOk.f kj2 bt1163.1 bt1163.2.1 bt1163.2.2.1 bt1163.2.2.2.1 bt1163.2.2.2.2).bind fun t1172=>(if(t1171 != t1172)=true then(laws_FnHouseLog.j1 kj2 l1 t1171 true bt1163.1 bt1163.2.1 bt1163.2.2.1 bt1163.2.2.2.1 bt1163.2.2.2.2) else(laws_FnHouseLog.j1 kj2 l1 t1171 (!t1171) bt1163.1 bt1163.2.1 bt1163.2.2.1 bt1163.2.2.2.1 bt1163.2.2.2.2)))))=some r:=by rw[if_neg (show ¬(false=true) by decide)] at H;exact H
    clear H
    have H:=H1
    clear H1
    replace H:=Option.bind_eq_some_iff.mp H
    obtain⟨⟨t1163,t1164,t1165,t1166,t1169⟩,A60,H⟩:=H
    replace H:((impl_HouseOk.f kj2 t1163 t1164 t1165 t1166 t1169).bind fun t1171=>((spec_HouseOk.f kj2 t1163 t1164 t1165 t1166 t1169).bind fun t1172=>(if(t1171 != t1172)=true then(laws_FnHouseLog.j1 kj2 l1 t1171 true t1163 t1164 t1165 t1166 t1169) else(laws_FnHouseLog.j1 kj2 l1 t1171 (!t1171) t1163 t1164 t1165 t1166 t1169))))=some r:=H
    have A6:=Aside0.mk A60
    clear A60
    replace H:=Option.bind_eq_some_iff.mp H
    obtain⟨t1171,A70,H⟩:=H
    replace H:((spec_HouseOk.f kj2 t1163 t1164 t1165 t1166 t1169).bind fun t1172=>(if(t1171 != t1172)=true then(laws_FnHouseLog.j1 kj2 l1 t1171 true t1163 t1164 t1165 t1166 t1169) else(laws_FnHouseLog.j1 kj2 l1 t1171 (!t1171) t1163 t1164 t1165 t1166 t1169)))=some r:=H
    have A7:=Aside0.mk A70
    clear A70
    have HC8:=Aside0.mk H
    clear H
    go_upto_region 5 with(first|((with_reducible refine qac (f:=43) rfl ?_);refine zF (some 20) Try.func43 #[.slice A0 l0.length c0] ?_;(with_reducible refine(spec_DrawHouseOk.calls kj2 _ _ l0 t1163 t1164 t1165 t1166 t1169 _ ?side1 ?side2 A6.out).mono ?_);(case side1=>exact zR HR0 HB);(case side2=>exact HC0.out);rintro e w9 ⟨v1167,rfl,ho0,hb⟩;refine⟨_,rfl,?_⟩;have HO1168:=Aside0.mk (Kd.N_lower (Kd.N_mono (ok':=fun k_=>True) ho0 (fun k_ hk_=>trivial)) (below_size (za4 HB)));replace HB:=Aside0.mk (qab (za4 HB) hb);(try clear hb);(try clear ho0))|((with_reducible refine qae (N:=5) rfl ?_);(try(refine gate_guard (by rfl) ?_;dsimp only));refine zX (N:=5) (cs:=#[.int .i64 0,.bool false,.int .i64 0,.slice none 0 0,.int .i64 0]) (t:=72) ?_;intro gb1170 hg w10 hbox hb;replace HO1168:=Aside0.mk (Kd.N_below (Kd.N_elderB (za36 HO1168) gb1170 (Nat.le_of_eq hg.symm)) hb);have BK1170:=Aside0.mk hbox;have GW1170:=zH (w:=w) hg (za4 HB);have GE1170:=GW1170;replace HB:=Aside0.mk (qab (za4 HB) hb);clear hb hbox hg;obtain⟨hcz11_0,hcz11_1,hcz11_2,hcz11_3,hcz11_4,hfz11_0,hfz11_1,hfz11_2,hfz11_3,hfz11_4⟩:=zC5 BK1170;obtain⟨Ao12,co12,eo12⟩:=Kd.N_slice HO1168.out;subst eo12)|((with_reducible refine qac (f:=44) rfl ?_);refine zF (some 22) Try.func44 #[.agg #[.int .i64 t1163,.bool t1164,.int .i64 t1165,.slice Ao12 t1166.length co12,.int .i64 t1169]] ?_;(with_reducible refine(impl_HouseOk.calls kj2 t1163 t1164 t1165 _ _ t1166 t1169 t1171 _ ?side1 ?side2 A7.out).mono ?_);(case side1=>refine(Kd.N_reads' (e:=32) (base:=w.heap.size) (ok:=fun k_=>(True∧k_≠gb1170)) (n:=t1166.length) (c:=co12) ?_).2.2;exact(by(with_reducible repeat(first|apply Kd.N_alloc|apply Kd.N_drewN|apply Kd.N_drew));exact(Kd.N_mono (Kd.N_far (p:=⟨gb1170,4,none⟩) (Kd.N_far (p:=⟨gb1170,3,none⟩) (Kd.N_far (p:=⟨gb1170,2,none⟩) (Kd.N_far (p:=⟨gb1170,1,none⟩) (Kd.N_far (p:=⟨gb1170,0,none⟩) (Kd.N_mono HO1168.out (fun k_ hk=>(⟨hk,hk.2⟩:_∧k_≠gb1170))) (fun _ hk=>hk.2) (.int .i64 t1163)) (fun _ hk=>hk.2) (.bool t1164)) (fun _ hk=>hk.2) (.int .i64 t1165)) (fun _ hk=>hk.2) (.slice Ao12 t1166.length co12)) (fun _ hk=>hk.2) (.int .i64 t1169)) (fun _ h_=>h_.1))));(case side2=>exact(Kd.N_reads' HO1168.out).2.1);rintro e w13 ⟨rfl,hb⟩;refine⟨_,rfl,?_⟩;replace HO1168:=Aside0.mk (Kd.N_below (by(with_reducible repeat(first|apply Kd.N_alloc|apply Kd.N_drewN|apply Kd.N_drew));exact(Kd.N_mono (Kd.N_far (p:=⟨gb1170,4,none⟩) (Kd.N_far (p:=⟨gb1170,3,none⟩) (Kd.N_far (p:=⟨gb1170,2,none⟩) (Kd.N_far (p:=⟨gb1170,1,none⟩) (Kd.N_far (p:=⟨gb1170,0,none⟩) (Kd.N_mono HO1168.out (fun k_ hk=>(⟨hk,hk.2⟩:_∧k_≠gb1170))) (fun _ hk=>hk.2) (.int .i64 t1163)) (fun _ hk=>hk.2) (.bool t1164)) (fun _ hk=>hk.2) (.int .i64 t1165)) (fun _ hk=>hk.2) (.slice Ao12 t1166.length co12)) (fun _ hk=>hk.2) (.int .i64 t1169)) (fun _ h_=>h_.1))) hb);replace BK1170:=Aside0.mk (qaa (g:=gb1170) (o:=.cells #[.int .i64 t1163,.bool t1164,.int .i64 t1165,.slice Ao12 t1166.length co12,.int .i64 t1169] 72 (0,0)) (by(with_reducible repeat(first|refine blk_drewN ?_ _|refine blk_drew ?_|refine blk_alloc ?_ _));refine qad (cs:=#[.int .i64 t1163,.bool t1164,.int .i64 t1165,.slice Ao12 t1166.length co12,.int .i64 0]) ?_ 4 _ rfl;(with_reducible repeat(first|refine blk_drewN ?_ _|refine blk_drew ?_|refine blk_alloc ?_ _));refine qad (cs:=#[.int .i64 t1163,.bool t1164,.int .i64 t1165,.slice none 0 0,.int .i64 0]) ?_ 3 _ rfl;(with_reducible repeat(first|refine blk_drewN ?_ _|refine blk_drew ?_|refine blk_alloc ?_ _));refine qad (cs:=#[.int .i64 t1163,.bool t1164,.int .i64 0,.slice none 0 0,.int .i64 0]) ?_ 2 _ rfl;(with_reducible repeat(first|refine blk_drewN ?_ _|refine blk_drew ?_|refine blk_alloc ?_ _));refine qad (cs:=#[.int .i64 t1163,.bool false,.int .i64 0,.slice none 0 0,.int .i64 0]) ?_ 1 _ rfl;(with_reducible repeat(first|refine blk_drewN ?_ _|refine blk_drew ?_|refine blk_alloc ?_ _));refine qad (cs:=#[.int .i64 0,.bool false,.int .i64 0,.slice none 0 0,.int .i64 0]) ?_ 0 _ rfl;(with_reducible repeat(first|refine blk_drewN ?_ _|refine blk_drew ?_|refine blk_alloc ?_ _));exact BK1170.out) hb);replace HB:=Aside0.mk (qab (za1 HB GE1170) hb);(try clear hb)))
    (try simp only[Act.put,List.setIfInBounds_toArray,List.set_cons_zero,List.set_cons_succ])
    go_cut [30] (fun v30 wc=>∃(kq:Nat) (x30_7:Bool),v30=.bool x30_7∧Aside0 (laws_FnHouseLog.j1 kq l1 t1171 x30_7 t1163 t1164 t1165 t1166 t1169=some r)∧Aside0 (kq≤kj2)∧Aside0 (Kd.N k32 32 wc w.heap.size (fun k_=>k_≠gb1170) (.slice Ao12 t1166.length co12) t1166)∧Aside0 (wc.heap[gb1170]?=some (.cells #[.int .i64 t1163,.bool t1164,.int .i64 t1165,(.slice Ao12 t1166.length co12),.int .i64 t1169] 72 (0,0)))∧Aside0 (Below w.heap.size w wc))
    case first=>
     have H:=HC8.out
     clear HC8
     replace H:=Option.bind_eq_some_iff.mp H
     obtain⟨t1172,A140,H⟩:=H
     replace H:(if(t1171 != t1172)=true then(laws_FnHouseLog.j1 kj2 l1 t1171 true t1163 t1164 t1165 t1166 t1169) else(laws_FnHouseLog.j1 kj2 l1 t1171 (!t1171) t1163 t1164 t1165 t1166 t1169))=some r:=H
     have A14:=Aside0.mk A140
     clear A140
     by_cases c15:(t1171 != t1172)=true
     ·rw[if_pos c15] at H
      have c15b0:(t1171 != t1172)=true:=c15
      (try(have c15b1:decide (t1171=t1172)=false:=by simpa using c15))
      (try(have c15b2:(t1171 == t1172)=false:=by simpa using c15))
      (try(have c15b3:¬(t1171=t1172):=by simpa using c15))
      clear c15
      (first|rw[c15b0]|(simp only[qaf,qag];rw[c15b0])|skip)
      have H':=Aside0.mk H
      clear H
      obtain⟨hcz16_0,hcz16_1,hcz16_2,hcz16_3,hcz16_4,hfz16_0,hfz16_1,hfz16_2,hfz16_3,hfz16_4⟩:=zC5 BK1170
      go_wp2_with(first|((with_reducible refine qac (f:=45) rfl ?_);refine zF (some 25) Try.func45 #[.agg #[.int .i64 t1163,.bool t1164,.int .i64 t1165,.slice Ao12 t1166.length co12,.int .i64 t1169]] ?_;(with_reducible refine(spec_HouseOk.calls kj2 t1163 t1164 t1165 _ _ t1166 t1169 t1172 _ ?side1 ?side2 A14.out).mono ?_);(case side1=>repeat(first|exact(Kd.N_reads' HO1168.out).2.2|(with_reducible refine Kd.C_alloc ?_ _)|(with_reducible refine Kd.C_drewN ?_ _)|(with_reducible refine Kd.C_drew ?_)));(case side2=>exact(Kd.N_reads' HO1168.out).2.1);rintro e w17 ⟨rfl,hb⟩;refine⟨_,rfl,?_⟩;replace HO1168:=Aside0.mk (Kd.N_below (za36 HO1168) hb);replace BK1170:=Aside0.mk (qaa (zB BK1170) hb);replace HB:=Aside0.mk (qab (za1 HB GE1170) hb);(try clear hb)))
      go_meet
      case rel=>exact⟨_,(true),(za43),H',⟨za60 HJ2⟩,⟨by(with_reducible repeat(first|apply Kd.N_alloc|apply Kd.N_drewN|apply Kd.N_drew));exact Kd.N_mono HO1168.out (fun _ hk=>hk.2)⟩,⟨za24 BK1170⟩,⟨za1 HB GE1170⟩⟩
     ·rw[if_neg c15] at H
      have c15b0:(t1171 != t1172)=false:=by simpa using c15
      (try(have c15b1:decide (t1171=t1172)=true:=by simpa using c15))
      (try(have c15b2:(t1171 == t1172)=true:=by simpa using c15))
      clear c15
      (first|rw[c15b0]|(simp only[qaf,qag];rw[c15b0])|skip)
      have H':=Aside0.mk H
      clear H
      obtain⟨hcz18_0,hcz18_1,hcz18_2,hcz18_3,hcz18_4,hfz18_0,hfz18_1,hfz18_2,hfz18_3,hfz18_4⟩:=zC5 BK1170
      go_wp2_with(first|((with_reducible refine qac (f:=45) rfl ?_);refine zF (some 25) Try.func45 #[.agg #[.int .i64 t1163,.bool t1164,.int .i64 t1165,.slice Ao12 t1166.length co12,.int .i64 t1169]] ?_;(with_reducible refine(spec_HouseOk.calls kj2 t1163 t1164 t1165 _ _ t1166 t1169 t1172 _ ?side1 ?side2 A14.out).mono ?_);(case side1=>repeat(first|exact(Kd.N_reads' HO1168.out).2.2|(with_reducible refine Kd.C_alloc ?_ _)|(with_reducible refine Kd.C_drewN ?_ _)|(with_reducible refine Kd.C_drew ?_)));(case side2=>exact(Kd.N_reads' HO1168.out).2.1);rintro e w19 ⟨rfl,hb⟩;refine⟨_,rfl,?_⟩;replace HO1168:=Aside0.mk (Kd.N_below (za36 HO1168) hb);replace BK1170:=Aside0.mk (qaa (zB BK1170) hb);replace HB:=Aside0.mk (qab (za1 HB GE1170) hb);(try clear hb)))
      go_meet
      case rel=>exact⟨_,(!t1171),(za43),H',⟨za60 HJ2⟩,⟨by(with_reducible repeat(first|apply Kd.N_alloc|apply Kd.N_drewN|apply Kd.N_drew));exact Kd.N_mono HO1168.out (fun _ hk=>hk.2)⟩,⟨za24 BK1170⟩,⟨za1 HB GE1170⟩⟩
    case rest=>
     clear HC8
     try clear c1
     try clear p2
     try clear c4
     try clear c4b0
     try clear c4b1
     try clear c5
     try clear c14
     try clear c15
     try clear c15b0
     try clear c15b1
     try clear c15b2
     try clear hcz11_0
     try clear hcz11_1
     try clear hcz11_2
     try clear hcz11_3
     try clear hcz11_4
     try clear hcz16_0
     try clear hcz16_1
     try clear hcz16_2
     try clear hcz16_3
     try clear hcz16_4
     try clear hcz18_0
     try clear hcz18_1
     try clear hcz18_2
     try clear hcz18_3
     try clear hcz18_4
     try clear hfz11_0
     try clear hfz11_1
     try clear hfz11_2
     try clear hfz11_3
     try clear hfz11_4
     try clear hfz16_0
     try clear hfz16_1
     try clear hfz16_2
     try clear hfz16_3
     try clear hfz16_4
     try clear hfz18_0
     try clear hfz18_1
     try clear hfz18_2
     try clear hfz18_3
     try clear hfz18_4
     try clear p2
     obtain⟨kq,x30_7,rfl,HA,HJ7,HO_1171003,BK1170,HB⟩:=hcut
     cases kq with
     |zero=>exact absurd HA.out (by simp[laws_FnHouseLog.j1])
     |succ kj7=>
      have H:=HA.out
      clear HA
      simp only[laws_FnHouseLog.j1] at H
      by_cases c20:x30_7=true
      ·subst c20
       have H1:((spec_HouseOk.f kj7 t1163 t1164 t1165 t1166 t1169).bind fun t1173=>(some (t1171 == t1173)))=some r:=by rw[if_pos rfl] at H;exact H
       clear H
       have H:=H1
       clear H1
       replace H:=Option.bind_eq_some_iff.mp H
       obtain⟨t1173,A210,H⟩:=H
       replace H:(some (t1171 == t1173))=some r:=H
       have A21:=Aside0.mk A210
       clear A210
       obtain rfl:=Option.some.inj H
       obtain⟨hcz22_0,hcz22_1,hcz22_2,hcz22_3,hcz22_4,hfz22_0,hfz22_1,hfz22_2,hfz22_3,hfz22_4⟩:=zC5 BK1170
       go_wp2_with(first|((with_reducible refine qac (f:=45) rfl ?_);refine zF (some 33) Try.func45 #[.agg #[.int .i64 t1163,.bool t1164,.int .i64 t1165,.slice Ao12 t1166.length co12,.int .i64 t1169]] ?_;(with_reducible refine(spec_HouseOk.calls kj7 t1163 t1164 t1165 _ _ t1166 t1169 t1173 _ ?side1 ?side2 A21.out).mono ?_);(case side1=>repeat(first|exact(Kd.N_reads' HO_1171003.out).2.2|(with_reducible refine Kd.C_alloc ?_ _)|(with_reducible refine Kd.C_drewN ?_ _)|(with_reducible refine Kd.C_drew ?_)));(case side2=>exact(Kd.N_reads' HO_1171003.out).2.1);rintro e w23 ⟨rfl,hb⟩;refine⟨_,rfl,?_⟩;replace HO_1171003:=Aside0.mk (Kd.N_below (za36 HO_1171003) hb);replace BK1170:=Aside0.mk (qaa (zB BK1170) hb);replace HB:=Aside0.mk (qab (za1 HB GE1170) hb);(try clear hb)))
       go_ret
       exact⟨za16,za1 HB GE1170⟩
      ·replace c20:=Bool.eq_false_iff.mpr c20
       subst c20
       have H1:(if(wrap64 ((t1166.length:Int)+1))=0 then(none) else(if 0≤((l1.length:Int)%(wrap64 ((t1166.length:Int)+1))) then(if((l1.length:Int)%(wrap64 ((t1166.length:Int)+1)))≤(t1166.length:Int) then((some (t1166.take (((l1.length:Int)%(wrap64 ((t1166.length:Int)+1))):Int).toNat:List (S32))).bind fun y1174=>((impl_StockOf.f kj7 t1165 y1174).bind fun bt1179=>(if bt1179.2.2=true then((impl_StockOk.f kj7 bt1179.1 bt1179.2.1).bind fun t1191=>(if t1191=true then((impl_HouseOk.f kj7 t1163 t1164 t1165 y1174 (mn ((l1.length:Int)%(wrap64 ((t1166.length:Int)+1))) t1169)).bind fun t1192=>(some t1192)) else(some false))) else(some false)))) else(none)) else(none)))=some r:=by rw[if_neg (show ¬(false=true) by decide)] at H;exact H
       clear H
       have H:=H1
       clear H1
       by_cases c24:(wrap64 ((t1166.length:Int)+1))=0
       ·rw[if_pos c24] at H
        exact absurd H (by simp)
       ·rw[if_neg c24] at H
        have c24b0:((wrap64 ((t1166.length:Int)+1)) == 0)=false:=beq_eq_false_iff_ne.mpr c24
        have c24b1:((wrap64 ((t1166.length:Int)+1)) != 0)=true:=bne_iff_ne.mpr c24
        obtain⟨ji25,hji25⟩:∃j_:Int,((l1.length:Int)%(wrap64 ((t1166.length:Int)+1)))=j_:=⟨_,rfl⟩
        replace H:(if 0≤(ji25) then(if(ji25)≤(t1166.length:Int) then((some (t1166.take ((ji25):Int).toNat:List (S32))).bind fun y1174=>((impl_StockOf.f kj7 t1165 y1174).bind fun bt1179=>(if bt1179.2.2=true then((impl_StockOk.f kj7 bt1179.1 bt1179.2.1).bind fun t1191=>(if t1191=true then((impl_HouseOk.f kj7 t1163 t1164 t1165 y1174 (mn (ji25) t1169)).bind fun t1192=>(some t1192)) else(some false))) else(some false)))) else(none)) else(none))=some r:=by first|(rw[hji25] at H;exact H)|(simp only[hji25] at H ⊢;exact H)
        by_cases c26:0≤(ji25)
        ·rw[if_pos c26] at H
         have c26b0:=eq_true c26
         have c26b1:decide (0≤(ji25))=true:=decide_eq_true c26
         clear c26
         by_cases c27:(ji25)≤(t1166.length:Int)
         ·rw[if_pos c27] at H
          have c27b0:=eq_true c27
          have c27b1:decide ((ji25)≤(t1166.length:Int))=true:=decide_eq_true c27
          clear c27
          obtain⟨y1174,hy1174⟩:∃y_:List (S32),y_=(t1166.take ((ji25):Int).toNat):=⟨_,rfl⟩
          replace H:((impl_StockOf.f kj7 t1165 y1174).bind fun bt1179=>(if bt1179.2.2=true then((impl_StockOk.f kj7 bt1179.1 bt1179.2.1).bind fun t1191=>(if t1191=true then((impl_HouseOk.f kj7 t1163 t1164 t1165 y1174 (mn (ji25) t1169)).bind fun t1192=>(some t1192)) else(some false))) else(some false)))=some r:=by first|(rw[hy1174];with_reducible exact H)|(have H2_:=(Option.bind_some _ _).symm.trans H;rw[hy1174];with_reducible exact H2_)|(have H2_:=(Option.bind_some _ _).symm.trans H;with_reducible exact H2_)|with_reducible exact H|(rw[hy1174];exact H)|exact H
          have Ny1174:=Aside0.mk hy1174
          clear hy1174
          replace H:=Option.bind_eq_some_iff.mp H
          obtain⟨⟨t1179,t1180,t1183⟩,A280,H⟩:=H
          replace H:(if t1183=true then((impl_StockOk.f kj7 t1179 t1180).bind fun t1191=>(if t1191=true then((impl_HouseOk.f kj7 t1163 t1164 t1165 y1174 (mn (ji25) t1169)).bind fun t1192=>(some t1192)) else(some false))) else(some false))=some r:=H
          have A28:=Aside0.mk A280
          clear A280
          have c29b0:=eq_true (of_decide_eq_true (za9):0≤(ji25))
          have c30b0:=eq_true (of_decide_eq_true (za9):(ji25)≤(t1166.length:Int))
          obtain⟨ji31,hji31⟩:∃j_:Int,(mn (ji25) t1169)=j_:=⟨_,rfl⟩
          replace H:(if t1183=true then((impl_StockOk.f kj7 t1179 t1180).bind fun t1191=>(if t1191=true then((impl_HouseOk.f kj7 t1163 t1164 t1165 y1174 (ji31)).bind fun t1192=>(some t1192)) else(some false))) else(some false))=some r:=by first|(rw[hji31] at H;exact H)|(simp only[hji31] at H ⊢;exact H)
          (try rw[hji31] at A28)
          have hji31_:(if t1169<(ji25) then t1169 else(ji25))=ji31:=hji31
          by_cases c32:t1183=true
          ·subst c32
           have H1:((impl_StockOk.f kj7 t1179 t1180).bind fun t1191=>(if t1191=true then((impl_HouseOk.f kj7 t1163 t1164 t1165 y1174 (ji31)).bind fun t1192=>(some t1192)) else(some false)))=some r:=by rw[if_pos rfl] at H;exact H
           clear H
           have H:=H1
           clear H1
           replace H:=Option.bind_eq_some_iff.mp H
           obtain⟨t1191,A330,H⟩:=H
           replace H:(if t1191=true then((impl_HouseOk.f kj7 t1163 t1164 t1165 y1174 (ji31)).bind fun t1192=>(some t1192)) else(some false))=some r:=H
           have A33:=Aside0.mk A330
           clear A330
           by_cases c34:t1191=true
           ·subst c34
            have H1:((impl_HouseOk.f kj7 t1163 t1164 t1165 y1174 (ji31)).bind fun t1192=>(some t1192))=some r:=by rw[if_pos rfl] at H;exact H
            clear H
            have H:=H1
            clear H1
            replace H:=Option.bind_eq_some_iff.mp H
            obtain⟨t1192,A350,H⟩:=H
            replace H:(some t1192)=some r:=H
            have A35:=Aside0.mk A350
            clear A350
            obtain rfl:=Option.some.inj H
            obtain⟨hcz36_0,hcz36_1,hcz36_2,hcz36_3,hcz36_4,hfz36_0,hfz36_1,hfz36_2,hfz36_3,hfz36_4⟩:=zC5 BK1170
            try go_wp2
            replace HO_1171003:=Aside0.mk (Kd.N_drew HO_1171003.out)
            replace BK1170:=Aside0.mk (blk_drew BK1170.out)
            replace HB:=Aside0.mk (qao HB.out)
            have q38:((ji25):Int)≤((t1166.length:Int):Int):=of_decide_eq_true (za9)
            obtain⟨i038,hi038,_,hsz38,_⟩:=info_parts info32
            have hroom38:t1166.length≤co12:=(Kd.N_reads' HO_1171003.out).2.1
            have hC38:Kd.F k32 _ _ Ao12 t1166.length t1166:=(Kd.V_at (base:=w.heap.size) (Kd.N_V HO_1171003.out)).2.2
            have hcut38:=cut_to (P:=Try.prog) 23 32 .i64 Try.underlying23 hi038 Ao12 t1166.length co12 (ji25) (of_decide_eq_true (za9)) q38 hroom38
            have hr38:=Kd.F_take (m:=((ji25):Int).toNat) hC38 (by omega)
            have hy38:y1174.length=((ji25):Int).toNat:=(by rw[Ny1174.out,List.length_take];omega)
            rw[←Ny1174.out] at hr38
            rw[←hy38] at hcut38
            have HO1178:=Aside0.mk (show Kd.V k32 32 _ w.heap.size _ (.slice Ao12 y1174.length co12) y1174 from Kd.V_mk (by omega) hr38)
            have HC1178:=Aside0.mk (show y1174.length≤co12 from by omega)
            clear hr38 hC38 hroom38 hi038 hsz38
            have KY38:=Aside0.mk hy38
            clear hy38
            replace q38:=eq_true q38
            refine start_ (n:=14) (S:=fun w'=>w'.cell? ⟨gb1170,0,none⟩=some (.int .i64 t1163)∧w'.cell? ⟨gb1170,1,none⟩=some (.bool t1164)∧w'.cell? ⟨gb1170,2,none⟩=some (.int .i64 t1165)∧w'.cell? ⟨gb1170,3,none⟩=some (.slice Ao12 t1166.length co12)∧w'.cell? ⟨gb1170,4,none⟩=some (.int .i64 t1169)) (ds:=[]) #[false,false,false,false,false,false,false,false,false,false,false,false,false,false] (by kernel_rfl) rfl rfl ⟨(blk_cell BK1170.out 0).trans rfl,(blk_cell BK1170.out 1).trans rfl,(blk_cell BK1170.out 2).trans rfl,(blk_cell BK1170.out 3).trans rfl,(blk_cell BK1170.out 4).trans rfl⟩ (fun hHeld=>?_);refine with_tabW laws_FnHouseLog.tab8 laws_FnHouseLog.bits8 (fun HT_ HW_=>?_)
            generalize wc.drew=w37 at HO_1171003 BK1170 HB HO1178 hHeld ⊢
            refine qaj (i:=0) (N:=some 44) (v:=?_) (a':=?_) #[true,false,false,false,false,false,false,false,false,false,false,false,false,false] rfl rfl (qah HT_.out (by kernel_rfl)) (fun _ _ _ h=>h) (Or.inl ⟨by rfl,?_⟩) ?_ ?_
            rotate_left
            ·intro w'
             go_simp
             with_reducible rfl
            rotate_left
            ·simp only[Act.put,List.setIfInBounds_toArray,List.set_cons_zero,List.set_cons_succ,qaf,qag]
             rfl
            refine qaj (i:=2) (N:=some 46) (v:=?_) (a':=?_) #[true,false,true,false,false,false,false,false,false,false,false,false,false,false] rfl rfl (qah HT_.out (by kernel_rfl)) (fun _ _ _ h=>h) (Or.inl ⟨by rfl,?_⟩) ?_ ?_
            rotate_left
            ·intro w'
             go_simp
             with_reducible rfl
            rotate_left
            ·simp only[Act.put,List.setIfInBounds_toArray,List.set_cons_zero,List.set_cons_succ,qaf,qag]
             rfl
            refine qaj (i:=3) (N:=some 47) (v:=?_) (a':=?_) #[true,false,true,true,false,false,false,false,false,false,false,false,false,false] rfl rfl (qah HT_.out (by kernel_rfl)) (fun _ _ _ h=>h) (Or.inl ⟨by rfl,?_⟩) ?_ ?_
            rotate_left
            ·intro w'
             go_simp
             with_reducible rfl
            rotate_left
            ·simp only[Act.put,List.setIfInBounds_toArray,List.set_cons_zero,List.set_cons_succ,qaf,qag]
             rfl
            refine qaj (i:=5) (N:=some 49) (v:=?_) (a':=?_) #[true,false,true,true,false,true,false,false,false,false,false,false,false,false] rfl rfl (qah HT_.out (by kernel_rfl)) (fun _ _ _ h=>h) (Or.inl ⟨by rfl,?_⟩) ?_ ?_
            rotate_left
            ·intro w'
             go_simp
             with_reducible rfl
            rotate_left
            ·simp only[Act.put,List.setIfInBounds_toArray,List.set_cons_zero,List.set_cons_succ,qaf,qag]
             rfl
            refine take_ (i:=1) (N:=some 45) (v:=?_) (a':=?_) #[true,true,true,true,false,true,false,false,false,false,false,false,false,false] rfl rfl (qap HT_.out HW_.out (by kernel_rfl)) (fun _ _ _ h=>h) (Or.inl ⟨by rfl,?_⟩) hHeld ?_ ?_
            rotate_left
            ·rintro w' ⟨s0,s1,s2,s3,s4⟩
             go_simp
             with_reducible rfl
            rotate_left
            ·simp only[Act.put,List.setIfInBounds_toArray,List.set_cons_zero,List.set_cons_succ,qaf,qag]
             rfl
            refine take_ (i:=4) (N:=some 48) (v:=?_) (a':=?_) #[true,true,true,true,true,true,false,false,false,false,false,false,false,false] rfl rfl (qap HT_.out HW_.out (by kernel_rfl)) (fun _ _ _ h=>h) (Or.inl ⟨by rfl,?_⟩) hHeld ?_ ?_
            rotate_left
            ·rintro w' ⟨s0,s1,s2,s3,s4⟩
             go_simp
             with_reducible rfl
            rotate_left
            ·simp only[Act.put,List.setIfInBounds_toArray,List.set_cons_zero,List.set_cons_succ,qaf,qag]
             rfl
            refine qaj (i:=6) (N:=some 50) (v:=?_) (a':=?_) #[true,true,true,true,true,true,true,false,false,false,false,false,false,false] rfl rfl (qah HT_.out (by kernel_rfl)) (fun _ _ _ h=>h) (Or.inl ⟨by rfl,?_⟩) ?_ ?_
            rotate_left
            ·intro w'
             go_simp
             with_reducible rfl
            rotate_left
            ·simp only[Act.put,List.setIfInBounds_toArray,List.set_cons_zero,List.set_cons_succ,qaf,qag]
             rfl
            refine join_ (σ:=Value × Nat) 2 #[true,true,true,true,true,true,true,true,true,true,true,true,false,false] (fun s_=>[(51,.tuple #[.agg #[.int .i64 t1179,s_.1],.bool true]),(8,.pointer (some ⟨s_.2,0,none⟩)),(43,.tuple #[.agg #[.int .i64 t1179,s_.1],.bool true]),(52,.agg #[.int .i64 t1179,s_.1]),(53,.bool true)]) (fun s_ w'=>(w'.cell? ⟨gb1170,0,none⟩=some (.int .i64 t1163)∧w'.cell? ⟨gb1170,1,none⟩=some (.bool t1164)∧w'.cell? ⟨gb1170,2,none⟩=some (.int .i64 t1165)∧w'.cell? ⟨gb1170,3,none⟩=some (.slice Ao12 t1166.length co12)∧w'.cell? ⟨gb1170,4,none⟩=some (.int .i64 t1169))∧(Kd.V k32 32 w' w.heap.size (fun k_=>some k_≠(s_.1:Value).ownBlock∧k_≠gb1170∧k_≠s_.2) (.slice Ao12 y1174.length co12) y1174)∧(Kd.R k49 49 w' w.heap.size (fun _=>True) s_.1 t1180)∧(Kd.N k32 32 w' w.heap.size (fun k_=>some k_≠(s_.1:Value).ownBlock∧k_≠gb1170∧k_≠s_.2) (.slice Ao12 t1166.length co12) t1166)∧(w'.heap[gb1170]?=some (.cells #[.int .i64 t1163,.bool t1164,.int .i64 t1165,.slice Ao12 t1166.length co12,.int .i64 t1169] 72 (0,0)))∧(w'.heap[s_.2]?=some (.cells #[.int .i64 0,.slice none 0 0] 38 (0,0)))∧(w.heap.size≤s_.2)∧(w.heap.size≤s_.2)∧(gb1170≠s_.2)∧(s_.2≠gb1170)∧(Below w.heap.size w w')) ?_ ?_
            rotate_left
            ·intro hCont
             refine two_ (i:=7) (j:=11) (Ni:=some 51) (Nj:=some 8) #[true,true,true,true,true,true,true,true,false,false,false,false,false,false] #[true,true,true,true,true,true,true,false,false,false,false,true,false,false] rfl rfl rfl rfl (two_of HT_.out (by kernel_rfl)) (by decide) (by decide) (fun K hK=>?_) (fun K hK=>?_)
             ·skip
              refine goes_ Try.func22 (by kernel_rfl) rfl #[.int .i64 t1165,.slice Ao12 y1174.length co12] (by rfl) rfl rfl (by(try simp only[List.map_toArray,List.map_cons,List.map_nil]);first|done|rfl|(simp only[List.length_drop,List.length_take];rfl)) ?_
              with_reducible refine(impl_StockOf.calls kj7 t1165 _ _ y1174 t1179 t1180 true _ ?side1 ?side2 A28.out).mono ?_
              (case side1=>repeat(first|exact(Kd.V_reads' HO1178.out).2.2|(with_reducible refine Kd.C_alloc ?_ _)|(with_reducible refine Kd.C_drewN ?_ _)|(with_reducible refine Kd.C_drew ?_)))
              (case side2=>exact(Kd.V_reads' HO1178.out).2.1)
              rintro e w39 ⟨v1181,rfl,ho0,hb⟩
              refine⟨_,rfl,?_⟩
              replace HO_1171003:=Aside0.mk (Kd.N_elder' (za36 HO_1171003) (Kd.R_base ho0) hb)
              replace HO1178:=Aside0.mk (Kd.V_elder' (za42 HO1178) (Kd.R_base ho0) hb)
              have HO1182:=Aside0.mk (Kd.R_lower ho0 (below_size (za1 HB GE1170)))
              replace BK1170:=Aside0.mk (qaa (zB BK1170) hb)
              replace HB:=Aside0.mk (qab (za1 HB GE1170) hb)
              (try clear hb)
              (try clear hb2)
              (try clear hk)
              (try clear hi)
              (try clear ho0)
              refine hK.out _ _ ⟨(blk_cell BK1170.out 0).trans rfl,(blk_cell BK1170.out 1).trans rfl,(blk_cell BK1170.out 2).trans rfl,(blk_cell BK1170.out 3).trans rfl,(blk_cell BK1170.out 4).trans rfl⟩ (fun hHeld=>?_)
              clear hK K
              refine norm_ (a':=?_) ?_ ?_
              rotate_left
              ·show Act.put _ (some 51) _=_
               simp only[Act.put,List.setIfInBounds_toArray,List.set_cons_zero,List.set_cons_succ,qaf,qag]
               rfl
              refine qaj (i:=8) (N:=some 43) (v:=?_) (a':=?_) #[true,true,true,true,true,true,true,true,true,false,false,false,false,false] rfl rfl (qah HT_.out (by kernel_rfl)) (fun _ _ _ h=>h) (Or.inl ⟨by rfl,?_⟩) ?_ ?_
              rotate_left
              ·intro w'
               go_simp
               with_reducible rfl
              rotate_left
              ·simp only[Act.put,List.setIfInBounds_toArray,List.set_cons_zero,List.set_cons_succ,qaf,qag]
               rfl
              refine qaj (i:=9) (N:=some 52) (v:=?_) (a':=?_) #[true,true,true,true,true,true,true,true,true,true,false,false,false,false] rfl rfl (qah HT_.out (by kernel_rfl)) (fun _ _ _ h=>h) (Or.inl ⟨by rfl,?_⟩) ?_ ?_
              rotate_left
              ·intro w'
               go_simp
               with_reducible rfl
              rotate_left
              ·simp only[Act.put,List.setIfInBounds_toArray,List.set_cons_zero,List.set_cons_succ,qaf,qag]
               rfl
              refine qaj (i:=10) (N:=some 53) (v:=?_) (a':=?_) #[true,true,true,true,true,true,true,true,true,true,true,false,false,false] rfl rfl (qah HT_.out (by kernel_rfl)) (fun _ _ _ h=>h) (Or.inl ⟨by rfl,?_⟩) ?_ ?_
              rotate_left
              ·intro w'
               go_simp
               with_reducible rfl
              rotate_left
              ·simp only[Act.put,List.setIfInBounds_toArray,List.set_cons_zero,List.set_cons_succ,qaf,qag]
               rfl
              refine one_ (i:=11) (N:=some 8) #[true,true,true,true,true,true,true,true,true,true,true,true,false,false] rfl rfl (one_of HT_.out (by kernel_rfl)) (by decide) (fun K hK=>?_)
              refine box_step (by rfl) (N:=8) (by rfl) (cs:=#[.int .i64 0,.slice none 0 0]) (t:=38) (by first|(go_simp;done)|(go_simp;rfl)) ?_
              intro gb1184 hg w40 hbox hb
              replace HO_1171003:=Aside0.mk (Kd.N_below (Kd.N_elderB (za36 HO_1171003) gb1184 (Nat.le_of_eq hg.symm)) hb)
              replace HO1178:=Aside0.mk (Kd.V_below (Kd.V_elderB (za42 HO1178) gb1184 (Nat.le_of_eq hg.symm)) hb)
              replace HO1182:=Aside0.mk (Kd.R_below (za5 HO1182) hb)
              have BK1184:=Aside0.mk hbox
              have GW1184:=zH (w:=w) hg (za1 HB GE1170)
              have GE1184:=GW1184
              replace HB:=Aside0.mk (qab (za1 HB GE1170) hb)
              have NB1170_1184:=zL BK1170 hg
              have NB1184_1170:=zG BK1170 hg
              replace BK1170:=Aside0.mk (qaa (zB BK1170) hb)
              clear hb hbox hg
              refine hK.out _ _ ⟨(blk_cell BK1170.out 0).trans rfl,(blk_cell BK1170.out 1).trans rfl,(blk_cell BK1170.out 2).trans rfl,(blk_cell BK1170.out 3).trans rfl,(blk_cell BK1170.out 4).trans rfl⟩ (fun hHeld=>?_)
              clear hK K
              refine norm_ (a':=?_) ?_ ?_
              rotate_left
              ·show Act.put _ (some 8) _=_
               simp only[Act.put,List.setIfInBounds_toArray,List.set_cons_zero,List.set_cons_succ,qaf,qag]
               rfl
              exact norm_ (by simp only[putAll,Act.put,List.setIfInBounds_toArray,List.set_cons_zero,List.set_cons_succ]) (hCont (v1181,gb1184) _ ⟨hHeld,(by(with_reducible repeat(first|apply Kd.V_alloc|apply Kd.V_drewN|apply Kd.V_drew));exact Kd.V_mono HO1178.out (fun _ hk=>⟨hk.1.2,⟨hk.1.1,hk.2⟩⟩)),(za5 HO1182),(by(with_reducible repeat(first|apply Kd.N_alloc|apply Kd.N_drewN|apply Kd.N_drew));exact Kd.N_mono HO_1171003.out (fun _ hk=>⟨hk.1.2,⟨hk.1.1,hk.2⟩⟩)),(zB BK1170),(zB BK1184),GW1184.out,GE1184.out,NB1170_1184.out,NB1184_1170.out,(za2 HB GE1170 GE1184)⟩)
             ·skip
              refine box_step (by rfl) (N:=8) (by rfl) (cs:=#[.int .i64 0,.slice none 0 0]) (t:=38) (by first|(go_simp;done)|(go_simp;rfl)) ?_
              intro gb1184 hg w39 hbox hb
              replace HO_1171003:=Aside0.mk (Kd.N_below (Kd.N_elderB (za36 HO_1171003) gb1184 (Nat.le_of_eq hg.symm)) hb)
              replace HO1178:=Aside0.mk (Kd.V_below (Kd.V_elderB (za42 HO1178) gb1184 (Nat.le_of_eq hg.symm)) hb)
              have BK1184:=Aside0.mk hbox
              have GW1184:=zH (w:=w) hg (za1 HB GE1170)
              have GE1184:=GW1184
              replace HB:=Aside0.mk (qab (za1 HB GE1170) hb)
              have NB1170_1184:=zL BK1170 hg
              have NB1184_1170:=zG BK1170 hg
              replace BK1170:=Aside0.mk (qaa (zB BK1170) hb)
              clear hb hbox hg
              refine hK.out _ _ ⟨(blk_cell BK1170.out 0).trans rfl,(blk_cell BK1170.out 1).trans rfl,(blk_cell BK1170.out 2).trans rfl,(blk_cell BK1170.out 3).trans rfl,(blk_cell BK1170.out 4).trans rfl⟩ (fun hHeld=>?_)
              clear hK K
              refine norm_ (a':=?_) ?_ ?_
              rotate_left
              ·show Act.put _ (some 8) _=_
               simp only[Act.put,List.setIfInBounds_toArray,List.set_cons_zero,List.set_cons_succ,qaf,qag]
               rfl
              refine one_ (i:=7) (N:=some 51) #[true,true,true,true,true,true,true,true,false,false,false,true,false,false] rfl rfl (one_of HT_.out (by kernel_rfl)) (by decide) (fun K hK=>?_)
              refine goes_ Try.func22 (by kernel_rfl) rfl #[.int .i64 t1165,.slice Ao12 y1174.length co12] (by rfl) rfl rfl (by(try simp only[List.map_toArray,List.map_cons,List.map_nil]);first|done|rfl|(simp only[List.length_drop,List.length_take];rfl)) ?_
              with_reducible refine(impl_StockOf.calls kj7 t1165 _ _ y1174 t1179 t1180 true _ ?side1 ?side2 A28.out).mono ?_
              (case side1=>repeat(first|exact(Kd.V_reads' HO1178.out).2.2|(with_reducible refine Kd.C_alloc ?_ _)|(with_reducible refine Kd.C_drewN ?_ _)|(with_reducible refine Kd.C_drew ?_)))
              (case side2=>exact(Kd.V_reads' HO1178.out).2.1)
              rintro e w40 ⟨v1181,rfl,ho0,hb⟩
              refine⟨_,rfl,?_⟩
              replace HO_1171003:=Aside0.mk (Kd.N_elder' (za36 HO_1171003) (Kd.R_base ho0) hb)
              replace HO1178:=Aside0.mk (Kd.V_elder' (za42 HO1178) (Kd.R_base ho0) hb)
              have HO1182:=Aside0.mk (Kd.R_lower ho0 (below_size (za2 HB GE1170 GE1184)))
              replace BK1170:=Aside0.mk (qaa (zB BK1170) hb)
              replace BK1184:=Aside0.mk (qaa (zB BK1184) hb)
              replace HB:=Aside0.mk (qab (za2 HB GE1170 GE1184) hb)
              (try clear hb)
              (try clear hb2)
              (try clear hk)
              (try clear hi)
              (try clear ho0)
              refine hK.out _ _ ⟨(blk_cell BK1170.out 0).trans rfl,(blk_cell BK1170.out 1).trans rfl,(blk_cell BK1170.out 2).trans rfl,(blk_cell BK1170.out 3).trans rfl,(blk_cell BK1170.out 4).trans rfl⟩ (fun hHeld=>?_)
              clear hK K
              refine norm_ (a':=?_) ?_ ?_
              rotate_left
              ·show Act.put _ (some 51) _=_
               simp only[Act.put,List.setIfInBounds_toArray,List.set_cons_zero,List.set_cons_succ,qaf,qag]
               rfl
              refine qaj (i:=8) (N:=some 43) (v:=?_) (a':=?_) #[true,true,true,true,true,true,true,true,true,false,false,true,false,false] rfl rfl (qah HT_.out (by kernel_rfl)) (fun _ _ _ h=>h) (Or.inl ⟨by rfl,?_⟩) ?_ ?_
              rotate_left
              ·intro w'
               go_simp
               with_reducible rfl
              rotate_left
              ·simp only[Act.put,List.setIfInBounds_toArray,List.set_cons_zero,List.set_cons_succ,qaf,qag]
               rfl
              refine qaj (i:=9) (N:=some 52) (v:=?_) (a':=?_) #[true,true,true,true,true,true,true,true,true,true,false,true,false,false] rfl rfl (qah HT_.out (by kernel_rfl)) (fun _ _ _ h=>h) (Or.inl ⟨by rfl,?_⟩) ?_ ?_
              rotate_left
              ·intro w'
               go_simp
               with_reducible rfl
              rotate_left
              ·simp only[Act.put,List.setIfInBounds_toArray,List.set_cons_zero,List.set_cons_succ,qaf,qag]
               rfl
              refine qaj (i:=10) (N:=some 53) (v:=?_) (a':=?_) #[true,true,true,true,true,true,true,true,true,true,true,true,false,false] rfl rfl (qah HT_.out (by kernel_rfl)) (fun _ _ _ h=>h) (Or.inl ⟨by rfl,?_⟩) ?_ ?_
              rotate_left
              ·intro w'
               go_simp
               with_reducible rfl
              rotate_left
              ·simp only[Act.put,List.setIfInBounds_toArray,List.set_cons_zero,List.set_cons_succ,qaf,qag]
               rfl
              exact norm_ (by simp only[putAll,Act.put,List.setIfInBounds_toArray,List.set_cons_zero,List.set_cons_succ]) (hCont (v1181,gb1184) _ ⟨hHeld,(by(with_reducible repeat(first|apply Kd.V_alloc|apply Kd.V_drewN|apply Kd.V_drew));exact Kd.V_mono HO1178.out (fun _ hk=>⟨hk.2,⟨hk.1.1,hk.1.2⟩⟩)),(za5 HO1182),(by(with_reducible repeat(first|apply Kd.N_alloc|apply Kd.N_drewN|apply Kd.N_drew));exact Kd.N_mono HO_1171003.out (fun _ hk=>⟨hk.2,⟨hk.1.1,hk.1.2⟩⟩)),(zB BK1170),(zB BK1184),GW1184.out,GE1184.out,NB1170_1184.out,NB1184_1170.out,(za2 HB GE1170 GE1184)⟩)
            rintro⟨v1181,gb1184⟩ w41 ⟨hS_,h0_,h1_,h2_,h3_,h4_,h5_,h6_,h7_,h8_,h9_⟩
            have HO1178:Aside0 (Kd.V k32 32 w41 w.heap.size (fun k_=>some k_≠(v1181:Value).ownBlock∧k_≠gb1170∧k_≠gb1184) (.slice Ao12 y1174.length co12) y1174):=⟨h0_⟩
            have HO1182:Aside0 (Kd.R k49 49 w41 w.heap.size (fun _=>True) v1181 t1180):=⟨h1_⟩
            replace HO_1171003:Aside0 (Kd.N k32 32 w41 w.heap.size (fun k_=>some k_≠(v1181:Value).ownBlock∧k_≠gb1170∧k_≠gb1184) (.slice Ao12 t1166.length co12) t1166):=⟨h2_⟩
            replace BK1170:Aside0 (w41.heap[gb1170]?=some (.cells #[.int .i64 t1163,.bool t1164,.int .i64 t1165,.slice Ao12 t1166.length co12,.int .i64 t1169] 72 (0,0))):=⟨h3_⟩
            have BK1184:Aside0 (w41.heap[gb1184]?=some (.cells #[.int .i64 0,.slice none 0 0] 38 (0,0))):=⟨h4_⟩
            have GW1184:Aside0 (w.heap.size≤gb1184):=⟨h5_⟩
            have GE1184:Aside0 (w.heap.size≤gb1184):=⟨h6_⟩
            have NB1170_1184:Aside0 (gb1170≠gb1184):=⟨h7_⟩
            have NB1184_1170:Aside0 (gb1184≠gb1170):=⟨h8_⟩
            replace HB:Aside0 (Below w.heap.size w w41):=⟨h9_⟩
            clear h0_ h1_ h2_ h3_ h4_ h5_ h6_ h7_ h8_ h9_
            have hHeld:w41.cell? ⟨gb1170,0,none⟩=some (.int .i64 t1163)∧w41.cell? ⟨gb1170,1,none⟩=some (.bool t1164)∧w41.cell? ⟨gb1170,2,none⟩=some (.int .i64 t1165)∧w41.cell? ⟨gb1170,3,none⟩=some (.slice Ao12 t1166.length co12)∧w41.cell? ⟨gb1170,4,none⟩=some (.int .i64 t1169):=hS_
            obtain⟨Ao43,co43,eo43⟩:=Kd.R_slice HO1182.out
            (first|subst eo43|(injection eo43 with f1_ f2_ f3_;have f4_:=f1_.symm;have f5_:=f3_.symm;clear f1_ f2_ f3_;subst f4_;subst f5_))
            refine norm_ (a':=?_) ?_ ?_
            rotate_left
            ·simp only[putAll,Act.put,List.setIfInBounds_toArray,List.set_cons_zero,List.set_cons_succ]
             rfl
            refine one_ (i:=12) (N:=none) #[true,true,true,true,true,true,true,true,true,true,true,true,true,false] rfl rfl (one_of HT_.out (by kernel_rfl)) (by decide) (fun K hK=>?_)
            have hs42:w41.cell? ⟨gb1184,0,none⟩=some (.int .i64 0):=(blk_cell BK1184.out 0).trans rfl
            have hfs42:=blk_frozen BK1184.out 0
            have hns42_0:=NB1170_1184.out
            have hms42_0:=NB1184_1170.out
            have hs44:w41.cell? ⟨gb1184,1,none⟩=some (.slice none 0 0):=(blk_cell BK1184.out 1).trans rfl
            have hfs44:=blk_frozen BK1184.out 1
            have hns44_0:=NB1170_1184.out
            have hms44_0:=NB1184_1170.out
            refine skip_ (w1:=?_) (by rfl) rfl ?_ ?_
            rotate_left
            ·go_simp
             rfl
            refine hK.out _ _ ⟨((qai (p:=⟨gb1184,_,none⟩) NB1170_1184.out _).trans (((qai (p:=⟨gb1184,_,none⟩) NB1170_1184.out _).trans (hHeld.1)))),((qai (p:=⟨gb1184,_,none⟩) NB1170_1184.out _).trans (((qai (p:=⟨gb1184,_,none⟩) NB1170_1184.out _).trans (hHeld.2.1)))),((qai (p:=⟨gb1184,_,none⟩) NB1170_1184.out _).trans (((qai (p:=⟨gb1184,_,none⟩) NB1170_1184.out _).trans (hHeld.2.2.1)))),((qai (p:=⟨gb1184,_,none⟩) NB1170_1184.out _).trans (((qai (p:=⟨gb1184,_,none⟩) NB1170_1184.out _).trans (hHeld.2.2.2.1)))),((qai (p:=⟨gb1184,_,none⟩) NB1170_1184.out _).trans (((qai (p:=⟨gb1184,_,none⟩) NB1170_1184.out _).trans (hHeld.2.2.2.2))))⟩ (fun hHeld=>?_)
            clear hK K
            refine qaj (i:=13) (N:=some 9) (v:=?_) (a':=?_) #[true,true,true,true,true,true,true,true,true,true,true,true,true,true] rfl rfl (qah HT_.out (by kernel_rfl)) (fun _ _ _ h=>h) (Or.inl ⟨by rfl,?_⟩) ?_ ?_
            rotate_left
            ·intro w'
             go_simp
             with_reducible rfl
            rotate_left
            ·simp only[Act.put,List.setIfInBounds_toArray,List.set_cons_zero,List.set_cons_succ,qaf,qag]
             rfl
            refine done_ (done_of HT_.out (by kernel_rfl)) ?_
            have hnb45:=NB1170_1184.out
            have hnc45:=NB1184_1170.out
            obtain⟨hcz46_0,hcz46_1,hcz46_2,hcz46_3,hcz46_4,hfz46_0,hfz46_1,hfz46_2,hfz46_3,hfz46_4⟩:=zC5 BK1170
            try go_wp2_with(first|((with_reducible refine qae (N:=10) rfl ?_);(try(refine gate_guard (by rfl) ?_;dsimp only));refine zX (N:=10) (cs:=#[.int .i64 0,.bool false,.int .i64 0,.slice none 0 0,.int .i64 0]) (t:=72) ?_;intro gb1185 hg w47 hbox hb;replace HO_1171003:=Aside0.mk (Kd.N_below (Kd.N_elderB (by(with_reducible repeat(first|apply Kd.N_alloc|apply Kd.N_drewN|apply Kd.N_drew));exact(Kd.N_mono (Kd.N_far (p:=⟨gb1184,1,none⟩) (Kd.N_far (p:=⟨gb1184,0,none⟩) (Kd.N_mono HO_1171003.out (fun k_ hk=>(⟨hk,hk.2.2⟩:_∧k_≠gb1184))) (fun _ hk=>hk.2) (.int .i64 t1179)) (fun _ hk=>hk.2) (.slice Ao43 t1180.length co43)) (fun _ h_=>h_.1))) gb1185 (Nat.le_of_eq hg.symm)) hb);replace HO1178:=Aside0.mk (Kd.V_below (Kd.V_elderB (by(with_reducible repeat(first|apply Kd.V_alloc|apply Kd.V_drewN|apply Kd.V_drew));exact(Kd.V_mono (Kd.V_far (p:=⟨gb1184,1,none⟩) (Kd.V_far (p:=⟨gb1184,0,none⟩) (Kd.V_mono HO1178.out (fun k_ hk=>(⟨hk,hk.2.2⟩:_∧k_≠gb1184))) (fun _ hk=>hk.2) (.int .i64 t1179)) (fun _ hk=>hk.2) (.slice Ao43 t1180.length co43)) (fun _ h_=>h_.1))) gb1185 (Nat.le_of_eq hg.symm)) hb);replace HO1182:=Aside0.mk (Kd.R_below (by(with_reducible repeat(first|apply Kd.R_alloc|apply Kd.R_drewN|apply Kd.R_drew));exact(Kd.R_mono (Kd.R_far (p:=⟨gb1184,1,none⟩) (Kd.R_far (p:=⟨gb1184,0,none⟩) (Kd.R_types HO1182.out BK1184.out (by decide)) (fun _ hk=>hk.2) (.int .i64 t1179)) (fun _ hk=>hk.2) (.slice Ao43 t1180.length co43)) (fun _ h_=>h_.1))) hb);have BK1185:=Aside0.mk hbox;have GW1185:=zH (w:=w) hg (za2 HB GE1170 GE1184);have GE1185:=GW1185;replace HB:=Aside0.mk (qab (za2 HB GE1170 GE1184) hb);have NB1170_1185:=Aside0.mk ((by rw[hg];exact Nat.ne_of_lt (blk_lt (g:=gb1170) (o:=.cells #[.int .i64 t1163,.bool t1164,.int .i64 t1165,.slice Ao12 t1166.length co12,.int .i64 t1169] 72 (0,0)) (za0 NB1170_1184 BK1170)):gb1170≠gb1185));have NB1185_1170:=Aside0.mk ((by rw[hg];exact Nat.ne_of_gt (blk_lt (g:=gb1170) (o:=.cells #[.int .i64 t1163,.bool t1164,.int .i64 t1165,.slice Ao12 t1166.length co12,.int .i64 t1169] 72 (0,0)) (za0 NB1170_1184 BK1170)):gb1185≠gb1170));replace BK1170:=Aside0.mk (qaa (g:=gb1170) (o:=.cells #[.int .i64 t1163,.bool t1164,.int .i64 t1165,.slice Ao12 t1166.length co12,.int .i64 t1169] 72 (0,0)) (za0 NB1170_1184 BK1170) hb);have NB1184_1185:=Aside0.mk ((by rw[hg];exact Nat.ne_of_lt (blk_lt (g:=gb1184) (o:=.cells #[.int .i64 t1179,.slice Ao43 t1180.length co43] 38 (0,0)) (by(with_reducible repeat(first|refine blk_drewN ?_ _|refine blk_drew ?_|refine blk_alloc ?_ _));refine qad (cs:=#[.int .i64 t1179,.slice none 0 0]) ?_ 1 _ rfl;(with_reducible repeat(first|refine blk_drewN ?_ _|refine blk_drew ?_|refine blk_alloc ?_ _));refine qad (cs:=#[.int .i64 0,.slice none 0 0]) ?_ 0 _ rfl;(with_reducible repeat(first|refine blk_drewN ?_ _|refine blk_drew ?_|refine blk_alloc ?_ _));exact BK1184.out)):gb1184≠gb1185));have NB1185_1184:=Aside0.mk ((by rw[hg];exact Nat.ne_of_gt (blk_lt (g:=gb1184) (o:=.cells #[.int .i64 t1179,.slice Ao43 t1180.length co43] 38 (0,0)) (by(with_reducible repeat(first|refine blk_drewN ?_ _|refine blk_drew ?_|refine blk_alloc ?_ _));refine qad (cs:=#[.int .i64 t1179,.slice none 0 0]) ?_ 1 _ rfl;(with_reducible repeat(first|refine blk_drewN ?_ _|refine blk_drew ?_|refine blk_alloc ?_ _));refine qad (cs:=#[.int .i64 0,.slice none 0 0]) ?_ 0 _ rfl;(with_reducible repeat(first|refine blk_drewN ?_ _|refine blk_drew ?_|refine blk_alloc ?_ _));exact BK1184.out)):gb1185≠gb1184));replace BK1184:=Aside0.mk (qaa (g:=gb1184) (o:=.cells #[.int .i64 t1179,.slice Ao43 t1180.length co43] 38 (0,0)) (by(with_reducible repeat(first|refine blk_drewN ?_ _|refine blk_drew ?_|refine blk_alloc ?_ _));refine qad (cs:=#[.int .i64 t1179,.slice none 0 0]) ?_ 1 _ rfl;(with_reducible repeat(first|refine blk_drewN ?_ _|refine blk_drew ?_|refine blk_alloc ?_ _));refine qad (cs:=#[.int .i64 0,.slice none 0 0]) ?_ 0 _ rfl;(with_reducible repeat(first|refine blk_drewN ?_ _|refine blk_drew ?_|refine blk_alloc ?_ _));exact BK1184.out) hb);clear hb hbox hg;have hnb48:=NB1185_1170.out;have hnc48:=NB1170_1185.out;have hnb49:=NB1185_1184.out;have hnc49:=NB1184_1185.out;obtain⟨hcz50_0,hcz50_1,hcz50_2,hcz50_3,hcz50_4,hfz50_0,hfz50_1,hfz50_2,hfz50_3,hfz50_4⟩:=zC5 BK1185))
            have n0_:Aside0 (Kd.N k32 32 (((((w47.setCell ⟨gb1185,0,none⟩ (.int .i64 t1163)).setCell ⟨gb1185,1,none⟩ (.bool t1164)).setCell ⟨gb1185,2,none⟩ (.int .i64 t1165)).setCell ⟨gb1185,3,none⟩ (.slice Ao12 t1166.length co12)).setCell ⟨gb1185,4,none⟩ (.int .i64 t1169)) w.heap.size (fun k_=>some k_≠(.slice Ao43 t1180.length co43:Value).ownBlock∧k_≠gb1170∧k_≠gb1184∧k_≠gb1185) (.slice Ao12 t1166.length co12) t1166):=⟨by(with_reducible repeat(first|apply Kd.N_alloc|apply Kd.N_drewN|apply Kd.N_drew));exact Kd.N_mono (Kd.N_far (p:=⟨gb1185,4,none⟩) (Kd.N_far (p:=⟨gb1185,3,none⟩) (Kd.N_far (p:=⟨gb1185,2,none⟩) (Kd.N_far (p:=⟨gb1185,1,none⟩) (Kd.N_far (p:=⟨gb1185,0,none⟩) (Kd.N_mono HO_1171003.out (fun k_ hk=>(⟨hk,hk.2⟩:_∧k_≠gb1185))) (fun _ hk=>hk.2) (.int .i64 t1163)) (fun _ hk=>hk.2) (.bool t1164)) (fun _ hk=>hk.2) (.int .i64 t1165)) (fun _ hk=>hk.2) (.slice Ao12 t1166.length co12)) (fun _ hk=>hk.2) (.int .i64 t1169)) (fun _ hk=>⟨hk.1.1.1,⟨hk.1.1.2.1,⟨hk.1.1.2.2,hk.1.2⟩⟩⟩)⟩
            have n1_:Aside0 (Kd.V k32 32 (((((w47.setCell ⟨gb1185,0,none⟩ (.int .i64 t1163)).setCell ⟨gb1185,1,none⟩ (.bool t1164)).setCell ⟨gb1185,2,none⟩ (.int .i64 t1165)).setCell ⟨gb1185,3,none⟩ (.slice Ao12 t1166.length co12)).setCell ⟨gb1185,4,none⟩ (.int .i64 t1169)) w.heap.size (fun k_=>some k_≠(.slice Ao43 t1180.length co43:Value).ownBlock∧k_≠gb1170∧k_≠gb1184∧k_≠gb1185) (.slice Ao12 y1174.length co12) y1174):=⟨by(with_reducible repeat(first|apply Kd.V_alloc|apply Kd.V_drewN|apply Kd.V_drew));exact Kd.V_mono (Kd.V_far (p:=⟨gb1185,4,none⟩) (Kd.V_far (p:=⟨gb1185,3,none⟩) (Kd.V_far (p:=⟨gb1185,2,none⟩) (Kd.V_far (p:=⟨gb1185,1,none⟩) (Kd.V_far (p:=⟨gb1185,0,none⟩) (Kd.V_mono HO1178.out (fun k_ hk=>(⟨hk,hk.2⟩:_∧k_≠gb1185))) (fun _ hk=>hk.2) (.int .i64 t1163)) (fun _ hk=>hk.2) (.bool t1164)) (fun _ hk=>hk.2) (.int .i64 t1165)) (fun _ hk=>hk.2) (.slice Ao12 t1166.length co12)) (fun _ hk=>hk.2) (.int .i64 t1169)) (fun _ hk=>⟨hk.1.1.1,⟨hk.1.1.2.1,⟨hk.1.1.2.2,hk.1.2⟩⟩⟩)⟩
            have n2_:Aside0 (Kd.R k49 49 (((((w47.setCell ⟨gb1185,0,none⟩ (.int .i64 t1163)).setCell ⟨gb1185,1,none⟩ (.bool t1164)).setCell ⟨gb1185,2,none⟩ (.int .i64 t1165)).setCell ⟨gb1185,3,none⟩ (.slice Ao12 t1166.length co12)).setCell ⟨gb1185,4,none⟩ (.int .i64 t1169)) w.heap.size (fun _=>True) (.slice Ao43 t1180.length co43) t1180):=⟨by(with_reducible repeat(first|apply Kd.R_alloc|apply Kd.R_drewN|apply Kd.R_drew));exact Kd.R_mono (Kd.R_far (p:=⟨gb1185,4,none⟩) (Kd.R_far (p:=⟨gb1185,3,none⟩) (Kd.R_far (p:=⟨gb1185,2,none⟩) (Kd.R_far (p:=⟨gb1185,1,none⟩) (Kd.R_far (p:=⟨gb1185,0,none⟩) (Kd.R_types HO1182.out BK1185.out (by decide)) (fun _ hk=>hk.2) (.int .i64 t1163)) (fun _ hk=>hk.2) (.bool t1164)) (fun _ hk=>hk.2) (.int .i64 t1165)) (fun _ hk=>hk.2) (.slice Ao12 t1166.length co12)) (fun _ hk=>hk.2) (.int .i64 t1169)) (fun _ hk=>trivial)⟩
            have n3_:Aside0 ((((((w47.setCell ⟨gb1185,0,none⟩ (.int .i64 t1163)).setCell ⟨gb1185,1,none⟩ (.bool t1164)).setCell ⟨gb1185,2,none⟩ (.int .i64 t1165)).setCell ⟨gb1185,3,none⟩ (.slice Ao12 t1166.length co12)).setCell ⟨gb1185,4,none⟩ (.int .i64 t1169)).heap[gb1170]?=some (.cells #[.int .i64 t1163,.bool t1164,.int .i64 t1165,.slice Ao12 t1166.length co12,.int .i64 t1169] 72 (0,0))):=⟨za44 NB1170_1185 BK1170⟩
            have n4_:Aside0 ((((((w47.setCell ⟨gb1185,0,none⟩ (.int .i64 t1163)).setCell ⟨gb1185,1,none⟩ (.bool t1164)).setCell ⟨gb1185,2,none⟩ (.int .i64 t1165)).setCell ⟨gb1185,3,none⟩ (.slice Ao12 t1166.length co12)).setCell ⟨gb1185,4,none⟩ (.int .i64 t1169)).heap[gb1184]?=some (.cells #[.int .i64 t1179,.slice Ao43 t1180.length co43] 38 (0,0))):=⟨za44 NB1184_1185 BK1184⟩
            have n5_:Aside0 ((((((w47.setCell ⟨gb1185,0,none⟩ (.int .i64 t1163)).setCell ⟨gb1185,1,none⟩ (.bool t1164)).setCell ⟨gb1185,2,none⟩ (.int .i64 t1165)).setCell ⟨gb1185,3,none⟩ (.slice Ao12 t1166.length co12)).setCell ⟨gb1185,4,none⟩ (.int .i64 t1169)).heap[gb1185]?=some (.cells #[.int .i64 t1163,.bool t1164,.int .i64 t1165,.slice Ao12 t1166.length co12,.int .i64 t1169] 72 (0,0))):=⟨by(with_reducible repeat(first|refine blk_drewN ?_ _|refine blk_drew ?_|refine blk_alloc ?_ _));refine qad (cs:=#[.int .i64 t1163,.bool t1164,.int .i64 t1165,.slice Ao12 t1166.length co12,.int .i64 0]) ?_ 4 _ rfl;(with_reducible repeat(first|refine blk_drewN ?_ _|refine blk_drew ?_|refine blk_alloc ?_ _));refine qad (cs:=#[.int .i64 t1163,.bool t1164,.int .i64 t1165,.slice none 0 0,.int .i64 0]) ?_ 3 _ rfl;(with_reducible repeat(first|refine blk_drewN ?_ _|refine blk_drew ?_|refine blk_alloc ?_ _));refine qad (cs:=#[.int .i64 t1163,.bool t1164,.int .i64 0,.slice none 0 0,.int .i64 0]) ?_ 2 _ rfl;(with_reducible repeat(first|refine blk_drewN ?_ _|refine blk_drew ?_|refine blk_alloc ?_ _));refine qad (cs:=#[.int .i64 t1163,.bool false,.int .i64 0,.slice none 0 0,.int .i64 0]) ?_ 1 _ rfl;(with_reducible repeat(first|refine blk_drewN ?_ _|refine blk_drew ?_|refine blk_alloc ?_ _));refine qad (cs:=#[.int .i64 0,.bool false,.int .i64 0,.slice none 0 0,.int .i64 0]) ?_ 0 _ rfl;(with_reducible repeat(first|refine blk_drewN ?_ _|refine blk_drew ?_|refine blk_alloc ?_ _));exact BK1185.out⟩
            have n6_:Aside0 (Below w.heap.size w (((((w47.setCell ⟨gb1185,0,none⟩ (.int .i64 t1163)).setCell ⟨gb1185,1,none⟩ (.bool t1164)).setCell ⟨gb1185,2,none⟩ (.int .i64 t1165)).setCell ⟨gb1185,3,none⟩ (.slice Ao12 t1166.length co12)).setCell ⟨gb1185,4,none⟩ (.int .i64 t1169))):=⟨za6 HB GE1170 GE1184 GE1185⟩
            (try clear HO_1171003)
            (try clear HO1178)
            (try clear HO1182)
            (try clear BK1170)
            (try clear BK1184)
            (try clear BK1185)
            (try clear HB)
            generalize (((((w47.setCell ⟨gb1185,0,none⟩ (.int .i64 t1163)).setCell ⟨gb1185,1,none⟩ (.bool t1164)).setCell ⟨gb1185,2,none⟩ (.int .i64 t1165)).setCell ⟨gb1185,3,none⟩ (.slice Ao12 t1166.length co12)).setCell ⟨gb1185,4,none⟩ (.int .i64 t1169))=w51 at n0_ n1_ n2_ n3_ n4_ n5_ n6_ ⊢
            have HO_1171003:=n0_
            have HO1178:=n1_
            have HO1182:=n2_
            have BK1170:=n3_
            have BK1184:=n4_
            have BK1185:=n5_
            have HB:=n6_
            clear n0_ n1_ n2_ n3_ n4_ n5_ n6_
            replace HO_1171003:=Aside0.mk (Kd.N_drew HO_1171003.out)
            replace HO1178:=Aside0.mk (Kd.V_drew HO1178.out)
            replace HO1182:=Aside0.mk (Kd.R_drew HO1182.out)
            replace BK1170:=Aside0.mk (blk_drew BK1170.out)
            replace BK1184:=Aside0.mk (blk_drew BK1184.out)
            replace BK1185:=Aside0.mk (blk_drew BK1185.out)
            replace HB:=Aside0.mk (qao HB.out)
            refine start_ (n:=13) (S:=fun w'=>w'.cell? ⟨gb1170,0,none⟩=some (.int .i64 t1163)∧w'.cell? ⟨gb1170,1,none⟩=some (.bool t1164)∧w'.cell? ⟨gb1170,2,none⟩=some (.int .i64 t1165)∧w'.cell? ⟨gb1170,3,none⟩=some (.slice Ao12 t1166.length co12)∧w'.cell? ⟨gb1170,4,none⟩=some (.int .i64 t1169)) (ds:=[]) #[false,false,false,false,false,false,false,false,false,false,false,false,false] (by kernel_rfl) rfl rfl ⟨(blk_cell BK1170.out 0).trans rfl,(blk_cell BK1170.out 1).trans rfl,(blk_cell BK1170.out 2).trans rfl,(blk_cell BK1170.out 3).trans rfl,(blk_cell BK1170.out 4).trans rfl⟩ (fun hHeld=>?_);refine with_tabW laws_FnHouseLog.tab10 laws_FnHouseLog.bits10 (fun HT_ HW_=>?_)
            generalize w51.drew=w52 at HO_1171003 HO1178 HO1182 BK1170 BK1184 BK1185 HB hHeld ⊢
            refine qaj (i:=0) (N:=some 55) (v:=?_) (a':=?_) #[true,false,false,false,false,false,false,false,false,false,false,false,false] rfl rfl (qah HT_.out (by kernel_rfl)) (fun _ _ _ h=>h) (Or.inl ⟨by rfl,?_⟩) ?_ ?_
            rotate_left
            ·intro w'
             go_simp
             with_reducible rfl
            rotate_left
            ·simp only[Act.put,List.setIfInBounds_toArray,List.set_cons_zero,List.set_cons_succ,qaf,qag]
             rfl
            refine qaj (i:=1) (N:=some 56) (v:=?_) (a':=?_) #[true,true,false,false,false,false,false,false,false,false,false,false,false] rfl rfl (qah HT_.out (by kernel_rfl)) (fun _ _ _ h=>h) (Or.inl ⟨by rfl,?_⟩) ?_ ?_
            rotate_left
            ·intro w'
             go_simp
             with_reducible rfl
            rotate_left
            ·simp only[Act.put,List.setIfInBounds_toArray,List.set_cons_zero,List.set_cons_succ,qaf,qag]
             rfl
            refine qaj (i:=3) (N:=some 58) (v:=?_) (a':=?_) #[true,true,false,true,false,false,false,false,false,false,false,false,false] rfl rfl (qah HT_.out (by kernel_rfl)) (fun _ _ _ h=>h) (Or.inl ⟨by rfl,?_⟩) ?_ ?_
            rotate_left
            ·intro w'
             go_simp
             with_reducible rfl
            rotate_left
            ·simp only[Act.put,List.setIfInBounds_toArray,List.set_cons_zero,List.set_cons_succ,qaf,qag]
             rfl
            refine qaj (i:=5) (N:=some 60) (v:=?_) (a':=?_) #[true,true,false,true,false,true,false,false,false,false,false,false,false] rfl rfl (qah HT_.out (by kernel_rfl)) (fun _ _ _ h=>h) (Or.inl ⟨by rfl,?_⟩) ?_ ?_
            rotate_left
            ·intro w'
             go_simp
             with_reducible rfl
            rotate_left
            ·simp only[Act.put,List.setIfInBounds_toArray,List.set_cons_zero,List.set_cons_succ,qaf,qag]
             rfl
            refine qaj (i:=6) (N:=some 61) (v:=?_) (a':=?_) #[true,true,false,true,false,true,true,false,false,false,false,false,false] rfl rfl (qah HT_.out (by kernel_rfl)) (fun _ _ _ h=>h) (Or.inl ⟨by rfl,?_⟩) ?_ ?_
            rotate_left
            ·intro w'
             go_simp
             with_reducible rfl
            rotate_left
            ·simp only[Act.put,List.setIfInBounds_toArray,List.set_cons_zero,List.set_cons_succ,qaf,qag]
             rfl
            refine qaj (i:=7) (N:=some 62) (v:=?_) (a':=?_) #[true,true,false,true,false,true,true,true,false,false,false,false,false] rfl rfl (qah HT_.out (by kernel_rfl)) (fun _ _ _ h=>h) (Or.inl ⟨by rfl,?_⟩) ?_ ?_
            rotate_left
            ·intro w'
             go_simp
             with_reducible rfl
            rotate_left
            ·simp only[Act.put,List.setIfInBounds_toArray,List.set_cons_zero,List.set_cons_succ,qaf,qag]
             rfl
            refine take_ (i:=2) (N:=some 57) (v:=?_) (a':=?_) #[true,true,true,true,false,true,true,true,false,false,false,false,false] rfl rfl (qap HT_.out HW_.out (by kernel_rfl)) (fun _ _ _ h=>h) (Or.inl ⟨by rfl,?_⟩) hHeld ?_ ?_
            rotate_left
            ·rintro w' ⟨s0,s1,s2,s3,s4⟩
             go_simp
             with_reducible rfl
            rotate_left
            ·simp only[Act.put,List.setIfInBounds_toArray,List.set_cons_zero,List.set_cons_succ,qaf,qag]
             rfl
            refine qaj (i:=4) (N:=some 59) (v:=?_) (a':=?_) #[true,true,true,true,true,true,true,true,false,false,false,false,false] rfl rfl (qah HT_.out (by kernel_rfl)) (fun _ _ _ h=>h) (Or.inl ⟨by rfl,?_⟩) ?_ ?_
            rotate_left
            ·intro w'
             go_simp
             with_reducible rfl
            rotate_left
            ·simp only[Act.put,List.setIfInBounds_toArray,List.set_cons_zero,List.set_cons_succ,qaf,qag]
             rfl
            refine take_ (i:=8) (N:=some 63) (v:=?_) (a':=?_) #[true,true,true,true,true,true,true,true,true,false,false,false,false] rfl rfl (qap HT_.out HW_.out (by kernel_rfl)) (fun _ _ _ h=>h) (Or.inl ⟨by rfl,?_⟩) hHeld ?_ ?_
            rotate_left
            ·rintro w' ⟨s0,s1,s2,s3,s4⟩
             go_simp
             with_reducible rfl
            rotate_left
            ·simp only[Act.put,List.setIfInBounds_toArray,List.set_cons_zero,List.set_cons_succ,qaf,qag]
             rfl
            refine qaj (i:=9) (N:=some 64) (v:=?_) (a':=?_) #[true,true,true,true,true,true,true,true,true,true,false,false,false] rfl rfl (qah HT_.out (by kernel_rfl)) (fun _ _ _ h=>h) (Or.inl ⟨by rfl,?_⟩) ?_ ?_
            rotate_left
            ·intro w'
             go_simp
             with_reducible rfl
            rotate_left
            ·simp only[Act.put,List.setIfInBounds_toArray,List.set_cons_zero,List.set_cons_succ,qaf,qag]
             rfl
            refine qaj (i:=10) (N:=some 65) (v:=?_) (a':=?_) #[true,true,true,true,true,true,true,true,true,true,true,false,false] rfl rfl (qah HT_.out (by kernel_rfl)) (fun _ _ _ h=>h) (Or.inl ⟨by rfl,?_⟩) ?_ ?_
            rotate_left
            ·intro w'
             go_simp
             with_reducible rfl
            rotate_left
            ·simp only[Act.put,List.setIfInBounds_toArray,List.set_cons_zero,List.set_cons_succ,qaf,qag]
             rfl
            refine qaj (i:=11) (N:=some 66) (v:=?_) (a':=?_) #[true,true,true,true,true,true,true,true,true,true,true,true,false] rfl rfl (qah HT_.out (by kernel_rfl)) (fun _ _ _ h=>h) (Or.inl ⟨by rfl,?_⟩) ?_ ?_
            rotate_left
            ·intro w'
             go_simp
             with_reducible rfl
            rotate_left
            ·simp only[Act.put,List.setIfInBounds_toArray,List.set_cons_zero,List.set_cons_succ,qaf,qag]
             rfl
            refine one_ (i:=12) (N:=none) #[true,true,true,true,true,true,true,true,true,true,true,true,true] rfl rfl (one_of HT_.out (by kernel_rfl)) (by decide) (fun K hK=>?_)
            have hs53:w52.cell? ⟨gb1185,3,none⟩=some (.slice Ao12 t1166.length co12):=(blk_cell BK1185.out 3).trans rfl
            have hfs53:=blk_frozen BK1185.out 3
            have hns53_0:=NB1170_1185.out
            have hns53_1:=NB1184_1185.out
            have hms53_0:=NB1185_1170.out
            have hms53_1:=NB1185_1184.out
            have hs54:w52.cell? ⟨gb1185,4,none⟩=some (.int .i64 t1169):=(blk_cell BK1185.out 4).trans rfl
            have hfs54:=blk_frozen BK1185.out 4
            have hns54_0:=NB1170_1185.out
            have hns54_1:=NB1184_1185.out
            have hms54_0:=NB1185_1170.out
            have hms54_1:=NB1185_1184.out
            refine skip_ (w1:=?_) (by rfl) rfl ?_ ?_
            rotate_left
            ·go_simp
             rfl
            refine hK.out _ _ ⟨((qai (p:=⟨gb1185,_,none⟩) NB1170_1185.out _).trans (((qai (p:=⟨gb1185,_,none⟩) NB1170_1185.out _).trans (hHeld.1)))),((qai (p:=⟨gb1185,_,none⟩) NB1170_1185.out _).trans (((qai (p:=⟨gb1185,_,none⟩) NB1170_1185.out _).trans (hHeld.2.1)))),((qai (p:=⟨gb1185,_,none⟩) NB1170_1185.out _).trans (((qai (p:=⟨gb1185,_,none⟩) NB1170_1185.out _).trans (hHeld.2.2.1)))),((qai (p:=⟨gb1185,_,none⟩) NB1170_1185.out _).trans (((qai (p:=⟨gb1185,_,none⟩) NB1170_1185.out _).trans (hHeld.2.2.2.1)))),((qai (p:=⟨gb1185,_,none⟩) NB1170_1185.out _).trans (((qai (p:=⟨gb1185,_,none⟩) NB1170_1185.out _).trans (hHeld.2.2.2.2))))⟩ (fun hHeld=>?_)
            clear hK K
            refine done_ (done_of HT_.out (by kernel_rfl)) ?_
            obtain⟨hcz55_0,hcz55_1,hfz55_0,hfz55_1⟩:=zC2 BK1184
            try go_wp2_with(first|(go_at_call 29;(with_reducible refine(impl_StockOk.calls kj7 t1179 _ _ t1180 true _ ?side1 ?side2 A33.out).mono ?_);(case side1=>refine(Kd.R_reads' (e:=49) (base:=w.heap.size) (ok:=fun k_=>True) (n:=t1180.length) (c:=co43) ?_).2.2;exact(by(with_reducible repeat(first|apply Kd.R_alloc|apply Kd.R_drewN|apply Kd.R_drew));exact(Kd.R_mono (Kd.R_far (p:=⟨gb1185,4,none⟩) (Kd.R_far (p:=⟨gb1185,3,none⟩) (Kd.R_types HO1182.out BK1185.out (by decide)) (fun _ hk=>hk.2) (.slice Ao12 y1174.length co12)) (fun _ hk=>hk.2) (.int .i64 ji31)) (fun _ h_=>h_.1))));(case side2=>exact(Kd.R_reads' HO1182.out).2.1);rintro e w56 ⟨rfl,hb⟩;replace HO_1171003:=Aside0.mk (Kd.N_below (by(with_reducible repeat(first|apply Kd.N_alloc|apply Kd.N_drewN|apply Kd.N_drew));exact(Kd.N_mono (Kd.N_far (p:=⟨gb1185,4,none⟩) (Kd.N_far (p:=⟨gb1185,3,none⟩) (Kd.N_mono HO_1171003.out (fun k_ hk=>(⟨hk,hk.2.2.2⟩:_∧k_≠gb1185))) (fun _ hk=>hk.2) (.slice Ao12 y1174.length co12)) (fun _ hk=>hk.2) (.int .i64 ji31)) (fun _ h_=>h_.1))) hb);replace HO1178:=Aside0.mk (Kd.V_below (by(with_reducible repeat(first|apply Kd.V_alloc|apply Kd.V_drewN|apply Kd.V_drew));exact(Kd.V_mono (Kd.V_far (p:=⟨gb1185,4,none⟩) (Kd.V_far (p:=⟨gb1185,3,none⟩) (Kd.V_mono HO1178.out (fun k_ hk=>(⟨hk,hk.2.2.2⟩:_∧k_≠gb1185))) (fun _ hk=>hk.2) (.slice Ao12 y1174.length co12)) (fun _ hk=>hk.2) (.int .i64 ji31)) (fun _ h_=>h_.1))) hb);replace HO1182:=Aside0.mk (Kd.R_below (by(with_reducible repeat(first|apply Kd.R_alloc|apply Kd.R_drewN|apply Kd.R_drew));exact(Kd.R_mono (Kd.R_far (p:=⟨gb1185,4,none⟩) (Kd.R_far (p:=⟨gb1185,3,none⟩) (Kd.R_types HO1182.out BK1185.out (by decide)) (fun _ hk=>hk.2) (.slice Ao12 y1174.length co12)) (fun _ hk=>hk.2) (.int .i64 ji31)) (fun _ h_=>h_.1))) hb);replace BK1170:=Aside0.mk (qaa (g:=gb1170) (o:=.cells #[.int .i64 t1163,.bool t1164,.int .i64 t1165,.slice Ao12 t1166.length co12,.int .i64 t1169] 72 (0,0)) (za0 NB1170_1185 BK1170) hb);replace BK1184:=Aside0.mk (qaa (g:=gb1184) (o:=.cells #[.int .i64 t1179,.slice Ao43 t1180.length co43] 38 (0,0)) (za0 NB1184_1185 BK1184) hb);replace BK1185:=Aside0.mk (qaa (g:=gb1185) (o:=.cells #[.int .i64 t1163,.bool t1164,.int .i64 t1165,.slice Ao12 y1174.length co12,.int .i64 ji31] 72 (0,0)) (by(with_reducible repeat(first|refine blk_drewN ?_ _|refine blk_drew ?_|refine blk_alloc ?_ _));refine qad (cs:=#[.int .i64 t1163,.bool t1164,.int .i64 t1165,.slice Ao12 y1174.length co12,.int .i64 t1169]) ?_ 4 _ rfl;(with_reducible repeat(first|refine blk_drewN ?_ _|refine blk_drew ?_|refine blk_alloc ?_ _));refine qad (cs:=#[.int .i64 t1163,.bool t1164,.int .i64 t1165,.slice Ao12 t1166.length co12,.int .i64 t1169]) ?_ 3 _ rfl;(with_reducible repeat(first|refine blk_drewN ?_ _|refine blk_drew ?_|refine blk_alloc ?_ _));exact BK1185.out) hb);replace HB:=Aside0.mk (qab (za6 HB GE1170 GE1184 GE1185) hb);(try clear hb);obtain⟨hcz57_0,hcz57_1,hcz57_2,hcz57_3,hcz57_4,hfz57_0,hfz57_1,hfz57_2,hfz57_3,hfz57_4⟩:=zC5 BK1185)|(go_at_call 44;(with_reducible refine(impl_HouseOk.calls kj7 t1163 t1164 t1165 _ _ y1174 ji31 t1192 _ ?side1 ?side2 A35.out).mono ?_);(case side1=>repeat(first|exact(Kd.V_reads' HO1178.out).2.2|(with_reducible refine Kd.C_alloc ?_ _)|(with_reducible refine Kd.C_drewN ?_ _)|(with_reducible refine Kd.C_drew ?_)));(case side2=>exact(Kd.V_reads' HO1178.out).2.1);rintro e w58 ⟨rfl,hb⟩;replace HO_1171003:=Aside0.mk (Kd.N_below (za36 HO_1171003) hb);replace HO1178:=Aside0.mk (Kd.V_below (za42 HO1178) hb);replace HO1182:=Aside0.mk (Kd.R_below (za5 HO1182) hb);replace BK1170:=Aside0.mk (qaa (zB BK1170) hb);replace BK1184:=Aside0.mk (qaa (zB BK1184) hb);replace BK1185:=Aside0.mk (qaa (zB BK1185) hb);replace HB:=Aside0.mk (qab (za6 HB GE1170 GE1184 GE1185) hb);(try clear hb)))
            go_ret
            exact⟨by first|rfl|(simp[qal,qam]<;>rfl)|(simp only[←hji25,←hji31];first|rfl|(simp[qal,qam]<;>rfl))|(simp[*,qal,qam]<;>rfl),za6 HB GE1170 GE1184 GE1185⟩
           ·replace c34:=Bool.eq_false_iff.mpr c34
            subst c34
            have H1:(some false)=some r:=by rw[if_neg (show ¬(false=true) by decide)] at H;exact H
            clear H
            have H:=H1
            clear H1
            obtain rfl:=Option.some.inj H
            obtain⟨hcz59_0,hcz59_1,hcz59_2,hcz59_3,hcz59_4,hfz59_0,hfz59_1,hfz59_2,hfz59_3,hfz59_4⟩:=zC5 BK1170
            try go_wp2
            replace HO_1171003:=Aside0.mk (Kd.N_drew HO_1171003.out)
            replace BK1170:=Aside0.mk (blk_drew BK1170.out)
            replace HB:=Aside0.mk (qao HB.out)
            have q61:((ji25):Int)≤((t1166.length:Int):Int):=of_decide_eq_true (za9)
            obtain⟨i061,hi061,_,hsz61,_⟩:=info_parts info32
            have hroom61:t1166.length≤co12:=(Kd.N_reads' HO_1171003.out).2.1
            have hC61:Kd.F k32 _ _ Ao12 t1166.length t1166:=(Kd.V_at (base:=w.heap.size) (Kd.N_V HO_1171003.out)).2.2
            have hcut61:=cut_to (P:=Try.prog) 23 32 .i64 Try.underlying23 hi061 Ao12 t1166.length co12 (ji25) (of_decide_eq_true (za9)) q61 hroom61
            have hr61:=Kd.F_take (m:=((ji25):Int).toNat) hC61 (by omega)
            have hy61:y1174.length=((ji25):Int).toNat:=(by rw[Ny1174.out,List.length_take];omega)
            rw[←Ny1174.out] at hr61
            rw[←hy61] at hcut61
            have HO1178:=Aside0.mk (show Kd.V k32 32 _ w.heap.size _ (.slice Ao12 y1174.length co12) y1174 from Kd.V_mk (by omega) hr61)
            have HC1178:=Aside0.mk (show y1174.length≤co12 from by omega)
            clear hr61 hC61 hroom61 hi061 hsz61
            have KY61:=Aside0.mk hy61
            clear hy61
            replace q61:=eq_true q61
            refine start_ (n:=14) (S:=fun w'=>w'.cell? ⟨gb1170,0,none⟩=some (.int .i64 t1163)∧w'.cell? ⟨gb1170,1,none⟩=some (.bool t1164)∧w'.cell? ⟨gb1170,2,none⟩=some (.int .i64 t1165)∧w'.cell? ⟨gb1170,3,none⟩=some (.slice Ao12 t1166.length co12)∧w'.cell? ⟨gb1170,4,none⟩=some (.int .i64 t1169)) (ds:=[]) #[false,false,false,false,false,false,false,false,false,false,false,false,false,false] (by kernel_rfl) rfl rfl ⟨(blk_cell BK1170.out 0).trans rfl,(blk_cell BK1170.out 1).trans rfl,(blk_cell BK1170.out 2).trans rfl,(blk_cell BK1170.out 3).trans rfl,(blk_cell BK1170.out 4).trans rfl⟩ (fun hHeld=>?_);refine with_tabW laws_FnHouseLog.tab8 laws_FnHouseLog.bits8 (fun HT_ HW_=>?_)
            generalize wc.drew=w60 at HO_1171003 BK1170 HB HO1178 hHeld ⊢
            refine qaj (i:=0) (N:=some 44) (v:=?_) (a':=?_) #[true,false,false,false,false,false,false,false,false,false,false,false,false,false] rfl rfl (qah HT_.out (by kernel_rfl)) (fun _ _ _ h=>h) (Or.inl ⟨by rfl,?_⟩) ?_ ?_
            rotate_left
            ·intro w'
             go_simp
             with_reducible rfl
            rotate_left
            ·simp only[Act.put,List.setIfInBounds_toArray,List.set_cons_zero,List.set_cons_succ,qaf,qag]
             rfl
            refine qaj (i:=2) (N:=some 46) (v:=?_) (a':=?_) #[true,false,true,false,false,false,false,false,false,false,false,false,false,false] rfl rfl (qah HT_.out (by kernel_rfl)) (fun _ _ _ h=>h) (Or.inl ⟨by rfl,?_⟩) ?_ ?_
            rotate_left
            ·intro w'
             go_simp
             with_reducible rfl
            rotate_left
            ·simp only[Act.put,List.setIfInBounds_toArray,List.set_cons_zero,List.set_cons_succ,qaf,qag]
             rfl
            refine qaj (i:=3) (N:=some 47) (v:=?_) (a':=?_) #[true,false,true,true,false,false,false,false,false,false,false,false,false,false] rfl rfl (qah HT_.out (by kernel_rfl)) (fun _ _ _ h=>h) (Or.inl ⟨by rfl,?_⟩) ?_ ?_
            rotate_left
            ·intro w'
             go_simp
             with_reducible rfl
            rotate_left
            ·simp only[Act.put,List.setIfInBounds_toArray,List.set_cons_zero,List.set_cons_succ,qaf,qag]
             rfl
            refine qaj (i:=5) (N:=some 49) (v:=?_) (a':=?_) #[true,false,true,true,false,true,false,false,false,false,false,false,false,false] rfl rfl (qah HT_.out (by kernel_rfl)) (fun _ _ _ h=>h) (Or.inl ⟨by rfl,?_⟩) ?_ ?_
            rotate_left
            ·intro w'
             go_simp
             with_reducible rfl
            rotate_left
            ·simp only[Act.put,List.setIfInBounds_toArray,List.set_cons_zero,List.set_cons_succ,qaf,qag]
             rfl
            refine take_ (i:=1) (N:=some 45) (v:=?_) (a':=?_) #[true,true,true,true,false,true,false,false,false,false,false,false,false,false] rfl rfl (qap HT_.out HW_.out (by kernel_rfl)) (fun _ _ _ h=>h) (Or.inl ⟨by rfl,?_⟩) hHeld ?_ ?_
            rotate_left
            ·rintro w' ⟨s0,s1,s2,s3,s4⟩
             go_simp
             with_reducible rfl
            rotate_left
            ·simp only[Act.put,List.setIfInBounds_toArray,List.set_cons_zero,List.set_cons_succ,qaf,qag]
             rfl
            refine take_ (i:=4) (N:=some 48) (v:=?_) (a':=?_) #[true,true,true,true,true,true,false,false,false,false,false,false,false,false] rfl rfl (qap HT_.out HW_.out (by kernel_rfl)) (fun _ _ _ h=>h) (Or.inl ⟨by rfl,?_⟩) hHeld ?_ ?_
            rotate_left
            ·rintro w' ⟨s0,s1,s2,s3,s4⟩
             go_simp
             with_reducible rfl
            rotate_left
            ·simp only[Act.put,List.setIfInBounds_toArray,List.set_cons_zero,List.set_cons_succ,qaf,qag]
             rfl
            refine qaj (i:=6) (N:=some 50) (v:=?_) (a':=?_) #[true,true,true,true,true,true,true,false,false,false,false,false,false,false] rfl rfl (qah HT_.out (by kernel_rfl)) (fun _ _ _ h=>h) (Or.inl ⟨by rfl,?_⟩) ?_ ?_
            rotate_left
            ·intro w'
             go_simp
             with_reducible rfl
            rotate_left
            ·simp only[Act.put,List.setIfInBounds_toArray,List.set_cons_zero,List.set_cons_succ,qaf,qag]
             rfl
            refine join_ (σ:=Value × Nat) 2 #[true,true,true,true,true,true,true,true,true,true,true,true,false,false] (fun s_=>[(51,.tuple #[.agg #[.int .i64 t1179,s_.1],.bool true]),(8,.pointer (some ⟨s_.2,0,none⟩)),(43,.tuple #[.agg #[.int .i64 t1179,s_.1],.bool true]),(52,.agg #[.int .i64 t1179,s_.1]),(53,.bool true)]) (fun s_ w'=>(w'.cell? ⟨gb1170,0,none⟩=some (.int .i64 t1163)∧w'.cell? ⟨gb1170,1,none⟩=some (.bool t1164)∧w'.cell? ⟨gb1170,2,none⟩=some (.int .i64 t1165)∧w'.cell? ⟨gb1170,3,none⟩=some (.slice Ao12 t1166.length co12)∧w'.cell? ⟨gb1170,4,none⟩=some (.int .i64 t1169))∧(Kd.V k32 32 w' w.heap.size (fun k_=>some k_≠(s_.1:Value).ownBlock∧k_≠gb1170∧k_≠s_.2) (.slice Ao12 y1174.length co12) y1174)∧(Kd.R k49 49 w' w.heap.size (fun _=>True) s_.1 t1180)∧(Kd.N k32 32 w' w.heap.size (fun k_=>some k_≠(s_.1:Value).ownBlock∧k_≠gb1170∧k_≠s_.2) (.slice Ao12 t1166.length co12) t1166)∧(w'.heap[gb1170]?=some (.cells #[.int .i64 t1163,.bool t1164,.int .i64 t1165,.slice Ao12 t1166.length co12,.int .i64 t1169] 72 (0,0)))∧(w'.heap[s_.2]?=some (.cells #[.int .i64 0,.slice none 0 0] 38 (0,0)))∧(w.heap.size≤s_.2)∧(w.heap.size≤s_.2)∧(gb1170≠s_.2)∧(s_.2≠gb1170)∧(Below w.heap.size w w')) ?_ ?_
            rotate_left
            ·intro hCont
             refine two_ (i:=7) (j:=11) (Ni:=some 51) (Nj:=some 8) #[true,true,true,true,true,true,true,true,false,false,false,false,false,false] #[true,true,true,true,true,true,true,false,false,false,false,true,false,false] rfl rfl rfl rfl (two_of HT_.out (by kernel_rfl)) (by decide) (by decide) (fun K hK=>?_) (fun K hK=>?_)
             ·skip
              refine goes_ Try.func22 (by kernel_rfl) rfl #[.int .i64 t1165,.slice Ao12 y1174.length co12] (by rfl) rfl rfl (by(try simp only[List.map_toArray,List.map_cons,List.map_nil]);first|done|rfl|(simp only[List.length_drop,List.length_take];rfl)) ?_
              with_reducible refine(impl_StockOf.calls kj7 t1165 _ _ y1174 t1179 t1180 true _ ?side1 ?side2 A28.out).mono ?_
              (case side1=>repeat(first|exact(Kd.V_reads' HO1178.out).2.2|(with_reducible refine Kd.C_alloc ?_ _)|(with_reducible refine Kd.C_drewN ?_ _)|(with_reducible refine Kd.C_drew ?_)))
              (case side2=>exact(Kd.V_reads' HO1178.out).2.1)
              rintro e w62 ⟨v1181,rfl,ho0,hb⟩
              refine⟨_,rfl,?_⟩
              replace HO_1171003:=Aside0.mk (Kd.N_elder' (za36 HO_1171003) (Kd.R_base ho0) hb)
              replace HO1178:=Aside0.mk (Kd.V_elder' (za42 HO1178) (Kd.R_base ho0) hb)
              have HO1182:=Aside0.mk (Kd.R_lower ho0 (below_size (za1 HB GE1170)))
              replace BK1170:=Aside0.mk (qaa (zB BK1170) hb)
              replace HB:=Aside0.mk (qab (za1 HB GE1170) hb)
              (try clear hb)
              (try clear hb2)
              (try clear hk)
              (try clear hi)
              (try clear ho0)
              refine hK.out _ _ ⟨(blk_cell BK1170.out 0).trans rfl,(blk_cell BK1170.out 1).trans rfl,(blk_cell BK1170.out 2).trans rfl,(blk_cell BK1170.out 3).trans rfl,(blk_cell BK1170.out 4).trans rfl⟩ (fun hHeld=>?_)
              clear hK K
              refine norm_ (a':=?_) ?_ ?_
              rotate_left
              ·show Act.put _ (some 51) _=_
               simp only[Act.put,List.setIfInBounds_toArray,List.set_cons_zero,List.set_cons_succ,qaf,qag]
               rfl
              refine qaj (i:=8) (N:=some 43) (v:=?_) (a':=?_) #[true,true,true,true,true,true,true,true,true,false,false,false,false,false] rfl rfl (qah HT_.out (by kernel_rfl)) (fun _ _ _ h=>h) (Or.inl ⟨by rfl,?_⟩) ?_ ?_
              rotate_left
              ·intro w'
               go_simp
               with_reducible rfl
              rotate_left
              ·simp only[Act.put,List.setIfInBounds_toArray,List.set_cons_zero,List.set_cons_succ,qaf,qag]
               rfl
              refine qaj (i:=9) (N:=some 52) (v:=?_) (a':=?_) #[true,true,true,true,true,true,true,true,true,true,false,false,false,false] rfl rfl (qah HT_.out (by kernel_rfl)) (fun _ _ _ h=>h) (Or.inl ⟨by rfl,?_⟩) ?_ ?_
              rotate_left
              ·intro w'
               go_simp
               with_reducible rfl
              rotate_left
              ·simp only[Act.put,List.setIfInBounds_toArray,List.set_cons_zero,List.set_cons_succ,qaf,qag]
               rfl
              refine qaj (i:=10) (N:=some 53) (v:=?_) (a':=?_) #[true,true,true,true,true,true,true,true,true,true,true,false,false,false] rfl rfl (qah HT_.out (by kernel_rfl)) (fun _ _ _ h=>h) (Or.inl ⟨by rfl,?_⟩) ?_ ?_
              rotate_left
              ·intro w'
               go_simp
               with_reducible rfl
              rotate_left
              ·simp only[Act.put,List.setIfInBounds_toArray,List.set_cons_zero,List.set_cons_succ,qaf,qag]
               rfl
              refine one_ (i:=11) (N:=some 8) #[true,true,true,true,true,true,true,true,true,true,true,true,false,false] rfl rfl (one_of HT_.out (by kernel_rfl)) (by decide) (fun K hK=>?_)
              refine box_step (by rfl) (N:=8) (by rfl) (cs:=#[.int .i64 0,.slice none 0 0]) (t:=38) (by first|(go_simp;done)|(go_simp;rfl)) ?_
              intro gb1184 hg w63 hbox hb
              replace HO_1171003:=Aside0.mk (Kd.N_below (Kd.N_elderB (za36 HO_1171003) gb1184 (Nat.le_of_eq hg.symm)) hb)
              replace HO1178:=Aside0.mk (Kd.V_below (Kd.V_elderB (za42 HO1178) gb1184 (Nat.le_of_eq hg.symm)) hb)
              replace HO1182:=Aside0.mk (Kd.R_below (za5 HO1182) hb)
              have BK1184:=Aside0.mk hbox
              have GW1184:=zH (w:=w) hg (za1 HB GE1170)
              have GE1184:=GW1184
              replace HB:=Aside0.mk (qab (za1 HB GE1170) hb)
              have NB1170_1184:=zL BK1170 hg
              have NB1184_1170:=zG BK1170 hg
              replace BK1170:=Aside0.mk (qaa (zB BK1170) hb)
              clear hb hbox hg
              refine hK.out _ _ ⟨(blk_cell BK1170.out 0).trans rfl,(blk_cell BK1170.out 1).trans rfl,(blk_cell BK1170.out 2).trans rfl,(blk_cell BK1170.out 3).trans rfl,(blk_cell BK1170.out 4).trans rfl⟩ (fun hHeld=>?_)
              clear hK K
              refine norm_ (a':=?_) ?_ ?_
              rotate_left
              ·show Act.put _ (some 8) _=_
               simp only[Act.put,List.setIfInBounds_toArray,List.set_cons_zero,List.set_cons_succ,qaf,qag]
               rfl
              exact norm_ (by simp only[putAll,Act.put,List.setIfInBounds_toArray,List.set_cons_zero,List.set_cons_succ]) (hCont (v1181,gb1184) _ ⟨hHeld,(by(with_reducible repeat(first|apply Kd.V_alloc|apply Kd.V_drewN|apply Kd.V_drew));exact Kd.V_mono HO1178.out (fun _ hk=>⟨hk.1.2,⟨hk.1.1,hk.2⟩⟩)),(za5 HO1182),(by(with_reducible repeat(first|apply Kd.N_alloc|apply Kd.N_drewN|apply Kd.N_drew));exact Kd.N_mono HO_1171003.out (fun _ hk=>⟨hk.1.2,⟨hk.1.1,hk.2⟩⟩)),(zB BK1170),(zB BK1184),GW1184.out,GE1184.out,NB1170_1184.out,NB1184_1170.out,(za2 HB GE1170 GE1184)⟩)
             ·skip
              refine box_step (by rfl) (N:=8) (by rfl) (cs:=#[.int .i64 0,.slice none 0 0]) (t:=38) (by first|(go_simp;done)|(go_simp;rfl)) ?_
              intro gb1184 hg w62 hbox hb
              replace HO_1171003:=Aside0.mk (Kd.N_below (Kd.N_elderB (za36 HO_1171003) gb1184 (Nat.le_of_eq hg.symm)) hb)
              replace HO1178:=Aside0.mk (Kd.V_below (Kd.V_elderB (za42 HO1178) gb1184 (Nat.le_of_eq hg.symm)) hb)
              have BK1184:=Aside0.mk hbox
              have GW1184:=zH (w:=w) hg (za1 HB GE1170)
              have GE1184:=GW1184
              replace HB:=Aside0.mk (qab (za1 HB GE1170) hb)
              have NB1170_1184:=zL BK1170 hg
              have NB1184_1170:=zG BK1170 hg
              replace BK1170:=Aside0.mk (qaa (zB BK1170) hb)
              clear hb hbox hg
              refine hK.out _ _ ⟨(blk_cell BK1170.out 0).trans rfl,(blk_cell BK1170.out 1).trans rfl,(blk_cell BK1170.out 2).trans rfl,(blk_cell BK1170.out 3).trans rfl,(blk_cell BK1170.out 4).trans rfl⟩ (fun hHeld=>?_)
              clear hK K
              refine norm_ (a':=?_) ?_ ?_
              rotate_left
              ·show Act.put _ (some 8) _=_
               simp only[Act.put,List.setIfInBounds_toArray,List.set_cons_zero,List.set_cons_succ,qaf,qag]
               rfl
              refine one_ (i:=7) (N:=some 51) #[true,true,true,true,true,true,true,true,false,false,false,true,false,false] rfl rfl (one_of HT_.out (by kernel_rfl)) (by decide) (fun K hK=>?_)
              refine goes_ Try.func22 (by kernel_rfl) rfl #[.int .i64 t1165,.slice Ao12 y1174.length co12] (by rfl) rfl rfl (by(try simp only[List.map_toArray,List.map_cons,List.map_nil]);first|done|rfl|(simp only[List.length_drop,List.length_take];rfl)) ?_
              with_reducible refine(impl_StockOf.calls kj7 t1165 _ _ y1174 t1179 t1180 true _ ?side1 ?side2 A28.out).mono ?_
              (case side1=>repeat(first|exact(Kd.V_reads' HO1178.out).2.2|(with_reducible refine Kd.C_alloc ?_ _)|(with_reducible refine Kd.C_drewN ?_ _)|(with_reducible refine Kd.C_drew ?_)))
              (case side2=>exact(Kd.V_reads' HO1178.out).2.1)
              rintro e w63 ⟨v1181,rfl,ho0,hb⟩
              refine⟨_,rfl,?_⟩
              replace HO_1171003:=Aside0.mk (Kd.N_elder' (za36 HO_1171003) (Kd.R_base ho0) hb)
              replace HO1178:=Aside0.mk (Kd.V_elder' (za42 HO1178) (Kd.R_base ho0) hb)
              have HO1182:=Aside0.mk (Kd.R_lower ho0 (below_size (za2 HB GE1170 GE1184)))
              replace BK1170:=Aside0.mk (qaa (zB BK1170) hb)
              replace BK1184:=Aside0.mk (qaa (zB BK1184) hb)
              replace HB:=Aside0.mk (qab (za2 HB GE1170 GE1184) hb)
              (try clear hb)
              (try clear hb2)
              (try clear hk)
              (try clear hi)
              (try clear ho0)
              refine hK.out _ _ ⟨(blk_cell BK1170.out 0).trans rfl,(blk_cell BK1170.out 1).trans rfl,(blk_cell BK1170.out 2).trans rfl,(blk_cell BK1170.out 3).trans rfl,(blk_cell BK1170.out 4).trans rfl⟩ (fun hHeld=>?_)
              clear hK K
              refine norm_ (a':=?_) ?_ ?_
              rotate_left
              ·show Act.put _ (some 51) _=_
               simp only[Act.put,List.setIfInBounds_toArray,List.set_cons_zero,List.set_cons_succ,qaf,qag]
               rfl
              refine qaj (i:=8) (N:=some 43) (v:=?_) (a':=?_) #[true,true,true,true,true,true,true,true,true,false,false,true,false,false] rfl rfl (qah HT_.out (by kernel_rfl)) (fun _ _ _ h=>h) (Or.inl ⟨by rfl,?_⟩) ?_ ?_
              rotate_left
              ·intro w'
               go_simp
               with_reducible rfl
              rotate_left
              ·simp only[Act.put,List.setIfInBounds_toArray,List.set_cons_zero,List.set_cons_succ,qaf,qag]
               rfl
              refine qaj (i:=9) (N:=some 52) (v:=?_) (a':=?_) #[true,true,true,true,true,true,true,true,true,true,false,true,false,false] rfl rfl (qah HT_.out (by kernel_rfl)) (fun _ _ _ h=>h) (Or.inl ⟨by rfl,?_⟩) ?_ ?_
              rotate_left
              ·intro w'
               go_simp
               with_reducible rfl
              rotate_left
              ·simp only[Act.put,List.setIfInBounds_toArray,List.set_cons_zero,List.set_cons_succ,qaf,qag]
               rfl
              refine qaj (i:=10) (N:=some 53) (v:=?_) (a':=?_) #[true,true,true,true,true,true,true,true,true,true,true,true,false,false] rfl rfl (qah HT_.out (by kernel_rfl)) (fun _ _ _ h=>h) (Or.inl ⟨by rfl,?_⟩) ?_ ?_
              rotate_left
              ·intro w'
               go_simp
               with_reducible rfl
              rotate_left
              ·simp only[Act.put,List.setIfInBounds_toArray,List.set_cons_zero,List.set_cons_succ,qaf,qag]
               rfl
              exact norm_ (by simp only[putAll,Act.put,List.setIfInBounds_toArray,List.set_cons_zero,List.set_cons_succ]) (hCont (v1181,gb1184) _ ⟨hHeld,(by(with_reducible repeat(first|apply Kd.V_alloc|apply Kd.V_drewN|apply Kd.V_drew));exact Kd.V_mono HO1178.out (fun _ hk=>⟨hk.2,⟨hk.1.1,hk.1.2⟩⟩)),(za5 HO1182),(by(with_reducible repeat(first|apply Kd.N_alloc|apply Kd.N_drewN|apply Kd.N_drew));exact Kd.N_mono HO_1171003.out (fun _ hk=>⟨hk.2,⟨hk.1.1,hk.1.2⟩⟩)),(zB BK1170),(zB BK1184),GW1184.out,GE1184.out,NB1170_1184.out,NB1184_1170.out,(za2 HB GE1170 GE1184)⟩)
            rintro⟨v1181,gb1184⟩ w64 ⟨hS_,h0_,h1_,h2_,h3_,h4_,h5_,h6_,h7_,h8_,h9_⟩
            have HO1178:Aside0 (Kd.V k32 32 w64 w.heap.size (fun k_=>some k_≠(v1181:Value).ownBlock∧k_≠gb1170∧k_≠gb1184) (.slice Ao12 y1174.length co12) y1174):=⟨h0_⟩
            have HO1182:Aside0 (Kd.R k49 49 w64 w.heap.size (fun _=>True) v1181 t1180):=⟨h1_⟩
            replace HO_1171003:Aside0 (Kd.N k32 32 w64 w.heap.size (fun k_=>some k_≠(v1181:Value).ownBlock∧k_≠gb1170∧k_≠gb1184) (.slice Ao12 t1166.length co12) t1166):=⟨h2_⟩
            replace BK1170:Aside0 (w64.heap[gb1170]?=some (.cells #[.int .i64 t1163,.bool t1164,.int .i64 t1165,.slice Ao12 t1166.length co12,.int .i64 t1169] 72 (0,0))):=⟨h3_⟩
            have BK1184:Aside0 (w64.heap[gb1184]?=some (.cells #[.int .i64 0,.slice none 0 0] 38 (0,0))):=⟨h4_⟩
            have GW1184:Aside0 (w.heap.size≤gb1184):=⟨h5_⟩
            have GE1184:Aside0 (w.heap.size≤gb1184):=⟨h6_⟩
            have NB1170_1184:Aside0 (gb1170≠gb1184):=⟨h7_⟩
            have NB1184_1170:Aside0 (gb1184≠gb1170):=⟨h8_⟩
            replace HB:Aside0 (Below w.heap.size w w64):=⟨h9_⟩
            clear h0_ h1_ h2_ h3_ h4_ h5_ h6_ h7_ h8_ h9_
            have hHeld:w64.cell? ⟨gb1170,0,none⟩=some (.int .i64 t1163)∧w64.cell? ⟨gb1170,1,none⟩=some (.bool t1164)∧w64.cell? ⟨gb1170,2,none⟩=some (.int .i64 t1165)∧w64.cell? ⟨gb1170,3,none⟩=some (.slice Ao12 t1166.length co12)∧w64.cell? ⟨gb1170,4,none⟩=some (.int .i64 t1169):=hS_
            obtain⟨Ao66,co66,eo66⟩:=Kd.R_slice HO1182.out
            (first|subst eo66|(injection eo66 with f1_ f2_ f3_;have f4_:=f1_.symm;have f5_:=f3_.symm;clear f1_ f2_ f3_;subst f4_;subst f5_))
            refine norm_ (a':=?_) ?_ ?_
            rotate_left
            ·simp only[putAll,Act.put,List.setIfInBounds_toArray,List.set_cons_zero,List.set_cons_succ]
             rfl
            refine one_ (i:=12) (N:=none) #[true,true,true,true,true,true,true,true,true,true,true,true,true,false] rfl rfl (one_of HT_.out (by kernel_rfl)) (by decide) (fun K hK=>?_)
            have hs65:w64.cell? ⟨gb1184,0,none⟩=some (.int .i64 0):=(blk_cell BK1184.out 0).trans rfl
            have hfs65:=blk_frozen BK1184.out 0
            have hns65_0:=NB1170_1184.out
            have hms65_0:=NB1184_1170.out
            have hs67:w64.cell? ⟨gb1184,1,none⟩=some (.slice none 0 0):=(blk_cell BK1184.out 1).trans rfl
            have hfs67:=blk_frozen BK1184.out 1
            have hns67_0:=NB1170_1184.out
            have hms67_0:=NB1184_1170.out
            refine skip_ (w1:=?_) (by rfl) rfl ?_ ?_
            rotate_left
            ·go_simp
             rfl
            refine hK.out _ _ ⟨((qai (p:=⟨gb1184,_,none⟩) NB1170_1184.out _).trans (((qai (p:=⟨gb1184,_,none⟩) NB1170_1184.out _).trans (hHeld.1)))),((qai (p:=⟨gb1184,_,none⟩) NB1170_1184.out _).trans (((qai (p:=⟨gb1184,_,none⟩) NB1170_1184.out _).trans (hHeld.2.1)))),((qai (p:=⟨gb1184,_,none⟩) NB1170_1184.out _).trans (((qai (p:=⟨gb1184,_,none⟩) NB1170_1184.out _).trans (hHeld.2.2.1)))),((qai (p:=⟨gb1184,_,none⟩) NB1170_1184.out _).trans (((qai (p:=⟨gb1184,_,none⟩) NB1170_1184.out _).trans (hHeld.2.2.2.1)))),((qai (p:=⟨gb1184,_,none⟩) NB1170_1184.out _).trans (((qai (p:=⟨gb1184,_,none⟩) NB1170_1184.out _).trans (hHeld.2.2.2.2))))⟩ (fun hHeld=>?_)
            clear hK K
            refine qaj (i:=13) (N:=some 9) (v:=?_) (a':=?_) #[true,true,true,true,true,true,true,true,true,true,true,true,true,true] rfl rfl (qah HT_.out (by kernel_rfl)) (fun _ _ _ h=>h) (Or.inl ⟨by rfl,?_⟩) ?_ ?_
            rotate_left
            ·intro w'
             go_simp
             with_reducible rfl
            rotate_left
            ·simp only[Act.put,List.setIfInBounds_toArray,List.set_cons_zero,List.set_cons_succ,qaf,qag]
             rfl
            refine done_ (done_of HT_.out (by kernel_rfl)) ?_
            have hnb68:=NB1170_1184.out
            have hnc68:=NB1184_1170.out
            obtain⟨hcz69_0,hcz69_1,hcz69_2,hcz69_3,hcz69_4,hfz69_0,hfz69_1,hfz69_2,hfz69_3,hfz69_4⟩:=zC5 BK1170
            try go_wp2_with(first|((with_reducible refine qae (N:=10) rfl ?_);(try(refine gate_guard (by rfl) ?_;dsimp only));refine zX (N:=10) (cs:=#[.int .i64 0,.bool false,.int .i64 0,.slice none 0 0,.int .i64 0]) (t:=72) ?_;intro gb1185 hg w70 hbox hb;replace HO_1171003:=Aside0.mk (Kd.N_below (Kd.N_elderB (by(with_reducible repeat(first|apply Kd.N_alloc|apply Kd.N_drewN|apply Kd.N_drew));exact(Kd.N_mono (Kd.N_far (p:=⟨gb1184,1,none⟩) (Kd.N_far (p:=⟨gb1184,0,none⟩) (Kd.N_mono HO_1171003.out (fun k_ hk=>(⟨hk,hk.2.2⟩:_∧k_≠gb1184))) (fun _ hk=>hk.2) (.int .i64 t1179)) (fun _ hk=>hk.2) (.slice Ao66 t1180.length co66)) (fun _ h_=>h_.1))) gb1185 (Nat.le_of_eq hg.symm)) hb);replace HO1178:=Aside0.mk (Kd.V_below (Kd.V_elderB (by(with_reducible repeat(first|apply Kd.V_alloc|apply Kd.V_drewN|apply Kd.V_drew));exact(Kd.V_mono (Kd.V_far (p:=⟨gb1184,1,none⟩) (Kd.V_far (p:=⟨gb1184,0,none⟩) (Kd.V_mono HO1178.out (fun k_ hk=>(⟨hk,hk.2.2⟩:_∧k_≠gb1184))) (fun _ hk=>hk.2) (.int .i64 t1179)) (fun _ hk=>hk.2) (.slice Ao66 t1180.length co66)) (fun _ h_=>h_.1))) gb1185 (Nat.le_of_eq hg.symm)) hb);replace HO1182:=Aside0.mk (Kd.R_below (by(with_reducible repeat(first|apply Kd.R_alloc|apply Kd.R_drewN|apply Kd.R_drew));exact(Kd.R_mono (Kd.R_far (p:=⟨gb1184,1,none⟩) (Kd.R_far (p:=⟨gb1184,0,none⟩) (Kd.R_types HO1182.out BK1184.out (by decide)) (fun _ hk=>hk.2) (.int .i64 t1179)) (fun _ hk=>hk.2) (.slice Ao66 t1180.length co66)) (fun _ h_=>h_.1))) hb);have BK1185:=Aside0.mk hbox;have GW1185:=zH (w:=w) hg (za2 HB GE1170 GE1184);have GE1185:=GW1185;replace HB:=Aside0.mk (qab (za2 HB GE1170 GE1184) hb);have NB1170_1185:=Aside0.mk ((by rw[hg];exact Nat.ne_of_lt (blk_lt (g:=gb1170) (o:=.cells #[.int .i64 t1163,.bool t1164,.int .i64 t1165,.slice Ao12 t1166.length co12,.int .i64 t1169] 72 (0,0)) (za0 NB1170_1184 BK1170)):gb1170≠gb1185));have NB1185_1170:=Aside0.mk ((by rw[hg];exact Nat.ne_of_gt (blk_lt (g:=gb1170) (o:=.cells #[.int .i64 t1163,.bool t1164,.int .i64 t1165,.slice Ao12 t1166.length co12,.int .i64 t1169] 72 (0,0)) (za0 NB1170_1184 BK1170)):gb1185≠gb1170));replace BK1170:=Aside0.mk (qaa (g:=gb1170) (o:=.cells #[.int .i64 t1163,.bool t1164,.int .i64 t1165,.slice Ao12 t1166.length co12,.int .i64 t1169] 72 (0,0)) (za0 NB1170_1184 BK1170) hb);have NB1184_1185:=Aside0.mk ((by rw[hg];exact Nat.ne_of_lt (blk_lt (g:=gb1184) (o:=.cells #[.int .i64 t1179,.slice Ao66 t1180.length co66] 38 (0,0)) (by(with_reducible repeat(first|refine blk_drewN ?_ _|refine blk_drew ?_|refine blk_alloc ?_ _));refine qad (cs:=#[.int .i64 t1179,.slice none 0 0]) ?_ 1 _ rfl;(with_reducible repeat(first|refine blk_drewN ?_ _|refine blk_drew ?_|refine blk_alloc ?_ _));refine qad (cs:=#[.int .i64 0,.slice none 0 0]) ?_ 0 _ rfl;(with_reducible repeat(first|refine blk_drewN ?_ _|refine blk_drew ?_|refine blk_alloc ?_ _));exact BK1184.out)):gb1184≠gb1185));have NB1185_1184:=Aside0.mk ((by rw[hg];exact Nat.ne_of_gt (blk_lt (g:=gb1184) (o:=.cells #[.int .i64 t1179,.slice Ao66 t1180.length co66] 38 (0,0)) (by(with_reducible repeat(first|refine blk_drewN ?_ _|refine blk_drew ?_|refine blk_alloc ?_ _));refine qad (cs:=#[.int .i64 t1179,.slice none 0 0]) ?_ 1 _ rfl;(with_reducible repeat(first|refine blk_drewN ?_ _|refine blk_drew ?_|refine blk_alloc ?_ _));refine qad (cs:=#[.int .i64 0,.slice none 0 0]) ?_ 0 _ rfl;(with_reducible repeat(first|refine blk_drewN ?_ _|refine blk_drew ?_|refine blk_alloc ?_ _));exact BK1184.out)):gb1185≠gb1184));replace BK1184:=Aside0.mk (qaa (g:=gb1184) (o:=.cells #[.int .i64 t1179,.slice Ao66 t1180.length co66] 38 (0,0)) (by(with_reducible repeat(first|refine blk_drewN ?_ _|refine blk_drew ?_|refine blk_alloc ?_ _));refine qad (cs:=#[.int .i64 t1179,.slice none 0 0]) ?_ 1 _ rfl;(with_reducible repeat(first|refine blk_drewN ?_ _|refine blk_drew ?_|refine blk_alloc ?_ _));refine qad (cs:=#[.int .i64 0,.slice none 0 0]) ?_ 0 _ rfl;(with_reducible repeat(first|refine blk_drewN ?_ _|refine blk_drew ?_|refine blk_alloc ?_ _));exact BK1184.out) hb);clear hb hbox hg;have hnb71:=NB1185_1170.out;have hnc71:=NB1170_1185.out;have hnb72:=NB1185_1184.out;have hnc72:=NB1184_1185.out;obtain⟨hcz73_0,hcz73_1,hcz73_2,hcz73_3,hcz73_4,hfz73_0,hfz73_1,hfz73_2,hfz73_3,hfz73_4⟩:=zC5 BK1185))
            have n0_:Aside0 (Kd.N k32 32 (((((w70.setCell ⟨gb1185,0,none⟩ (.int .i64 t1163)).setCell ⟨gb1185,1,none⟩ (.bool t1164)).setCell ⟨gb1185,2,none⟩ (.int .i64 t1165)).setCell ⟨gb1185,3,none⟩ (.slice Ao12 t1166.length co12)).setCell ⟨gb1185,4,none⟩ (.int .i64 t1169)) w.heap.size (fun k_=>some k_≠(.slice Ao66 t1180.length co66:Value).ownBlock∧k_≠gb1170∧k_≠gb1184∧k_≠gb1185) (.slice Ao12 t1166.length co12) t1166):=⟨by(with_reducible repeat(first|apply Kd.N_alloc|apply Kd.N_drewN|apply Kd.N_drew));exact Kd.N_mono (Kd.N_far (p:=⟨gb1185,4,none⟩) (Kd.N_far (p:=⟨gb1185,3,none⟩) (Kd.N_far (p:=⟨gb1185,2,none⟩) (Kd.N_far (p:=⟨gb1185,1,none⟩) (Kd.N_far (p:=⟨gb1185,0,none⟩) (Kd.N_mono HO_1171003.out (fun k_ hk=>(⟨hk,hk.2⟩:_∧k_≠gb1185))) (fun _ hk=>hk.2) (.int .i64 t1163)) (fun _ hk=>hk.2) (.bool t1164)) (fun _ hk=>hk.2) (.int .i64 t1165)) (fun _ hk=>hk.2) (.slice Ao12 t1166.length co12)) (fun _ hk=>hk.2) (.int .i64 t1169)) (fun _ hk=>⟨hk.1.1.1,⟨hk.1.1.2.1,⟨hk.1.1.2.2,hk.1.2⟩⟩⟩)⟩
            have n1_:Aside0 (Kd.V k32 32 (((((w70.setCell ⟨gb1185,0,none⟩ (.int .i64 t1163)).setCell ⟨gb1185,1,none⟩ (.bool t1164)).setCell ⟨gb1185,2,none⟩ (.int .i64 t1165)).setCell ⟨gb1185,3,none⟩ (.slice Ao12 t1166.length co12)).setCell ⟨gb1185,4,none⟩ (.int .i64 t1169)) w.heap.size (fun k_=>some k_≠(.slice Ao66 t1180.length co66:Value).ownBlock∧k_≠gb1170∧k_≠gb1184∧k_≠gb1185) (.slice Ao12 y1174.length co12) y1174):=⟨by(with_reducible repeat(first|apply Kd.V_alloc|apply Kd.V_drewN|apply Kd.V_drew));exact Kd.V_mono (Kd.V_far (p:=⟨gb1185,4,none⟩) (Kd.V_far (p:=⟨gb1185,3,none⟩) (Kd.V_far (p:=⟨gb1185,2,none⟩) (Kd.V_far (p:=⟨gb1185,1,none⟩) (Kd.V_far (p:=⟨gb1185,0,none⟩) (Kd.V_mono HO1178.out (fun k_ hk=>(⟨hk,hk.2⟩:_∧k_≠gb1185))) (fun _ hk=>hk.2) (.int .i64 t1163)) (fun _ hk=>hk.2) (.bool t1164)) (fun _ hk=>hk.2) (.int .i64 t1165)) (fun _ hk=>hk.2) (.slice Ao12 t1166.length co12)) (fun _ hk=>hk.2) (.int .i64 t1169)) (fun _ hk=>⟨hk.1.1.1,⟨hk.1.1.2.1,⟨hk.1.1.2.2,hk.1.2⟩⟩⟩)⟩
            have n2_:Aside0 (Kd.R k49 49 (((((w70.setCell ⟨gb1185,0,none⟩ (.int .i64 t1163)).setCell ⟨gb1185,1,none⟩ (.bool t1164)).setCell ⟨gb1185,2,none⟩ (.int .i64 t1165)).setCell ⟨gb1185,3,none⟩ (.slice Ao12 t1166.length co12)).setCell ⟨gb1185,4,none⟩ (.int .i64 t1169)) w.heap.size (fun _=>True) (.slice Ao66 t1180.length co66) t1180):=⟨by(with_reducible repeat(first|apply Kd.R_alloc|apply Kd.R_drewN|apply Kd.R_drew));exact Kd.R_mono (Kd.R_far (p:=⟨gb1185,4,none⟩) (Kd.R_far (p:=⟨gb1185,3,none⟩) (Kd.R_far (p:=⟨gb1185,2,none⟩) (Kd.R_far (p:=⟨gb1185,1,none⟩) (Kd.R_far (p:=⟨gb1185,0,none⟩) (Kd.R_types HO1182.out BK1185.out (by decide)) (fun _ hk=>hk.2) (.int .i64 t1163)) (fun _ hk=>hk.2) (.bool t1164)) (fun _ hk=>hk.2) (.int .i64 t1165)) (fun _ hk=>hk.2) (.slice Ao12 t1166.length co12)) (fun _ hk=>hk.2) (.int .i64 t1169)) (fun _ hk=>trivial)⟩
            have n3_:Aside0 ((((((w70.setCell ⟨gb1185,0,none⟩ (.int .i64 t1163)).setCell ⟨gb1185,1,none⟩ (.bool t1164)).setCell ⟨gb1185,2,none⟩ (.int .i64 t1165)).setCell ⟨gb1185,3,none⟩ (.slice Ao12 t1166.length co12)).setCell ⟨gb1185,4,none⟩ (.int .i64 t1169)).heap[gb1170]?=some (.cells #[.int .i64 t1163,.bool t1164,.int .i64 t1165,.slice Ao12 t1166.length co12,.int .i64 t1169] 72 (0,0))):=⟨za44 NB1170_1185 BK1170⟩
            have n4_:Aside0 ((((((w70.setCell ⟨gb1185,0,none⟩ (.int .i64 t1163)).setCell ⟨gb1185,1,none⟩ (.bool t1164)).setCell ⟨gb1185,2,none⟩ (.int .i64 t1165)).setCell ⟨gb1185,3,none⟩ (.slice Ao12 t1166.length co12)).setCell ⟨gb1185,4,none⟩ (.int .i64 t1169)).heap[gb1184]?=some (.cells #[.int .i64 t1179,.slice Ao66 t1180.length co66] 38 (0,0))):=⟨za44 NB1184_1185 BK1184⟩
            have n5_:Aside0 ((((((w70.setCell ⟨gb1185,0,none⟩ (.int .i64 t1163)).setCell ⟨gb1185,1,none⟩ (.bool t1164)).setCell ⟨gb1185,2,none⟩ (.int .i64 t1165)).setCell ⟨gb1185,3,none⟩ (.slice Ao12 t1166.length co12)).setCell ⟨gb1185,4,none⟩ (.int .i64 t1169)).heap[gb1185]?=some (.cells #[.int .i64 t1163,.bool t1164,.int .i64 t1165,.slice Ao12 t1166.length co12,.int .i64 t1169] 72 (0,0))):=⟨by(with_reducible repeat(first|refine blk_drewN ?_ _|refine blk_drew ?_|refine blk_alloc ?_ _));refine qad (cs:=#[.int .i64 t1163,.bool t1164,.int .i64 t1165,.slice Ao12 t1166.length co12,.int .i64 0]) ?_ 4 _ rfl;(with_reducible repeat(first|refine blk_drewN ?_ _|refine blk_drew ?_|refine blk_alloc ?_ _));refine qad (cs:=#[.int .i64 t1163,.bool t1164,.int .i64 t1165,.slice none 0 0,.int .i64 0]) ?_ 3 _ rfl;(with_reducible repeat(first|refine blk_drewN ?_ _|refine blk_drew ?_|refine blk_alloc ?_ _));refine qad (cs:=#[.int .i64 t1163,.bool t1164,.int .i64 0,.slice none 0 0,.int .i64 0]) ?_ 2 _ rfl;(with_reducible repeat(first|refine blk_drewN ?_ _|refine blk_drew ?_|refine blk_alloc ?_ _));refine qad (cs:=#[.int .i64 t1163,.bool false,.int .i64 0,.slice none 0 0,.int .i64 0]) ?_ 1 _ rfl;(with_reducible repeat(first|refine blk_drewN ?_ _|refine blk_drew ?_|refine blk_alloc ?_ _));refine qad (cs:=#[.int .i64 0,.bool false,.int .i64 0,.slice none 0 0,.int .i64 0]) ?_ 0 _ rfl;(with_reducible repeat(first|refine blk_drewN ?_ _|refine blk_drew ?_|refine blk_alloc ?_ _));exact BK1185.out⟩
            have n6_:Aside0 (Below w.heap.size w (((((w70.setCell ⟨gb1185,0,none⟩ (.int .i64 t1163)).setCell ⟨gb1185,1,none⟩ (.bool t1164)).setCell ⟨gb1185,2,none⟩ (.int .i64 t1165)).setCell ⟨gb1185,3,none⟩ (.slice Ao12 t1166.length co12)).setCell ⟨gb1185,4,none⟩ (.int .i64 t1169))):=⟨za6 HB GE1170 GE1184 GE1185⟩
            (try clear HO_1171003)
            (try clear HO1178)
            (try clear HO1182)
            (try clear BK1170)
            (try clear BK1184)
            (try clear BK1185)
            (try clear HB)
            generalize (((((w70.setCell ⟨gb1185,0,none⟩ (.int .i64 t1163)).setCell ⟨gb1185,1,none⟩ (.bool t1164)).setCell ⟨gb1185,2,none⟩ (.int .i64 t1165)).setCell ⟨gb1185,3,none⟩ (.slice Ao12 t1166.length co12)).setCell ⟨gb1185,4,none⟩ (.int .i64 t1169))=w74 at n0_ n1_ n2_ n3_ n4_ n5_ n6_ ⊢
            have HO_1171003:=n0_
            have HO1178:=n1_
            have HO1182:=n2_
            have BK1170:=n3_
            have BK1184:=n4_
            have BK1185:=n5_
            have HB:=n6_
            clear n0_ n1_ n2_ n3_ n4_ n5_ n6_
            replace HO_1171003:=Aside0.mk (Kd.N_drew HO_1171003.out)
            replace HO1178:=Aside0.mk (Kd.V_drew HO1178.out)
            replace HO1182:=Aside0.mk (Kd.R_drew HO1182.out)
            replace BK1170:=Aside0.mk (blk_drew BK1170.out)
            replace BK1184:=Aside0.mk (blk_drew BK1184.out)
            replace BK1185:=Aside0.mk (blk_drew BK1185.out)
            replace HB:=Aside0.mk (qao HB.out)
            refine start_ (n:=13) (S:=fun w'=>w'.cell? ⟨gb1170,0,none⟩=some (.int .i64 t1163)∧w'.cell? ⟨gb1170,1,none⟩=some (.bool t1164)∧w'.cell? ⟨gb1170,2,none⟩=some (.int .i64 t1165)∧w'.cell? ⟨gb1170,3,none⟩=some (.slice Ao12 t1166.length co12)∧w'.cell? ⟨gb1170,4,none⟩=some (.int .i64 t1169)) (ds:=[]) #[false,false,false,false,false,false,false,false,false,false,false,false,false] (by kernel_rfl) rfl rfl ⟨(blk_cell BK1170.out 0).trans rfl,(blk_cell BK1170.out 1).trans rfl,(blk_cell BK1170.out 2).trans rfl,(blk_cell BK1170.out 3).trans rfl,(blk_cell BK1170.out 4).trans rfl⟩ (fun hHeld=>?_);refine with_tabW laws_FnHouseLog.tab10 laws_FnHouseLog.bits10 (fun HT_ HW_=>?_)
            generalize w74.drew=w75 at HO_1171003 HO1178 HO1182 BK1170 BK1184 BK1185 HB hHeld ⊢
            refine qaj (i:=0) (N:=some 55) (v:=?_) (a':=?_) #[true,false,false,false,false,false,false,false,false,false,false,false,false] rfl rfl (qah HT_.out (by kernel_rfl)) (fun _ _ _ h=>h) (Or.inl ⟨by rfl,?_⟩) ?_ ?_
            rotate_left
            ·intro w'
             go_simp
             with_reducible rfl
            rotate_left
            ·simp only[Act.put,List.setIfInBounds_toArray,List.set_cons_zero,List.set_cons_succ,qaf,qag]
             rfl
            refine qaj (i:=1) (N:=some 56) (v:=?_) (a':=?_) #[true,true,false,false,false,false,false,false,false,false,false,false,false] rfl rfl (qah HT_.out (by kernel_rfl)) (fun _ _ _ h=>h) (Or.inl ⟨by rfl,?_⟩) ?_ ?_
            rotate_left
            ·intro w'
             go_simp
             with_reducible rfl
            rotate_left
            ·simp only[Act.put,List.setIfInBounds_toArray,List.set_cons_zero,List.set_cons_succ,qaf,qag]
             rfl
            refine qaj (i:=3) (N:=some 58) (v:=?_) (a':=?_) #[true,true,false,true,false,false,false,false,false,false,false,false,false] rfl rfl (qah HT_.out (by kernel_rfl)) (fun _ _ _ h=>h) (Or.inl ⟨by rfl,?_⟩) ?_ ?_
            rotate_left
            ·intro w'
             go_simp
             with_reducible rfl
            rotate_left
            ·simp only[Act.put,List.setIfInBounds_toArray,List.set_cons_zero,List.set_cons_succ,qaf,qag]
             rfl
            refine qaj (i:=5) (N:=some 60) (v:=?_) (a':=?_) #[true,true,false,true,false,true,false,false,false,false,false,false,false] rfl rfl (qah HT_.out (by kernel_rfl)) (fun _ _ _ h=>h) (Or.inl ⟨by rfl,?_⟩) ?_ ?_
            rotate_left
            ·intro w'
             go_simp
             with_reducible rfl
            rotate_left
            ·simp only[Act.put,List.setIfInBounds_toArray,List.set_cons_zero,List.set_cons_succ,qaf,qag]
             rfl
            refine qaj (i:=6) (N:=some 61) (v:=?_) (a':=?_) #[true,true,false,true,false,true,true,false,false,false,false,false,false] rfl rfl (qah HT_.out (by kernel_rfl)) (fun _ _ _ h=>h) (Or.inl ⟨by rfl,?_⟩) ?_ ?_
            rotate_left
            ·intro w'
             go_simp
             with_reducible rfl
            rotate_left
            ·simp only[Act.put,List.setIfInBounds_toArray,List.set_cons_zero,List.set_cons_succ,qaf,qag]
             rfl
            refine qaj (i:=7) (N:=some 62) (v:=?_) (a':=?_) #[true,true,false,true,false,true,true,true,false,false,false,false,false] rfl rfl (qah HT_.out (by kernel_rfl)) (fun _ _ _ h=>h) (Or.inl ⟨by rfl,?_⟩) ?_ ?_
            rotate_left
            ·intro w'
             go_simp
             with_reducible rfl
            rotate_left
            ·simp only[Act.put,List.setIfInBounds_toArray,List.set_cons_zero,List.set_cons_succ,qaf,qag]
             rfl
            refine take_ (i:=2) (N:=some 57) (v:=?_) (a':=?_) #[true,true,true,true,false,true,true,true,false,false,false,false,false] rfl rfl (qap HT_.out HW_.out (by kernel_rfl)) (fun _ _ _ h=>h) (Or.inl ⟨by rfl,?_⟩) hHeld ?_ ?_
            rotate_left
            ·rintro w' ⟨s0,s1,s2,s3,s4⟩
             go_simp
             with_reducible rfl
            rotate_left
            ·simp only[Act.put,List.setIfInBounds_toArray,List.set_cons_zero,List.set_cons_succ,qaf,qag]
             rfl
            refine qaj (i:=4) (N:=some 59) (v:=?_) (a':=?_) #[true,true,true,true,true,true,true,true,false,false,false,false,false] rfl rfl (qah HT_.out (by kernel_rfl)) (fun _ _ _ h=>h) (Or.inl ⟨by rfl,?_⟩) ?_ ?_
            rotate_left
            ·intro w'
             go_simp
             with_reducible rfl
            rotate_left
            ·simp only[Act.put,List.setIfInBounds_toArray,List.set_cons_zero,List.set_cons_succ,qaf,qag]
             rfl
            refine take_ (i:=8) (N:=some 63) (v:=?_) (a':=?_) #[true,true,true,true,true,true,true,true,true,false,false,false,false] rfl rfl (qap HT_.out HW_.out (by kernel_rfl)) (fun _ _ _ h=>h) (Or.inl ⟨by rfl,?_⟩) hHeld ?_ ?_
            rotate_left
            ·rintro w' ⟨s0,s1,s2,s3,s4⟩
             go_simp
             with_reducible rfl
            rotate_left
            ·simp only[Act.put,List.setIfInBounds_toArray,List.set_cons_zero,List.set_cons_succ,qaf,qag]
             rfl
            refine qaj (i:=9) (N:=some 64) (v:=?_) (a':=?_) #[true,true,true,true,true,true,true,true,true,true,false,false,false] rfl rfl (qah HT_.out (by kernel_rfl)) (fun _ _ _ h=>h) (Or.inl ⟨by rfl,?_⟩) ?_ ?_
            rotate_left
            ·intro w'
             go_simp
             with_reducible rfl
            rotate_left
            ·simp only[Act.put,List.setIfInBounds_toArray,List.set_cons_zero,List.set_cons_succ,qaf,qag]
             rfl
            refine qaj (i:=10) (N:=some 65) (v:=?_) (a':=?_) #[true,true,true,true,true,true,true,true,true,true,true,false,false] rfl rfl (qah HT_.out (by kernel_rfl)) (fun _ _ _ h=>h) (Or.inl ⟨by rfl,?_⟩) ?_ ?_
            rotate_left
            ·intro w'
             go_simp
             with_reducible rfl
            rotate_left
            ·simp only[Act.put,List.setIfInBounds_toArray,List.set_cons_zero,List.set_cons_succ,qaf,qag]
             rfl
            refine qaj (i:=11) (N:=some 66) (v:=?_) (a':=?_) #[true,true,true,true,true,true,true,true,true,true,true,true,false] rfl rfl (qah HT_.out (by kernel_rfl)) (fun _ _ _ h=>h) (Or.inl ⟨by rfl,?_⟩) ?_ ?_
            rotate_left
            ·intro w'
             go_simp
             with_reducible rfl
            rotate_left
            ·simp only[Act.put,List.setIfInBounds_toArray,List.set_cons_zero,List.set_cons_succ,qaf,qag]
             rfl
            refine one_ (i:=12) (N:=none) #[true,true,true,true,true,true,true,true,true,true,true,true,true] rfl rfl (one_of HT_.out (by kernel_rfl)) (by decide) (fun K hK=>?_)
            have hs76:w75.cell? ⟨gb1185,3,none⟩=some (.slice Ao12 t1166.length co12):=(blk_cell BK1185.out 3).trans rfl
            have hfs76:=blk_frozen BK1185.out 3
            have hns76_0:=NB1170_1185.out
            have hns76_1:=NB1184_1185.out
            have hms76_0:=NB1185_1170.out
            have hms76_1:=NB1185_1184.out
            have hs77:w75.cell? ⟨gb1185,4,none⟩=some (.int .i64 t1169):=(blk_cell BK1185.out 4).trans rfl
            have hfs77:=blk_frozen BK1185.out 4
            have hns77_0:=NB1170_1185.out
            have hns77_1:=NB1184_1185.out
            have hms77_0:=NB1185_1170.out
            have hms77_1:=NB1185_1184.out
            refine skip_ (w1:=?_) (by rfl) rfl ?_ ?_
            rotate_left
            ·go_simp
             rfl
            refine hK.out _ _ ⟨((qai (p:=⟨gb1185,_,none⟩) NB1170_1185.out _).trans (((qai (p:=⟨gb1185,_,none⟩) NB1170_1185.out _).trans (hHeld.1)))),((qai (p:=⟨gb1185,_,none⟩) NB1170_1185.out _).trans (((qai (p:=⟨gb1185,_,none⟩) NB1170_1185.out _).trans (hHeld.2.1)))),((qai (p:=⟨gb1185,_,none⟩) NB1170_1185.out _).trans (((qai (p:=⟨gb1185,_,none⟩) NB1170_1185.out _).trans (hHeld.2.2.1)))),((qai (p:=⟨gb1185,_,none⟩) NB1170_1185.out _).trans (((qai (p:=⟨gb1185,_,none⟩) NB1170_1185.out _).trans (hHeld.2.2.2.1)))),((qai (p:=⟨gb1185,_,none⟩) NB1170_1185.out _).trans (((qai (p:=⟨gb1185,_,none⟩) NB1170_1185.out _).trans (hHeld.2.2.2.2))))⟩ (fun hHeld=>?_)
            clear hK K
            refine done_ (done_of HT_.out (by kernel_rfl)) ?_
            obtain⟨hcz78_0,hcz78_1,hfz78_0,hfz78_1⟩:=zC2 BK1184
            try go_wp2_with(first|(go_at_call 29;(with_reducible refine(impl_StockOk.calls kj7 t1179 _ _ t1180 false _ ?side1 ?side2 A33.out).mono ?_);(case side1=>refine(Kd.R_reads' (e:=49) (base:=w.heap.size) (ok:=fun k_=>True) (n:=t1180.length) (c:=co66) ?_).2.2;exact(by(with_reducible repeat(first|apply Kd.R_alloc|apply Kd.R_drewN|apply Kd.R_drew));exact(Kd.R_mono (Kd.R_far (p:=⟨gb1185,4,none⟩) (Kd.R_far (p:=⟨gb1185,3,none⟩) (Kd.R_types HO1182.out BK1185.out (by decide)) (fun _ hk=>hk.2) (.slice Ao12 y1174.length co12)) (fun _ hk=>hk.2) (.int .i64 ji31)) (fun _ h_=>h_.1))));(case side2=>exact(Kd.R_reads' HO1182.out).2.1);rintro e w79 ⟨rfl,hb⟩;replace HO_1171003:=Aside0.mk (Kd.N_below (by(with_reducible repeat(first|apply Kd.N_alloc|apply Kd.N_drewN|apply Kd.N_drew));exact(Kd.N_mono (Kd.N_far (p:=⟨gb1185,4,none⟩) (Kd.N_far (p:=⟨gb1185,3,none⟩) (Kd.N_mono HO_1171003.out (fun k_ hk=>(⟨hk,hk.2.2.2⟩:_∧k_≠gb1185))) (fun _ hk=>hk.2) (.slice Ao12 y1174.length co12)) (fun _ hk=>hk.2) (.int .i64 ji31)) (fun _ h_=>h_.1))) hb);replace HO1178:=Aside0.mk (Kd.V_below (by(with_reducible repeat(first|apply Kd.V_alloc|apply Kd.V_drewN|apply Kd.V_drew));exact(Kd.V_mono (Kd.V_far (p:=⟨gb1185,4,none⟩) (Kd.V_far (p:=⟨gb1185,3,none⟩) (Kd.V_mono HO1178.out (fun k_ hk=>(⟨hk,hk.2.2.2⟩:_∧k_≠gb1185))) (fun _ hk=>hk.2) (.slice Ao12 y1174.length co12)) (fun _ hk=>hk.2) (.int .i64 ji31)) (fun _ h_=>h_.1))) hb);replace HO1182:=Aside0.mk (Kd.R_below (by(with_reducible repeat(first|apply Kd.R_alloc|apply Kd.R_drewN|apply Kd.R_drew));exact(Kd.R_mono (Kd.R_far (p:=⟨gb1185,4,none⟩) (Kd.R_far (p:=⟨gb1185,3,none⟩) (Kd.R_types HO1182.out BK1185.out (by decide)) (fun _ hk=>hk.2) (.slice Ao12 y1174.length co12)) (fun _ hk=>hk.2) (.int .i64 ji31)) (fun _ h_=>h_.1))) hb);replace BK1170:=Aside0.mk (qaa (g:=gb1170) (o:=.cells #[.int .i64 t1163,.bool t1164,.int .i64 t1165,.slice Ao12 t1166.length co12,.int .i64 t1169] 72 (0,0)) (za0 NB1170_1185 BK1170) hb);replace BK1184:=Aside0.mk (qaa (g:=gb1184) (o:=.cells #[.int .i64 t1179,.slice Ao66 t1180.length co66] 38 (0,0)) (za0 NB1184_1185 BK1184) hb);replace BK1185:=Aside0.mk (qaa (g:=gb1185) (o:=.cells #[.int .i64 t1163,.bool t1164,.int .i64 t1165,.slice Ao12 y1174.length co12,.int .i64 ji31] 72 (0,0)) (by(with_reducible repeat(first|refine blk_drewN ?_ _|refine blk_drew ?_|refine blk_alloc ?_ _));refine qad (cs:=#[.int .i64 t1163,.bool t1164,.int .i64 t1165,.slice Ao12 y1174.length co12,.int .i64 t1169]) ?_ 4 _ rfl;(with_reducible repeat(first|refine blk_drewN ?_ _|refine blk_drew ?_|refine blk_alloc ?_ _));refine qad (cs:=#[.int .i64 t1163,.bool t1164,.int .i64 t1165,.slice Ao12 t1166.length co12,.int .i64 t1169]) ?_ 3 _ rfl;(with_reducible repeat(first|refine blk_drewN ?_ _|refine blk_drew ?_|refine blk_alloc ?_ _));exact BK1185.out) hb);replace HB:=Aside0.mk (qab (za6 HB GE1170 GE1184 GE1185) hb);(try clear hb)))
            go_ret
            exact⟨by first|rfl|(simp[qal,qam]<;>rfl)|(simp only[←hji25,←hji31];first|rfl|(simp[qal,qam]<;>rfl))|(simp[*,qal,qam]<;>rfl),za6 HB GE1170 GE1184 GE1185⟩
          ·replace c32:=Bool.eq_false_iff.mpr c32
           subst c32
           have H1:(some false)=some r:=by rw[if_neg (show ¬(false=true) by decide)] at H;exact H
           clear H
           have H:=H1
           clear H1
           obtain rfl:=Option.some.inj H
           obtain⟨hcz80_0,hcz80_1,hcz80_2,hcz80_3,hcz80_4,hfz80_0,hfz80_1,hfz80_2,hfz80_3,hfz80_4⟩:=zC5 BK1170
           try go_wp2
           replace HO_1171003:=Aside0.mk (Kd.N_drew HO_1171003.out)
           replace BK1170:=Aside0.mk (blk_drew BK1170.out)
           replace HB:=Aside0.mk (qao HB.out)
           have q82:((ji25):Int)≤((t1166.length:Int):Int):=of_decide_eq_true (za9)
           obtain⟨i082,hi082,_,hsz82,_⟩:=info_parts info32
           have hroom82:t1166.length≤co12:=(Kd.N_reads' HO_1171003.out).2.1
           have hC82:Kd.F k32 _ _ Ao12 t1166.length t1166:=(Kd.V_at (base:=w.heap.size) (Kd.N_V HO_1171003.out)).2.2
           have hcut82:=cut_to (P:=Try.prog) 23 32 .i64 Try.underlying23 hi082 Ao12 t1166.length co12 (ji25) (of_decide_eq_true (za9)) q82 hroom82
           have hr82:=Kd.F_take (m:=((ji25):Int).toNat) hC82 (by omega)
           have hy82:y1174.length=((ji25):Int).toNat:=(by rw[Ny1174.out,List.length_take];omega)
           rw[←Ny1174.out] at hr82
           rw[←hy82] at hcut82
           have HO1178:=Aside0.mk (show Kd.V k32 32 _ w.heap.size _ (.slice Ao12 y1174.length co12) y1174 from Kd.V_mk (by omega) hr82)
           have HC1178:=Aside0.mk (show y1174.length≤co12 from by omega)
           clear hr82 hC82 hroom82 hi082 hsz82
           have KY82:=Aside0.mk hy82
           clear hy82
           replace q82:=eq_true q82
           refine start_ (n:=14) (S:=fun w'=>w'.cell? ⟨gb1170,0,none⟩=some (.int .i64 t1163)∧w'.cell? ⟨gb1170,1,none⟩=some (.bool t1164)∧w'.cell? ⟨gb1170,2,none⟩=some (.int .i64 t1165)∧w'.cell? ⟨gb1170,3,none⟩=some (.slice Ao12 t1166.length co12)∧w'.cell? ⟨gb1170,4,none⟩=some (.int .i64 t1169)) (ds:=[]) #[false,false,false,false,false,false,false,false,false,false,false,false,false,false] (by kernel_rfl) rfl rfl ⟨(blk_cell BK1170.out 0).trans rfl,(blk_cell BK1170.out 1).trans rfl,(blk_cell BK1170.out 2).trans rfl,(blk_cell BK1170.out 3).trans rfl,(blk_cell BK1170.out 4).trans rfl⟩ (fun hHeld=>?_);refine with_tabW laws_FnHouseLog.tab8 laws_FnHouseLog.bits8 (fun HT_ HW_=>?_)
           generalize wc.drew=w81 at HO_1171003 BK1170 HB HO1178 hHeld ⊢
           refine qaj (i:=0) (N:=some 44) (v:=?_) (a':=?_) #[true,false,false,false,false,false,false,false,false,false,false,false,false,false] rfl rfl (qah HT_.out (by kernel_rfl)) (fun _ _ _ h=>h) (Or.inl ⟨by rfl,?_⟩) ?_ ?_
           rotate_left
           ·intro w'
            go_simp
            with_reducible rfl
           rotate_left
           ·simp only[Act.put,List.setIfInBounds_toArray,List.set_cons_zero,List.set_cons_succ,qaf,qag]
            rfl
           refine qaj (i:=2) (N:=some 46) (v:=?_) (a':=?_) #[true,false,true,false,false,false,false,false,false,false,false,false,false,false] rfl rfl (qah HT_.out (by kernel_rfl)) (fun _ _ _ h=>h) (Or.inl ⟨by rfl,?_⟩) ?_ ?_
           rotate_left
           ·intro w'
            go_simp
            with_reducible rfl
           rotate_left
           ·simp only[Act.put,List.setIfInBounds_toArray,List.set_cons_zero,List.set_cons_succ,qaf,qag]
            rfl
           refine qaj (i:=3) (N:=some 47) (v:=?_) (a':=?_) #[true,false,true,true,false,false,false,false,false,false,false,false,false,false] rfl rfl (qah HT_.out (by kernel_rfl)) (fun _ _ _ h=>h) (Or.inl ⟨by rfl,?_⟩) ?_ ?_
           rotate_left
           ·intro w'
            go_simp
            with_reducible rfl
           rotate_left
           ·simp only[Act.put,List.setIfInBounds_toArray,List.set_cons_zero,List.set_cons_succ,qaf,qag]
            rfl
           refine qaj (i:=5) (N:=some 49) (v:=?_) (a':=?_) #[true,false,true,true,false,true,false,false,false,false,false,false,false,false] rfl rfl (qah HT_.out (by kernel_rfl)) (fun _ _ _ h=>h) (Or.inl ⟨by rfl,?_⟩) ?_ ?_
           rotate_left
           ·intro w'
            go_simp
            with_reducible rfl
           rotate_left
           ·simp only[Act.put,List.setIfInBounds_toArray,List.set_cons_zero,List.set_cons_succ,qaf,qag]
            rfl
           refine take_ (i:=1) (N:=some 45) (v:=?_) (a':=?_) #[true,true,true,true,false,true,false,false,false,false,false,false,false,false] rfl rfl (qap HT_.out HW_.out (by kernel_rfl)) (fun _ _ _ h=>h) (Or.inl ⟨by rfl,?_⟩) hHeld ?_ ?_
           rotate_left
           ·rintro w' ⟨s0,s1,s2,s3,s4⟩
            go_simp
            with_reducible rfl
           rotate_left
           ·simp only[Act.put,List.setIfInBounds_toArray,List.set_cons_zero,List.set_cons_succ,qaf,qag]
            rfl
           refine take_ (i:=4) (N:=some 48) (v:=?_) (a':=?_) #[true,true,true,true,true,true,false,false,false,false,false,false,false,false] rfl rfl (qap HT_.out HW_.out (by kernel_rfl)) (fun _ _ _ h=>h) (Or.inl ⟨by rfl,?_⟩) hHeld ?_ ?_
           rotate_left
           ·rintro w' ⟨s0,s1,s2,s3,s4⟩
            go_simp
            with_reducible rfl
           rotate_left
           ·simp only[Act.put,List.setIfInBounds_toArray,List.set_cons_zero,List.set_cons_succ,qaf,qag]
            rfl
           refine qaj (i:=6) (N:=some 50) (v:=?_) (a':=?_) #[true,true,true,true,true,true,true,false,false,false,false,false,false,false] rfl rfl (qah HT_.out (by kernel_rfl)) (fun _ _ _ h=>h) (Or.inl ⟨by rfl,?_⟩) ?_ ?_
           rotate_left
           ·intro w'
            go_simp
            with_reducible rfl
           rotate_left
           ·simp only[Act.put,List.setIfInBounds_toArray,List.set_cons_zero,List.set_cons_succ,qaf,qag]
            rfl
           refine join_ (σ:=Value × Nat) 2 #[true,true,true,true,true,true,true,true,true,true,true,true,false,false] (fun s_=>[(51,.tuple #[.agg #[.int .i64 t1179,s_.1],.bool false]),(8,.pointer (some ⟨s_.2,0,none⟩)),(43,.tuple #[.agg #[.int .i64 t1179,s_.1],.bool false]),(52,.agg #[.int .i64 t1179,s_.1]),(53,.bool false)]) (fun s_ w'=>(w'.cell? ⟨gb1170,0,none⟩=some (.int .i64 t1163)∧w'.cell? ⟨gb1170,1,none⟩=some (.bool t1164)∧w'.cell? ⟨gb1170,2,none⟩=some (.int .i64 t1165)∧w'.cell? ⟨gb1170,3,none⟩=some (.slice Ao12 t1166.length co12)∧w'.cell? ⟨gb1170,4,none⟩=some (.int .i64 t1169))∧(Kd.V k32 32 w' w.heap.size (fun k_=>some k_≠(s_.1:Value).ownBlock∧k_≠gb1170∧k_≠s_.2) (.slice Ao12 y1174.length co12) y1174)∧(Kd.R k49 49 w' w.heap.size (fun _=>True) s_.1 t1180)∧(Kd.N k32 32 w' w.heap.size (fun k_=>some k_≠(s_.1:Value).ownBlock∧k_≠gb1170∧k_≠s_.2) (.slice Ao12 t1166.length co12) t1166)∧(w'.heap[gb1170]?=some (.cells #[.int .i64 t1163,.bool t1164,.int .i64 t1165,.slice Ao12 t1166.length co12,.int .i64 t1169] 72 (0,0)))∧(w'.heap[s_.2]?=some (.cells #[.int .i64 0,.slice none 0 0] 38 (0,0)))∧(w.heap.size≤s_.2)∧(w.heap.size≤s_.2)∧(gb1170≠s_.2)∧(s_.2≠gb1170)∧(Below w.heap.size w w')) ?_ ?_
           rotate_left
           ·intro hCont
            refine two_ (i:=7) (j:=11) (Ni:=some 51) (Nj:=some 8) #[true,true,true,true,true,true,true,true,false,false,false,false,false,false] #[true,true,true,true,true,true,true,false,false,false,false,true,false,false] rfl rfl rfl rfl (two_of HT_.out (by kernel_rfl)) (by decide) (by decide) (fun K hK=>?_) (fun K hK=>?_)
            ·skip
             refine goes_ Try.func22 (by kernel_rfl) rfl #[.int .i64 t1165,.slice Ao12 y1174.length co12] (by rfl) rfl rfl (by(try simp only[List.map_toArray,List.map_cons,List.map_nil]);first|done|rfl|(simp only[List.length_drop,List.length_take];rfl)) ?_
             with_reducible refine(impl_StockOf.calls kj7 t1165 _ _ y1174 t1179 t1180 false _ ?side1 ?side2 A28.out).mono ?_
             (case side1=>repeat(first|exact(Kd.V_reads' HO1178.out).2.2|(with_reducible refine Kd.C_alloc ?_ _)|(with_reducible refine Kd.C_drewN ?_ _)|(with_reducible refine Kd.C_drew ?_)))
             (case side2=>exact(Kd.V_reads' HO1178.out).2.1)
             rintro e w83 ⟨v1181,rfl,ho0,hb⟩
             refine⟨_,rfl,?_⟩
             replace HO_1171003:=Aside0.mk (Kd.N_elder' (za36 HO_1171003) (Kd.R_base ho0) hb)
             replace HO1178:=Aside0.mk (Kd.V_elder' (za42 HO1178) (Kd.R_base ho0) hb)
             have HO1182:=Aside0.mk (Kd.R_lower ho0 (below_size (za1 HB GE1170)))
             replace BK1170:=Aside0.mk (qaa (zB BK1170) hb)
             replace HB:=Aside0.mk (qab (za1 HB GE1170) hb)
             (try clear hb)
             (try clear hb2)
             (try clear hk)
             (try clear hi)
             (try clear ho0)
             refine hK.out _ _ ⟨(blk_cell BK1170.out 0).trans rfl,(blk_cell BK1170.out 1).trans rfl,(blk_cell BK1170.out 2).trans rfl,(blk_cell BK1170.out 3).trans rfl,(blk_cell BK1170.out 4).trans rfl⟩ (fun hHeld=>?_)
             clear hK K
             refine norm_ (a':=?_) ?_ ?_
             rotate_left
             ·show Act.put _ (some 51) _=_
              simp only[Act.put,List.setIfInBounds_toArray,List.set_cons_zero,List.set_cons_succ,qaf,qag]
              rfl
             refine qaj (i:=8) (N:=some 43) (v:=?_) (a':=?_) #[true,true,true,true,true,true,true,true,true,false,false,false,false,false] rfl rfl (qah HT_.out (by kernel_rfl)) (fun _ _ _ h=>h) (Or.inl ⟨by rfl,?_⟩) ?_ ?_
             rotate_left
             ·intro w'
              go_simp
              with_reducible rfl
             rotate_left
             ·simp only[Act.put,List.setIfInBounds_toArray,List.set_cons_zero,List.set_cons_succ,qaf,qag]
              rfl
             refine qaj (i:=9) (N:=some 52) (v:=?_) (a':=?_) #[true,true,true,true,true,true,true,true,true,true,false,false,false,false] rfl rfl (qah HT_.out (by kernel_rfl)) (fun _ _ _ h=>h) (Or.inl ⟨by rfl,?_⟩) ?_ ?_
             rotate_left
             ·intro w'
              go_simp
              with_reducible rfl
             rotate_left
             ·simp only[Act.put,List.setIfInBounds_toArray,List.set_cons_zero,List.set_cons_succ,qaf,qag]
              rfl
             refine qaj (i:=10) (N:=some 53) (v:=?_) (a':=?_) #[true,true,true,true,true,true,true,true,true,true,true,false,false,false] rfl rfl (qah HT_.out (by kernel_rfl)) (fun _ _ _ h=>h) (Or.inl ⟨by rfl,?_⟩) ?_ ?_
             rotate_left
             ·intro w'
              go_simp
              with_reducible rfl
             rotate_left
             ·simp only[Act.put,List.setIfInBounds_toArray,List.set_cons_zero,List.set_cons_succ,qaf,qag]
              rfl
             refine one_ (i:=11) (N:=some 8) #[true,true,true,true,true,true,true,true,true,true,true,true,false,false] rfl rfl (one_of HT_.out (by kernel_rfl)) (by decide) (fun K hK=>?_)
             refine box_step (by rfl) (N:=8) (by rfl) (cs:=#[.int .i64 0,.slice none 0 0]) (t:=38) (by first|(go_simp;done)|(go_simp;rfl)) ?_
             intro gb1184 hg w84 hbox hb
             replace HO_1171003:=Aside0.mk (Kd.N_below (Kd.N_elderB (za36 HO_1171003) gb1184 (Nat.le_of_eq hg.symm)) hb)
             replace HO1178:=Aside0.mk (Kd.V_below (Kd.V_elderB (za42 HO1178) gb1184 (Nat.le_of_eq hg.symm)) hb)
             replace HO1182:=Aside0.mk (Kd.R_below (za5 HO1182) hb)
             have BK1184:=Aside0.mk hbox
             have GW1184:=zH (w:=w) hg (za1 HB GE1170)
             have GE1184:=GW1184
             replace HB:=Aside0.mk (qab (za1 HB GE1170) hb)
             have NB1170_1184:=zL BK1170 hg
             have NB1184_1170:=zG BK1170 hg
             replace BK1170:=Aside0.mk (qaa (zB BK1170) hb)
             clear hb hbox hg
             refine hK.out _ _ ⟨(blk_cell BK1170.out 0).trans rfl,(blk_cell BK1170.out 1).trans rfl,(blk_cell BK1170.out 2).trans rfl,(blk_cell BK1170.out 3).trans rfl,(blk_cell BK1170.out 4).trans rfl⟩ (fun hHeld=>?_)
             clear hK K
             refine norm_ (a':=?_) ?_ ?_
             rotate_left
             ·show Act.put _ (some 8) _=_
              simp only[Act.put,List.setIfInBounds_toArray,List.set_cons_zero,List.set_cons_succ,qaf,qag]
              rfl
             exact norm_ (by simp only[putAll,Act.put,List.setIfInBounds_toArray,List.set_cons_zero,List.set_cons_succ]) (hCont (v1181,gb1184) _ ⟨hHeld,(by(with_reducible repeat(first|apply Kd.V_alloc|apply Kd.V_drewN|apply Kd.V_drew));exact Kd.V_mono HO1178.out (fun _ hk=>⟨hk.1.2,⟨hk.1.1,hk.2⟩⟩)),(za5 HO1182),(by(with_reducible repeat(first|apply Kd.N_alloc|apply Kd.N_drewN|apply Kd.N_drew));exact Kd.N_mono HO_1171003.out (fun _ hk=>⟨hk.1.2,⟨hk.1.1,hk.2⟩⟩)),(zB BK1170),(zB BK1184),GW1184.out,GE1184.out,NB1170_1184.out,NB1184_1170.out,(za2 HB GE1170 GE1184)⟩)
            ·skip
             refine box_step (by rfl) (N:=8) (by rfl) (cs:=#[.int .i64 0,.slice none 0 0]) (t:=38) (by first|(go_simp;done)|(go_simp;rfl)) ?_
             intro gb1184 hg w83 hbox hb
             replace HO_1171003:=Aside0.mk (Kd.N_below (Kd.N_elderB (za36 HO_1171003) gb1184 (Nat.le_of_eq hg.symm)) hb)
             replace HO1178:=Aside0.mk (Kd.V_below (Kd.V_elderB (za42 HO1178) gb1184 (Nat.le_of_eq hg.symm)) hb)
             have BK1184:=Aside0.mk hbox
             have GW1184:=zH (w:=w) hg (za1 HB GE1170)
             have GE1184:=GW1184
             replace HB:=Aside0.mk (qab (za1 HB GE1170) hb)
             have NB1170_1184:=zL BK1170 hg
             have NB1184_1170:=zG BK1170 hg
             replace BK1170:=Aside0.mk (qaa (zB BK1170) hb)
             clear hb hbox hg
             refine hK.out _ _ ⟨(blk_cell BK1170.out 0).trans rfl,(blk_cell BK1170.out 1).trans rfl,(blk_cell BK1170.out 2).trans rfl,(blk_cell BK1170.out 3).trans rfl,(blk_cell BK1170.out 4).trans rfl⟩ (fun hHeld=>?_)
             clear hK K
             refine norm_ (a':=?_) ?_ ?_
             rotate_left
             ·show Act.put _ (some 8) _=_
              simp only[Act.put,List.setIfInBounds_toArray,List.set_cons_zero,List.set_cons_succ,qaf,qag]
              rfl
             refine one_ (i:=7) (N:=some 51) #[true,true,true,true,true,true,true,true,false,false,false,true,false,false] rfl rfl (one_of HT_.out (by kernel_rfl)) (by decide) (fun K hK=>?_)
             refine goes_ Try.func22 (by kernel_rfl) rfl #[.int .i64 t1165,.slice Ao12 y1174.length co12] (by rfl) rfl rfl (by(try simp only[List.map_toArray,List.map_cons,List.map_nil]);first|done|rfl|(simp only[List.length_drop,List.length_take];rfl)) ?_
             with_reducible refine(impl_StockOf.calls kj7 t1165 _ _ y1174 t1179 t1180 false _ ?side1 ?side2 A28.out).mono ?_
             (case side1=>repeat(first|exact(Kd.V_reads' HO1178.out).2.2|(with_reducible refine Kd.C_alloc ?_ _)|(with_reducible refine Kd.C_drewN ?_ _)|(with_reducible refine Kd.C_drew ?_)))
             (case side2=>exact(Kd.V_reads' HO1178.out).2.1)
             rintro e w84 ⟨v1181,rfl,ho0,hb⟩
             refine⟨_,rfl,?_⟩
             replace HO_1171003:=Aside0.mk (Kd.N_elder' (za36 HO_1171003) (Kd.R_base ho0) hb)
             replace HO1178:=Aside0.mk (Kd.V_elder' (za42 HO1178) (Kd.R_base ho0) hb)
             have HO1182:=Aside0.mk (Kd.R_lower ho0 (below_size (za2 HB GE1170 GE1184)))
             replace BK1170:=Aside0.mk (qaa (zB BK1170) hb)
             replace BK1184:=Aside0.mk (qaa (zB BK1184) hb)
             replace HB:=Aside0.mk (qab (za2 HB GE1170 GE1184) hb)
             (try clear hb)
             (try clear hb2)
             (try clear hk)
             (try clear hi)
             (try clear ho0)
             refine hK.out _ _ ⟨(blk_cell BK1170.out 0).trans rfl,(blk_cell BK1170.out 1).trans rfl,(blk_cell BK1170.out 2).trans rfl,(blk_cell BK1170.out 3).trans rfl,(blk_cell BK1170.out 4).trans rfl⟩ (fun hHeld=>?_)
             clear hK K
             refine norm_ (a':=?_) ?_ ?_
             rotate_left
             ·show Act.put _ (some 51) _=_
              simp only[Act.put,List.setIfInBounds_toArray,List.set_cons_zero,List.set_cons_succ,qaf,qag]
              rfl
             refine qaj (i:=8) (N:=some 43) (v:=?_) (a':=?_) #[true,true,true,true,true,true,true,true,true,false,false,true,false,false] rfl rfl (qah HT_.out (by kernel_rfl)) (fun _ _ _ h=>h) (Or.inl ⟨by rfl,?_⟩) ?_ ?_
             rotate_left
             ·intro w'
              go_simp
              with_reducible rfl
             rotate_left
             ·simp only[Act.put,List.setIfInBounds_toArray,List.set_cons_zero,List.set_cons_succ,qaf,qag]
              rfl
             refine qaj (i:=9) (N:=some 52) (v:=?_) (a':=?_) #[true,true,true,true,true,true,true,true,true,true,false,true,false,false] rfl rfl (qah HT_.out (by kernel_rfl)) (fun _ _ _ h=>h) (Or.inl ⟨by rfl,?_⟩) ?_ ?_
             rotate_left
             ·intro w'
              go_simp
              with_reducible rfl
             rotate_left
             ·simp only[Act.put,List.setIfInBounds_toArray,List.set_cons_zero,List.set_cons_succ,qaf,qag]
              rfl
             refine qaj (i:=10) (N:=some 53) (v:=?_) (a':=?_) #[true,true,true,true,true,true,true,true,true,true,true,true,false,false] rfl rfl (qah HT_.out (by kernel_rfl)) (fun _ _ _ h=>h) (Or.inl ⟨by rfl,?_⟩) ?_ ?_
             rotate_left
             ·intro w'
              go_simp
              with_reducible rfl
             rotate_left
             ·simp only[Act.put,List.setIfInBounds_toArray,List.set_cons_zero,List.set_cons_succ,qaf,qag]
              rfl
             exact norm_ (by simp only[putAll,Act.put,List.setIfInBounds_toArray,List.set_cons_zero,List.set_cons_succ]) (hCont (v1181,gb1184) _ ⟨hHeld,(by(with_reducible repeat(first|apply Kd.V_alloc|apply Kd.V_drewN|apply Kd.V_drew));exact Kd.V_mono HO1178.out (fun _ hk=>⟨hk.2,⟨hk.1.1,hk.1.2⟩⟩)),(za5 HO1182),(by(with_reducible repeat(first|apply Kd.N_alloc|apply Kd.N_drewN|apply Kd.N_drew));exact Kd.N_mono HO_1171003.out (fun _ hk=>⟨hk.2,⟨hk.1.1,hk.1.2⟩⟩)),(zB BK1170),(zB BK1184),GW1184.out,GE1184.out,NB1170_1184.out,NB1184_1170.out,(za2 HB GE1170 GE1184)⟩)
           rintro⟨v1181,gb1184⟩ w85 ⟨hS_,h0_,h1_,h2_,h3_,h4_,h5_,h6_,h7_,h8_,h9_⟩
           have HO1178:Aside0 (Kd.V k32 32 w85 w.heap.size (fun k_=>some k_≠(v1181:Value).ownBlock∧k_≠gb1170∧k_≠gb1184) (.slice Ao12 y1174.length co12) y1174):=⟨h0_⟩
           have HO1182:Aside0 (Kd.R k49 49 w85 w.heap.size (fun _=>True) v1181 t1180):=⟨h1_⟩
           replace HO_1171003:Aside0 (Kd.N k32 32 w85 w.heap.size (fun k_=>some k_≠(v1181:Value).ownBlock∧k_≠gb1170∧k_≠gb1184) (.slice Ao12 t1166.length co12) t1166):=⟨h2_⟩
           replace BK1170:Aside0 (w85.heap[gb1170]?=some (.cells #[.int .i64 t1163,.bool t1164,.int .i64 t1165,.slice Ao12 t1166.length co12,.int .i64 t1169] 72 (0,0))):=⟨h3_⟩
           have BK1184:Aside0 (w85.heap[gb1184]?=some (.cells #[.int .i64 0,.slice none 0 0] 38 (0,0))):=⟨h4_⟩
           have GW1184:Aside0 (w.heap.size≤gb1184):=⟨h5_⟩
           have GE1184:Aside0 (w.heap.size≤gb1184):=⟨h6_⟩
           have NB1170_1184:Aside0 (gb1170≠gb1184):=⟨h7_⟩
           have NB1184_1170:Aside0 (gb1184≠gb1170):=⟨h8_⟩
           replace HB:Aside0 (Below w.heap.size w w85):=⟨h9_⟩
           clear h0_ h1_ h2_ h3_ h4_ h5_ h6_ h7_ h8_ h9_
           have hHeld:w85.cell? ⟨gb1170,0,none⟩=some (.int .i64 t1163)∧w85.cell? ⟨gb1170,1,none⟩=some (.bool t1164)∧w85.cell? ⟨gb1170,2,none⟩=some (.int .i64 t1165)∧w85.cell? ⟨gb1170,3,none⟩=some (.slice Ao12 t1166.length co12)∧w85.cell? ⟨gb1170,4,none⟩=some (.int .i64 t1169):=hS_
           obtain⟨Ao87,co87,eo87⟩:=Kd.R_slice HO1182.out
           (first|subst eo87|(injection eo87 with f1_ f2_ f3_;have f4_:=f1_.symm;have f5_:=f3_.symm;clear f1_ f2_ f3_;subst f4_;subst f5_))
           refine norm_ (a':=?_) ?_ ?_
           rotate_left
           ·simp only[putAll,Act.put,List.setIfInBounds_toArray,List.set_cons_zero,List.set_cons_succ]
            rfl
           refine one_ (i:=12) (N:=none) #[true,true,true,true,true,true,true,true,true,true,true,true,true,false] rfl rfl (one_of HT_.out (by kernel_rfl)) (by decide) (fun K hK=>?_)
           have hs86:w85.cell? ⟨gb1184,0,none⟩=some (.int .i64 0):=(blk_cell BK1184.out 0).trans rfl
           have hfs86:=blk_frozen BK1184.out 0
           have hns86_0:=NB1170_1184.out
           have hms86_0:=NB1184_1170.out
           have hs88:w85.cell? ⟨gb1184,1,none⟩=some (.slice none 0 0):=(blk_cell BK1184.out 1).trans rfl
           have hfs88:=blk_frozen BK1184.out 1
           have hns88_0:=NB1170_1184.out
           have hms88_0:=NB1184_1170.out
           refine skip_ (w1:=?_) (by rfl) rfl ?_ ?_
           rotate_left
           ·go_simp
            rfl
           refine hK.out _ _ ⟨((qai (p:=⟨gb1184,_,none⟩) NB1170_1184.out _).trans (((qai (p:=⟨gb1184,_,none⟩) NB1170_1184.out _).trans (hHeld.1)))),((qai (p:=⟨gb1184,_,none⟩) NB1170_1184.out _).trans (((qai (p:=⟨gb1184,_,none⟩) NB1170_1184.out _).trans (hHeld.2.1)))),((qai (p:=⟨gb1184,_,none⟩) NB1170_1184.out _).trans (((qai (p:=⟨gb1184,_,none⟩) NB1170_1184.out _).trans (hHeld.2.2.1)))),((qai (p:=⟨gb1184,_,none⟩) NB1170_1184.out _).trans (((qai (p:=⟨gb1184,_,none⟩) NB1170_1184.out _).trans (hHeld.2.2.2.1)))),((qai (p:=⟨gb1184,_,none⟩) NB1170_1184.out _).trans (((qai (p:=⟨gb1184,_,none⟩) NB1170_1184.out _).trans (hHeld.2.2.2.2))))⟩ (fun hHeld=>?_)
           clear hK K
           refine qaj (i:=13) (N:=some 9) (v:=?_) (a':=?_) #[true,true,true,true,true,true,true,true,true,true,true,true,true,true] rfl rfl (qah HT_.out (by kernel_rfl)) (fun _ _ _ h=>h) (Or.inl ⟨by rfl,?_⟩) ?_ ?_
           rotate_left
           ·intro w'
            go_simp
            with_reducible rfl
           rotate_left
           ·simp only[Act.put,List.setIfInBounds_toArray,List.set_cons_zero,List.set_cons_succ,qaf,qag]
            rfl
           refine done_ (done_of HT_.out (by kernel_rfl)) ?_
           have hnb89:=NB1170_1184.out
           have hnc89:=NB1184_1170.out
           obtain⟨hcz90_0,hcz90_1,hcz90_2,hcz90_3,hcz90_4,hfz90_0,hfz90_1,hfz90_2,hfz90_3,hfz90_4⟩:=zC5 BK1170
           try go_wp2_with(first|((with_reducible refine qae (N:=10) rfl ?_);(try(refine gate_guard (by rfl) ?_;dsimp only));refine zX (N:=10) (cs:=#[.int .i64 0,.bool false,.int .i64 0,.slice none 0 0,.int .i64 0]) (t:=72) ?_;intro gb1185 hg w91 hbox hb;replace HO_1171003:=Aside0.mk (Kd.N_below (Kd.N_elderB (by(with_reducible repeat(first|apply Kd.N_alloc|apply Kd.N_drewN|apply Kd.N_drew));exact(Kd.N_mono (Kd.N_far (p:=⟨gb1184,1,none⟩) (Kd.N_far (p:=⟨gb1184,0,none⟩) (Kd.N_mono HO_1171003.out (fun k_ hk=>(⟨hk,hk.2.2⟩:_∧k_≠gb1184))) (fun _ hk=>hk.2) (.int .i64 t1179)) (fun _ hk=>hk.2) (.slice Ao87 t1180.length co87)) (fun _ h_=>h_.1))) gb1185 (Nat.le_of_eq hg.symm)) hb);replace HO1178:=Aside0.mk (Kd.V_below (Kd.V_elderB (by(with_reducible repeat(first|apply Kd.V_alloc|apply Kd.V_drewN|apply Kd.V_drew));exact(Kd.V_mono (Kd.V_far (p:=⟨gb1184,1,none⟩) (Kd.V_far (p:=⟨gb1184,0,none⟩) (Kd.V_mono HO1178.out (fun k_ hk=>(⟨hk,hk.2.2⟩:_∧k_≠gb1184))) (fun _ hk=>hk.2) (.int .i64 t1179)) (fun _ hk=>hk.2) (.slice Ao87 t1180.length co87)) (fun _ h_=>h_.1))) gb1185 (Nat.le_of_eq hg.symm)) hb);replace HO1182:=Aside0.mk (Kd.R_below (by(with_reducible repeat(first|apply Kd.R_alloc|apply Kd.R_drewN|apply Kd.R_drew));exact(Kd.R_mono (Kd.R_far (p:=⟨gb1184,1,none⟩) (Kd.R_far (p:=⟨gb1184,0,none⟩) (Kd.R_types HO1182.out BK1184.out (by decide)) (fun _ hk=>hk.2) (.int .i64 t1179)) (fun _ hk=>hk.2) (.slice Ao87 t1180.length co87)) (fun _ h_=>h_.1))) hb);have BK1185:=Aside0.mk hbox;have GW1185:=zH (w:=w) hg (za2 HB GE1170 GE1184);have GE1185:=GW1185;replace HB:=Aside0.mk (qab (za2 HB GE1170 GE1184) hb);have NB1170_1185:=Aside0.mk ((by rw[hg];exact Nat.ne_of_lt (blk_lt (g:=gb1170) (o:=.cells #[.int .i64 t1163,.bool t1164,.int .i64 t1165,.slice Ao12 t1166.length co12,.int .i64 t1169] 72 (0,0)) (za0 NB1170_1184 BK1170)):gb1170≠gb1185));have NB1185_1170:=Aside0.mk ((by rw[hg];exact Nat.ne_of_gt (blk_lt (g:=gb1170) (o:=.cells #[.int .i64 t1163,.bool t1164,.int .i64 t1165,.slice Ao12 t1166.length co12,.int .i64 t1169] 72 (0,0)) (za0 NB1170_1184 BK1170)):gb1185≠gb1170));replace BK1170:=Aside0.mk (qaa (g:=gb1170) (o:=.cells #[.int .i64 t1163,.bool t1164,.int .i64 t1165,.slice Ao12 t1166.length co12,.int .i64 t1169] 72 (0,0)) (za0 NB1170_1184 BK1170) hb);have NB1184_1185:=Aside0.mk ((by rw[hg];exact Nat.ne_of_lt (blk_lt (g:=gb1184) (o:=.cells #[.int .i64 t1179,.slice Ao87 t1180.length co87] 38 (0,0)) (by(with_reducible repeat(first|refine blk_drewN ?_ _|refine blk_drew ?_|refine blk_alloc ?_ _));refine qad (cs:=#[.int .i64 t1179,.slice none 0 0]) ?_ 1 _ rfl;(with_reducible repeat(first|refine blk_drewN ?_ _|refine blk_drew ?_|refine blk_alloc ?_ _));refine qad (cs:=#[.int .i64 0,.slice none 0 0]) ?_ 0 _ rfl;(with_reducible repeat(first|refine blk_drewN ?_ _|refine blk_drew ?_|refine blk_alloc ?_ _));exact BK1184.out)):gb1184≠gb1185));have NB1185_1184:=Aside0.mk ((by rw[hg];exact Nat.ne_of_gt (blk_lt (g:=gb1184) (o:=.cells #[.int .i64 t1179,.slice Ao87 t1180.length co87] 38 (0,0)) (by(with_reducible repeat(first|refine blk_drewN ?_ _|refine blk_drew ?_|refine blk_alloc ?_ _));refine qad (cs:=#[.int .i64 t1179,.slice none 0 0]) ?_ 1 _ rfl;(with_reducible repeat(first|refine blk_drewN ?_ _|refine blk_drew ?_|refine blk_alloc ?_ _));refine qad (cs:=#[.int .i64 0,.slice none 0 0]) ?_ 0 _ rfl;(with_reducible repeat(first|refine blk_drewN ?_ _|refine blk_drew ?_|refine blk_alloc ?_ _));exact BK1184.out)):gb1185≠gb1184));replace BK1184:=Aside0.mk (qaa (g:=gb1184) (o:=.cells #[.int .i64 t1179,.slice Ao87 t1180.length co87] 38 (0,0)) (by(with_reducible repeat(first|refine blk_drewN ?_ _|refine blk_drew ?_|refine blk_alloc ?_ _));refine qad (cs:=#[.int .i64 t1179,.slice none 0 0]) ?_ 1 _ rfl;(with_reducible repeat(first|refine blk_drewN ?_ _|refine blk_drew ?_|refine blk_alloc ?_ _));refine qad (cs:=#[.int .i64 0,.slice none 0 0]) ?_ 0 _ rfl;(with_reducible repeat(first|refine blk_drewN ?_ _|refine blk_drew ?_|refine blk_alloc ?_ _));exact BK1184.out) hb);clear hb hbox hg;have hnb92:=NB1185_1170.out;have hnc92:=NB1170_1185.out;have hnb93:=NB1185_1184.out;have hnc93:=NB1184_1185.out;obtain⟨hcz94_0,hcz94_1,hcz94_2,hcz94_3,hcz94_4,hfz94_0,hfz94_1,hfz94_2,hfz94_3,hfz94_4⟩:=zC5 BK1185))
           have n0_:Aside0 (Kd.N k32 32 (((((w91.setCell ⟨gb1185,0,none⟩ (.int .i64 t1163)).setCell ⟨gb1185,1,none⟩ (.bool t1164)).setCell ⟨gb1185,2,none⟩ (.int .i64 t1165)).setCell ⟨gb1185,3,none⟩ (.slice Ao12 t1166.length co12)).setCell ⟨gb1185,4,none⟩ (.int .i64 t1169)) w.heap.size (fun k_=>some k_≠(.slice Ao87 t1180.length co87:Value).ownBlock∧k_≠gb1170∧k_≠gb1184∧k_≠gb1185) (.slice Ao12 t1166.length co12) t1166):=⟨by(with_reducible repeat(first|apply Kd.N_alloc|apply Kd.N_drewN|apply Kd.N_drew));exact Kd.N_mono (Kd.N_far (p:=⟨gb1185,4,none⟩) (Kd.N_far (p:=⟨gb1185,3,none⟩) (Kd.N_far (p:=⟨gb1185,2,none⟩) (Kd.N_far (p:=⟨gb1185,1,none⟩) (Kd.N_far (p:=⟨gb1185,0,none⟩) (Kd.N_mono HO_1171003.out (fun k_ hk=>(⟨hk,hk.2⟩:_∧k_≠gb1185))) (fun _ hk=>hk.2) (.int .i64 t1163)) (fun _ hk=>hk.2) (.bool t1164)) (fun _ hk=>hk.2) (.int .i64 t1165)) (fun _ hk=>hk.2) (.slice Ao12 t1166.length co12)) (fun _ hk=>hk.2) (.int .i64 t1169)) (fun _ hk=>⟨hk.1.1.1,⟨hk.1.1.2.1,⟨hk.1.1.2.2,hk.1.2⟩⟩⟩)⟩
           have n1_:Aside0 (Kd.V k32 32 (((((w91.setCell ⟨gb1185,0,none⟩ (.int .i64 t1163)).setCell ⟨gb1185,1,none⟩ (.bool t1164)).setCell ⟨gb1185,2,none⟩ (.int .i64 t1165)).setCell ⟨gb1185,3,none⟩ (.slice Ao12 t1166.length co12)).setCell ⟨gb1185,4,none⟩ (.int .i64 t1169)) w.heap.size (fun k_=>some k_≠(.slice Ao87 t1180.length co87:Value).ownBlock∧k_≠gb1170∧k_≠gb1184∧k_≠gb1185) (.slice Ao12 y1174.length co12) y1174):=⟨by(with_reducible repeat(first|apply Kd.V_alloc|apply Kd.V_drewN|apply Kd.V_drew));exact Kd.V_mono (Kd.V_far (p:=⟨gb1185,4,none⟩) (Kd.V_far (p:=⟨gb1185,3,none⟩) (Kd.V_far (p:=⟨gb1185,2,none⟩) (Kd.V_far (p:=⟨gb1185,1,none⟩) (Kd.V_far (p:=⟨gb1185,0,none⟩) (Kd.V_mono HO1178.out (fun k_ hk=>(⟨hk,hk.2⟩:_∧k_≠gb1185))) (fun _ hk=>hk.2) (.int .i64 t1163)) (fun _ hk=>hk.2) (.bool t1164)) (fun _ hk=>hk.2) (.int .i64 t1165)) (fun _ hk=>hk.2) (.slice Ao12 t1166.length co12)) (fun _ hk=>hk.2) (.int .i64 t1169)) (fun _ hk=>⟨hk.1.1.1,⟨hk.1.1.2.1,⟨hk.1.1.2.2,hk.1.2⟩⟩⟩)⟩
           have n2_:Aside0 (Kd.R k49 49 (((((w91.setCell ⟨gb1185,0,none⟩ (.int .i64 t1163)).setCell ⟨gb1185,1,none⟩ (.bool t1164)).setCell ⟨gb1185,2,none⟩ (.int .i64 t1165)).setCell ⟨gb1185,3,none⟩ (.slice Ao12 t1166.length co12)).setCell ⟨gb1185,4,none⟩ (.int .i64 t1169)) w.heap.size (fun _=>True) (.slice Ao87 t1180.length co87) t1180):=⟨by(with_reducible repeat(first|apply Kd.R_alloc|apply Kd.R_drewN|apply Kd.R_drew));exact Kd.R_mono (Kd.R_far (p:=⟨gb1185,4,none⟩) (Kd.R_far (p:=⟨gb1185,3,none⟩) (Kd.R_far (p:=⟨gb1185,2,none⟩) (Kd.R_far (p:=⟨gb1185,1,none⟩) (Kd.R_far (p:=⟨gb1185,0,none⟩) (Kd.R_types HO1182.out BK1185.out (by decide)) (fun _ hk=>hk.2) (.int .i64 t1163)) (fun _ hk=>hk.2) (.bool t1164)) (fun _ hk=>hk.2) (.int .i64 t1165)) (fun _ hk=>hk.2) (.slice Ao12 t1166.length co12)) (fun _ hk=>hk.2) (.int .i64 t1169)) (fun _ hk=>trivial)⟩
           have n3_:Aside0 ((((((w91.setCell ⟨gb1185,0,none⟩ (.int .i64 t1163)).setCell ⟨gb1185,1,none⟩ (.bool t1164)).setCell ⟨gb1185,2,none⟩ (.int .i64 t1165)).setCell ⟨gb1185,3,none⟩ (.slice Ao12 t1166.length co12)).setCell ⟨gb1185,4,none⟩ (.int .i64 t1169)).heap[gb1170]?=some (.cells #[.int .i64 t1163,.bool t1164,.int .i64 t1165,.slice Ao12 t1166.length co12,.int .i64 t1169] 72 (0,0))):=⟨za44 NB1170_1185 BK1170⟩
           have n4_:Aside0 ((((((w91.setCell ⟨gb1185,0,none⟩ (.int .i64 t1163)).setCell ⟨gb1185,1,none⟩ (.bool t1164)).setCell ⟨gb1185,2,none⟩ (.int .i64 t1165)).setCell ⟨gb1185,3,none⟩ (.slice Ao12 t1166.length co12)).setCell ⟨gb1185,4,none⟩ (.int .i64 t1169)).heap[gb1184]?=some (.cells #[.int .i64 t1179,.slice Ao87 t1180.length co87] 38 (0,0))):=⟨za44 NB1184_1185 BK1184⟩
           have n5_:Aside0 ((((((w91.setCell ⟨gb1185,0,none⟩ (.int .i64 t1163)).setCell ⟨gb1185,1,none⟩ (.bool t1164)).setCell ⟨gb1185,2,none⟩ (.int .i64 t1165)).setCell ⟨gb1185,3,none⟩ (.slice Ao12 t1166.length co12)).setCell ⟨gb1185,4,none⟩ (.int .i64 t1169)).heap[gb1185]?=some (.cells #[.int .i64 t1163,.bool t1164,.int .i64 t1165,.slice Ao12 t1166.length co12,.int .i64 t1169] 72 (0,0))):=⟨by(with_reducible repeat(first|refine blk_drewN ?_ _|refine blk_drew ?_|refine blk_alloc ?_ _));refine qad (cs:=#[.int .i64 t1163,.bool t1164,.int .i64 t1165,.slice Ao12 t1166.length co12,.int .i64 0]) ?_ 4 _ rfl;(with_reducible repeat(first|refine blk_drewN ?_ _|refine blk_drew ?_|refine blk_alloc ?_ _));refine qad (cs:=#[.int .i64 t1163,.bool t1164,.int .i64 t1165,.slice none 0 0,.int .i64 0]) ?_ 3 _ rfl;(with_reducible repeat(first|refine blk_drewN ?_ _|refine blk_drew ?_|refine blk_alloc ?_ _));refine qad (cs:=#[.int .i64 t1163,.bool t1164,.int .i64 0,.slice none 0 0,.int .i64 0]) ?_ 2 _ rfl;(with_reducible repeat(first|refine blk_drewN ?_ _|refine blk_drew ?_|refine blk_alloc ?_ _));refine qad (cs:=#[.int .i64 t1163,.bool false,.int .i64 0,.slice none 0 0,.int .i64 0]) ?_ 1 _ rfl;(with_reducible repeat(first|refine blk_drewN ?_ _|refine blk_drew ?_|refine blk_alloc ?_ _));refine qad (cs:=#[.int .i64 0,.bool false,.int .i64 0,.slice none 0 0,.int .i64 0]) ?_ 0 _ rfl;(with_reducible repeat(first|refine blk_drewN ?_ _|refine blk_drew ?_|refine blk_alloc ?_ _));exact BK1185.out⟩
           have n6_:Aside0 (Below w.heap.size w (((((w91.setCell ⟨gb1185,0,none⟩ (.int .i64 t1163)).setCell ⟨gb1185,1,none⟩ (.bool t1164)).setCell ⟨gb1185,2,none⟩ (.int .i64 t1165)).setCell ⟨gb1185,3,none⟩ (.slice Ao12 t1166.length co12)).setCell ⟨gb1185,4,none⟩ (.int .i64 t1169))):=⟨za6 HB GE1170 GE1184 GE1185⟩
           (try clear HO_1171003)
           (try clear HO1178)
           (try clear HO1182)
           (try clear BK1170)
           (try clear BK1184)
           (try clear BK1185)
           (try clear HB)
           generalize (((((w91.setCell ⟨gb1185,0,none⟩ (.int .i64 t1163)).setCell ⟨gb1185,1,none⟩ (.bool t1164)).setCell ⟨gb1185,2,none⟩ (.int .i64 t1165)).setCell ⟨gb1185,3,none⟩ (.slice Ao12 t1166.length co12)).setCell ⟨gb1185,4,none⟩ (.int .i64 t1169))=w95 at n0_ n1_ n2_ n3_ n4_ n5_ n6_ ⊢
           have HO_1171003:=n0_
           have HO1178:=n1_
           have HO1182:=n2_
           have BK1170:=n3_
           have BK1184:=n4_
           have BK1185:=n5_
           have HB:=n6_
           clear n0_ n1_ n2_ n3_ n4_ n5_ n6_
           replace HO_1171003:=Aside0.mk (Kd.N_drew HO_1171003.out)
           replace HO1178:=Aside0.mk (Kd.V_drew HO1178.out)
           replace HO1182:=Aside0.mk (Kd.R_drew HO1182.out)
           replace BK1170:=Aside0.mk (blk_drew BK1170.out)
           replace BK1184:=Aside0.mk (blk_drew BK1184.out)
           replace BK1185:=Aside0.mk (blk_drew BK1185.out)
           replace HB:=Aside0.mk (qao HB.out)
           refine start_ (n:=13) (S:=fun w'=>w'.cell? ⟨gb1170,0,none⟩=some (.int .i64 t1163)∧w'.cell? ⟨gb1170,1,none⟩=some (.bool t1164)∧w'.cell? ⟨gb1170,2,none⟩=some (.int .i64 t1165)∧w'.cell? ⟨gb1170,3,none⟩=some (.slice Ao12 t1166.length co12)∧w'.cell? ⟨gb1170,4,none⟩=some (.int .i64 t1169)) (ds:=[]) #[false,false,false,false,false,false,false,false,false,false,false,false,false] (by kernel_rfl) rfl rfl ⟨(blk_cell BK1170.out 0).trans rfl,(blk_cell BK1170.out 1).trans rfl,(blk_cell BK1170.out 2).trans rfl,(blk_cell BK1170.out 3).trans rfl,(blk_cell BK1170.out 4).trans rfl⟩ (fun hHeld=>?_);refine with_tabW laws_FnHouseLog.tab10 laws_FnHouseLog.bits10 (fun HT_ HW_=>?_)
           generalize w95.drew=w96 at HO_1171003 HO1178 HO1182 BK1170 BK1184 BK1185 HB hHeld ⊢
           refine qaj (i:=0) (N:=some 55) (v:=?_) (a':=?_) #[true,false,false,false,false,false,false,false,false,false,false,false,false] rfl rfl (qah HT_.out (by kernel_rfl)) (fun _ _ _ h=>h) (Or.inl ⟨by rfl,?_⟩) ?_ ?_
           rotate_left
           ·intro w'
            go_simp
            with_reducible rfl
           rotate_left
           ·simp only[Act.put,List.setIfInBounds_toArray,List.set_cons_zero,List.set_cons_succ,qaf,qag]
            rfl
           refine qaj (i:=1) (N:=some 56) (v:=?_) (a':=?_) #[true,true,false,false,false,false,false,false,false,false,false,false,false] rfl rfl (qah HT_.out (by kernel_rfl)) (fun _ _ _ h=>h) (Or.inl ⟨by rfl,?_⟩) ?_ ?_
           rotate_left
           ·intro w'
            go_simp
            with_reducible rfl
           rotate_left
           ·simp only[Act.put,List.setIfInBounds_toArray,List.set_cons_zero,List.set_cons_succ,qaf,qag]
            rfl
           refine qaj (i:=3) (N:=some 58) (v:=?_) (a':=?_) #[true,true,false,true,false,false,false,false,false,false,false,false,false] rfl rfl (qah HT_.out (by kernel_rfl)) (fun _ _ _ h=>h) (Or.inl ⟨by rfl,?_⟩) ?_ ?_
           rotate_left
           ·intro w'
            go_simp
            with_reducible rfl
           rotate_left
           ·simp only[Act.put,List.setIfInBounds_toArray,List.set_cons_zero,List.set_cons_succ,qaf,qag]
            rfl
           refine qaj (i:=5) (N:=some 60) (v:=?_) (a':=?_) #[true,true,false,true,false,true,false,false,false,false,false,false,false] rfl rfl (qah HT_.out (by kernel_rfl)) (fun _ _ _ h=>h) (Or.inl ⟨by rfl,?_⟩) ?_ ?_
           rotate_left
           ·intro w'
            go_simp
            with_reducible rfl
           rotate_left
           ·simp only[Act.put,List.setIfInBounds_toArray,List.set_cons_zero,List.set_cons_succ,qaf,qag]
            rfl
           refine qaj (i:=6) (N:=some 61) (v:=?_) (a':=?_) #[true,true,false,true,false,true,true,false,false,false,false,false,false] rfl rfl (qah HT_.out (by kernel_rfl)) (fun _ _ _ h=>h) (Or.inl ⟨by rfl,?_⟩) ?_ ?_
           rotate_left
           ·intro w'
            go_simp
            with_reducible rfl
           rotate_left
           ·simp only[Act.put,List.setIfInBounds_toArray,List.set_cons_zero,List.set_cons_succ,qaf,qag]
            rfl
           refine qaj (i:=7) (N:=some 62) (v:=?_) (a':=?_) #[true,true,false,true,false,true,true,true,false,false,false,false,false] rfl rfl (qah HT_.out (by kernel_rfl)) (fun _ _ _ h=>h) (Or.inl ⟨by rfl,?_⟩) ?_ ?_
           rotate_left
           ·intro w'
            go_simp
            with_reducible rfl
           rotate_left
           ·simp only[Act.put,List.setIfInBounds_toArray,List.set_cons_zero,List.set_cons_succ,qaf,qag]
            rfl
           refine take_ (i:=2) (N:=some 57) (v:=?_) (a':=?_) #[true,true,true,true,false,true,true,true,false,false,false,false,false] rfl rfl (qap HT_.out HW_.out (by kernel_rfl)) (fun _ _ _ h=>h) (Or.inl ⟨by rfl,?_⟩) hHeld ?_ ?_
           rotate_left
           ·rintro w' ⟨s0,s1,s2,s3,s4⟩
            go_simp
            with_reducible rfl
           rotate_left
           ·simp only[Act.put,List.setIfInBounds_toArray,List.set_cons_zero,List.set_cons_succ,qaf,qag]
            rfl
           refine qaj (i:=4) (N:=some 59) (v:=?_) (a':=?_) #[true,true,true,true,true,true,true,true,false,false,false,false,false] rfl rfl (qah HT_.out (by kernel_rfl)) (fun _ _ _ h=>h) (Or.inl ⟨by rfl,?_⟩) ?_ ?_
           rotate_left
           ·intro w'
            go_simp
            with_reducible rfl
           rotate_left
           ·simp only[Act.put,List.setIfInBounds_toArray,List.set_cons_zero,List.set_cons_succ,qaf,qag]
            rfl
           refine take_ (i:=8) (N:=some 63) (v:=?_) (a':=?_) #[true,true,true,true,true,true,true,true,true,false,false,false,false] rfl rfl (qap HT_.out HW_.out (by kernel_rfl)) (fun _ _ _ h=>h) (Or.inl ⟨by rfl,?_⟩) hHeld ?_ ?_
           rotate_left
           ·rintro w' ⟨s0,s1,s2,s3,s4⟩
            go_simp
            with_reducible rfl
           rotate_left
           ·simp only[Act.put,List.setIfInBounds_toArray,List.set_cons_zero,List.set_cons_succ,qaf,qag]
            rfl
           refine qaj (i:=9) (N:=some 64) (v:=?_) (a':=?_) #[true,true,true,true,true,true,true,true,true,true,false,false,false] rfl rfl (qah HT_.out (by kernel_rfl)) (fun _ _ _ h=>h) (Or.inl ⟨by rfl,?_⟩) ?_ ?_
           rotate_left
           ·intro w'
            go_simp
            with_reducible rfl
           rotate_left
           ·simp only[Act.put,List.setIfInBounds_toArray,List.set_cons_zero,List.set_cons_succ,qaf,qag]
            rfl
           refine qaj (i:=10) (N:=some 65) (v:=?_) (a':=?_) #[true,true,true,true,true,true,true,true,true,true,true,false,false] rfl rfl (qah HT_.out (by kernel_rfl)) (fun _ _ _ h=>h) (Or.inl ⟨by rfl,?_⟩) ?_ ?_
           rotate_left
           ·intro w'
            go_simp
            with_reducible rfl
           rotate_left
           ·simp only[Act.put,List.setIfInBounds_toArray,List.set_cons_zero,List.set_cons_succ,qaf,qag]
            rfl
           refine qaj (i:=11) (N:=some 66) (v:=?_) (a':=?_) #[true,true,true,true,true,true,true,true,true,true,true,true,false] rfl rfl (qah HT_.out (by kernel_rfl)) (fun _ _ _ h=>h) (Or.inl ⟨by rfl,?_⟩) ?_ ?_
           rotate_left
           ·intro w'
            go_simp
            with_reducible rfl
           rotate_left
           ·simp only[Act.put,List.setIfInBounds_toArray,List.set_cons_zero,List.set_cons_succ,qaf,qag]
            rfl
           refine one_ (i:=12) (N:=none) #[true,true,true,true,true,true,true,true,true,true,true,true,true] rfl rfl (one_of HT_.out (by kernel_rfl)) (by decide) (fun K hK=>?_)
           have hs97:w96.cell? ⟨gb1185,3,none⟩=some (.slice Ao12 t1166.length co12):=(blk_cell BK1185.out 3).trans rfl
           have hfs97:=blk_frozen BK1185.out 3
           have hns97_0:=NB1170_1185.out
           have hns97_1:=NB1184_1185.out
           have hms97_0:=NB1185_1170.out
           have hms97_1:=NB1185_1184.out
           have hs98:w96.cell? ⟨gb1185,4,none⟩=some (.int .i64 t1169):=(blk_cell BK1185.out 4).trans rfl
           have hfs98:=blk_frozen BK1185.out 4
           have hns98_0:=NB1170_1185.out
           have hns98_1:=NB1184_1185.out
           have hms98_0:=NB1185_1170.out
           have hms98_1:=NB1185_1184.out
           refine skip_ (w1:=?_) (by rfl) rfl ?_ ?_
           rotate_left
           ·go_simp
            rfl
           refine hK.out _ _ ⟨((qai (p:=⟨gb1185,_,none⟩) NB1170_1185.out _).trans (((qai (p:=⟨gb1185,_,none⟩) NB1170_1185.out _).trans (hHeld.1)))),((qai (p:=⟨gb1185,_,none⟩) NB1170_1185.out _).trans (((qai (p:=⟨gb1185,_,none⟩) NB1170_1185.out _).trans (hHeld.2.1)))),((qai (p:=⟨gb1185,_,none⟩) NB1170_1185.out _).trans (((qai (p:=⟨gb1185,_,none⟩) NB1170_1185.out _).trans (hHeld.2.2.1)))),((qai (p:=⟨gb1185,_,none⟩) NB1170_1185.out _).trans (((qai (p:=⟨gb1185,_,none⟩) NB1170_1185.out _).trans (hHeld.2.2.2.1)))),((qai (p:=⟨gb1185,_,none⟩) NB1170_1185.out _).trans (((qai (p:=⟨gb1185,_,none⟩) NB1170_1185.out _).trans (hHeld.2.2.2.2))))⟩ (fun hHeld=>?_)
           clear hK K
           refine done_ (done_of HT_.out (by kernel_rfl)) ?_
           try go_wp2
           go_ret
           exact⟨by first|rfl|(simp[qal,qam]<;>rfl)|(simp only[←hji25,←hji31];first|rfl|(simp[qal,qam]<;>rfl))|(simp[*,qal,qam]<;>rfl),za6 HB GE1170 GE1184 GE1185⟩
         ·rw[if_neg c27] at H
          exact absurd H (by simp)
        ·rw[if_neg c26] at H
         exact absurd H (by simp)
def laws_FnHouseLog.Pure:Prop:=∀(l0:List Int) (l1:List Int),l0.length≤maxLen→l0.length*1≤140737488351232→(∀x ∈ l0,(Lit.int .u8 x).wf=true)→l1.length≤maxLen→l1.length*1≤140737488351232→(∀x ∈ l1,(Lit.int .u8 x).wf=true)→∃k,laws_FnHouseLog.f k l0 l1=some true
theorem laws_FnHouseLog.walk (P:laws_FnHouseLog.Pure) (a0:Option Addr) (len0 cap0:Nat) (z0:List Int) (a1:Option Addr) (len1 cap1:Nat) (z1:List Int) (w:World) (w0:(a0=none∧len0=0∧cap0=0∧z0=[])∨∃x,a0=some x∧len0≤cap0∧cap0≤maxLen∧z0.length=cap0∧(∀i,i<z0.length→w.cell? (x.add i)=some (.int .u8 (z0.getD i 0)))∧∀n ∈ z0,(Lit.int .u8 n).wf=true) (y0:len0*1≤140737488351232) (w1:(a1=none∧len1=0∧cap1=0∧z1=[])∨∃x,a1=some x∧len1≤cap1∧cap1≤maxLen∧z1.length=cap1∧(∀i,i<z1.length→w.cell? (x.add i)=some (.int .u8 (z1.getD i 0)))∧∀n ∈ z1,(Lit.int .u8 n).wf=true) (y1:len1*1≤140737488351232) :
  Calls Try.prog 14 #[.slice a0 len0 cap0,.slice a1 len1 cap1] w fun e w'=>e=.returned (.bool true)∧Below w.heap.size w w':=by
 obtain⟨l0,rfl,hr0,hm0,hw0,hc0⟩:=ReadsInt.ofRowC w0
 obtain⟨l1,rfl,hr1,hm1,hw1,hc1⟩:=ReadsInt.ofRowC w1
 obtain⟨k,h⟩:=P l0 l1 hm0 y0 hw0 hm1 y1 hw1
 refine(laws_FnHouseLog.calls k _ _ l0 _ _ l1 true w (Kd.C_of_reads (d:=(0:Int)) (h1:=fun _=>rfl) hr0) hc0 (Kd.C_of_reads (d:=(0:Int)) (h1:=fun _=>rfl) hr1) hc1 h).mono ?_
 rintro e w' ⟨rfl,hd⟩
 exact⟨rfl,hd⟩
end Go.Proofs.Ytmbdphefnalenaa.Print
