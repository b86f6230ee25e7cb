-- Written by squeeze.py: not trusted, Lean checks it.
import Derived.Test.YtbcepmkifomifaaDoorZK
import Derived.Test.YtbcepmkifomifaaDoorZc2
import Derived.Test.YtbcepmkifomifaaDoorZd0
import Derived.Test.YtbcepmkifomifaaDoorZf1
import Derived.Test.YtbcepmkifomifaaDoorZf2
namespace Go.Proofs.YtbcepmkifomifaaDoor.Print
open Go.RowKit Go.Proofs.YtbcepmkifomifaaDoorW.PrintWords Go.Proofs.YtbcepmkifomifaaDoorW.PrintLast Go.Proofs.YtbcepmkifomifaaDoorW.PrintMore
attribute [local go_sem] max2_int min2_int max_two min_two max_three min_three max_four min_four
set_option linter.unusedVariables false
set_option linter.unusedSimpArgs false
mutual
def laws_FnRecOne.j0:Nat→List Int→List Int→Bool→Option (Bool)
 |0,_,_,_=>none
 |k+1,x0,x1,x16=>if x16=true then(some true) else((spec_DrawRecText.f k x0).bind fun bt508=>((spec_DrawRecText.f k x1).bind fun bt514=>((impl_RecText.f bt508.1 bt508.2.1 bt508.2.2).bind fun t520=>((impl_RecText.f bt514.1 bt514.2.1 bt514.2.2).bind fun t521=>((spec_RecText.f k bt508.1 bt508.2.1 bt508.2.2).bind fun t522=>(if t520.toList=t522.toList then((spec_RecText.f k bt514.1 bt514.2.1 bt514.2.2).bind fun t523=>(if t521.toList=t523.toList then(if t520.toList=([]:List UInt8) then(laws_FnRecOne.j1 k t520 t521 true bt508.1 bt508.2.1 bt508.2.2 bt514.1 bt514.2.1 bt514.2.2) else(laws_FnRecOne.j1 k t520 t521 (t521.toList == ([]:List UInt8)) bt508.1 bt508.2.1 bt508.2.2 bt514.1 bt514.2.1 bt514.2.2)) else(laws_FnRecOne.j1 k t520 t521 true bt508.1 bt508.2.1 bt508.2.2 bt514.1 bt514.2.1 bt514.2.2))) else(laws_FnRecOne.j1 k t520 t521 true bt508.1 bt508.2.1 bt508.2.2 bt514.1 bt514.2.1 bt514.2.2)))))))
def laws_FnRecOne.j1:Nat→ByteArray→ByteArray→Bool→Int→Int→List Int→Int→Int→List Int→Option (Bool)
 |0,_,_,_,_,_,_,_,_,_=>none
 |k+1,x7,x8,x42,x514000,x514001,x514002,x520000,x520001,x520002=>if x42=true then((spec_RecText.f k x514000 x514001 x514002).bind fun t524=>(if x7.toList=t524.toList then((spec_RecText.f k x520000 x520001 x520002).bind fun t525=>(some (x8.toList == t525.toList))) else(some false))) else((laws_lnRec.f k x514000 x514001 x514002 x520000 x520001 x520002).bind fun t526=>(some ((x7.toList == x8.toList) == t526)))
end
def laws_FnRecOne.f (k:Nat) (l0:List Int) (l1:List Int):Option (Bool):=if(l0.length:Int)>1048576 then(laws_FnRecOne.j0 k l0 l1 true) else(laws_FnRecOne.j0 k l0 l1 (decide ((l1.length:Int)>1048576)))
theorem laws_FnRecOne.mono_l:∀k,(∀y0 y1 y2,LeO (laws_FnRecOne.j0 k y0 y1 y2) (laws_FnRecOne.j0 (k+1) y0 y1 y2))∧(∀y0 y1 y2 y3 y4 y5 y6 y7 y8,LeO (laws_FnRecOne.j1 k y0 y1 y2 y3 y4 y5 y6 y7 y8) (laws_FnRecOne.j1 (k+1) y0 y1 y2 y3 y4 y5 y6 y7 y8))
 |0=>⟨fun _ _ _ r h=>by simp[laws_FnRecOne.j0] at h,fun _ _ _ _ _ _ _ _ _ r h=>by simp[laws_FnRecOne.j1] at h⟩
 |k+1=>by
  obtain⟨ih0,ih1⟩:=laws_FnRecOne.mono_l k;refine⟨?_,?_⟩
  ·intro y0 y1 y2;unfold laws_FnRecOne.j0
   repeat' first|(with_reducible exact ih0 _ _ _)|(with_reducible exact ih1 _ _ _ _ _ _ _ _ _)|(with_reducible exact laws_lnRec.mono _ _ _ _ _ _ _)|(with_reducible exact spec_DrawRecText.mono _ _)|(with_reducible exact spec_RecText.mono _ _ _ _)|(with_reducible exact LeO.refl _)|(with_reducible exact LeO.none _)|(with_reducible refine LeO.ite ?_ ?_)|(with_reducible refine LeO.bind ?_ (fun _=>?_))|exact ih0 _ _ _|exact ih1 _ _ _ _ _ _ _ _ _|exact laws_lnRec.mono _ _ _ _ _ _ _|exact spec_DrawRecText.mono _ _|exact spec_RecText.mono _ _ _ _|exact LeO.none _|refine LeO.ite ?_ ?_|refine LeO.bind ?_ (fun _=>?_)
  ·intro y0 y1 y2 y3 y4 y5 y6 y7 y8;unfold laws_FnRecOne.j1
   repeat' first|(with_reducible exact ih0 _ _ _)|(with_reducible exact ih1 _ _ _ _ _ _ _ _ _)|(with_reducible exact laws_lnRec.mono _ _ _ _ _ _ _)|(with_reducible exact spec_DrawRecText.mono _ _)|(with_reducible exact spec_RecText.mono _ _ _ _)|(with_reducible exact LeO.refl _)|(with_reducible exact LeO.none _)|(with_reducible refine LeO.ite ?_ ?_)|(with_reducible refine LeO.bind ?_ (fun _=>?_))|exact ih0 _ _ _|exact ih1 _ _ _ _ _ _ _ _ _|exact laws_lnRec.mono _ _ _ _ _ _ _|exact spec_DrawRecText.mono _ _|exact spec_RecText.mono _ _ _ _|exact LeO.none _|refine LeO.ite ?_ ?_|refine LeO.bind ?_ (fun _=>?_)
theorem laws_FnRecOne.mono:∀a0 a1 k,LeO (laws_FnRecOne.f k a0 a1) (laws_FnRecOne.f (k+1) a0 a1):=by
 intro a0 a1 k;obtain⟨ih0,ih1⟩:=laws_FnRecOne.mono_l k;unfold laws_FnRecOne.f
 repeat' first|(with_reducible exact ih0 _ _ _)|(with_reducible exact ih1 _ _ _ _ _ _ _ _ _)|(with_reducible exact laws_lnRec.mono _ _ _ _ _ _ _)|(with_reducible exact spec_DrawRecText.mono _ _)|(with_reducible exact spec_RecText.mono _ _ _ _)|(with_reducible exact LeO.refl _)|(with_reducible exact LeO.none _)|(with_reducible refine LeO.ite ?_ ?_)|(with_reducible refine LeO.bind ?_ (fun _=>?_))|exact ih0 _ _ _|exact ih1 _ _ _ _ _ _ _ _ _|exact laws_lnRec.mono _ _ _ _ _ _ _|exact spec_DrawRecText.mono _ _|exact spec_RecText.mono _ _ _ _|exact LeO.none _|refine LeO.ite ?_ ?_|refine LeO.bind ?_ (fun _=>?_)
set_option maxHeartbeats 8000000 in
set_option maxRecDepth 100000 in
theorem laws_FnRecOne.calls (k:Nat) (A0:Option Addr) (c0:Nat) (l0:List Int) (A1:Option Addr) (c1:Nat) (l1:List Int) (r:Bool) (w:World) (hr0:Kd.C (Kd.int .u8) w A0 l0.length l0) (hc0:l0.length≤c0) (hr1:Kd.C (Kd.int .u8) w A1 l1.length l1) (hc1:l1.length≤c1) (h:laws_FnRecOne.f k l0 l1=some r) :
  Calls Tryd.prog 9 #[.slice A0 l0.length c0,.slice A1 l1.length c1] w fun e w'=>e=.returned (.bool r)∧Below w.heap.size w w':=by
 have hu25:=Tryd.underlying25;have HR0:=qaj.mk hr0;have HC0:=qaj.mk hc0;clear hr0 hc0;have HR1:=qaj.mk hr1;have HC1:=qaj.mk hc1;clear hr1 hc1;have HB:=qaj.mk (Below.refl w.heap.size w);have H:(if(l0.length:Int)>1048576 then(laws_FnRecOne.j0 k l0 l1 true) else(laws_FnRecOne.j0 k l0 l1 (decide ((l1.length:Int)>1048576))))=some r:=h;clear h;have HC3:=qaj.mk H;clear H;go_enter Tryd.func9,Tryd.ntmps9
 go_upto_region 1 with(fail)
 go_cut [16] (fun v16 wc=>∃(kq:Nat) (x16_2:Bool),v16=.bool x16_2∧qaj (laws_FnRecOne.j0 kq l0 l1 x16_2=some r)∧qaj (kq≤k)∧qaj (Below w.heap.size w wc))
 case first=>
  have H:=HC3.out;clear HC3;by_cases c4:(l0.length:Int)>1048576
  ·rw[if_pos c4] at H;have c4b0:decide (1048576<(l0.length:Int))=true:=decide_eq_true c4;have c4b1:decide (1048576<l0.length)=true:=decide_eq_true (by omega);clear c4;(first|rw[c4b0]|(simp only[qak,qal];rw[c4b0])|skip);have H':=qaj.mk H;clear H;go_wp2
   go_meet
   case rel=>exact⟨_,(true),(za23),H',⟨za34⟩,⟨za2 HB⟩⟩
  ·rw[if_neg c4] at H;have c4b0:decide (1048576<(l0.length:Int))=false:=decide_eq_false c4;have c4b1:decide (1048576<l0.length)=false:=decide_eq_false (by omega);clear c4;(first|rw[c4b0]|(simp only[qak,qal];rw[c4b0])|skip);have H':=qaj.mk H;clear H;go_wp2
   go_meet
   case rel=>exact⟨_,(decide ((l1.length:Int)>1048576)),(za23),H',⟨za34⟩,⟨za2 HB⟩⟩
 case rest=>
  clear HC3
  try clear c1
  try clear p2
  try clear c4
  try clear c4b0
  try clear c4b1
  obtain⟨kq,x16_2,rfl,HA,HJ2,HB⟩:=hcut
  cases kq with
  |zero=>exact absurd HA.out (by simp[laws_FnRecOne.j0])
  |succ kj2=>
   have H:=HA.out;clear HA;simp only[laws_FnRecOne.j0] at H;by_cases c5:x16_2=true
   ·subst c5
    have H1:(some true)=some r:=by rw[if_pos rfl] at H;exact H
    clear H;have H:=H1;clear H1;obtain rfl:=Option.some.inj H;go_wp2;go_ret;exact⟨za10,za2 HB⟩
   ·replace c5:=Bool.eq_false_iff.mpr c5;subst c5
    have H1:((spec_DrawRecText.f kj2 l0).bind fun bt508=>((spec_DrawRecText.f kj2 l1).bind fun bt514=>((impl_RecText.f bt508.1 bt508.2.1 bt508.2.2).bind fun t520=>((impl_RecText.f bt514.1 bt514.2.1 bt514.2.2).bind fun t521=>((spec_RecText.f kj2 bt508.1 bt508.2.1 bt508.2.2).bind fun t522=>(if t520.toList=t522.toList then((spec_RecText.f kj2 bt514.1 bt514.2.1 bt514.2.2).bind fun t523=>(if t521.toList=t523.toList then(if t520.toList=([]:List UInt8) then(laws_FnRecOne.j1 kj2 t520 t521 true bt508.1 bt508.2.1 bt508.2.2 bt514.1 bt514.2.1 bt514.2.2) else(laws_FnRecOne.j1 kj2 t520 t521 (t521.toList == ([]:List UInt8)) bt508.1 bt508.2.1 bt508.2.2 bt514.1 bt514.2.1 bt514.2.2)) else(laws_FnRecOne.j1 kj2 t520 t521 true bt508.1 bt508.2.1 bt508.2.2 bt514.1 bt514.2.1 bt514.2.2))) else(laws_FnRecOne.j1 kj2 t520 t521 true bt508.1 bt508.2.1 bt508.2.2 bt514.1 bt514.2.1 bt514.2.2)))))))=some r:=by rw[if_neg (show ¬(false=true) by decide)] at H;exact H
    clear H;have H:=H1;clear H1;replace H:=Option.bind_eq_some_iff.mp H;obtain⟨⟨t508,t509,t510⟩,A60,H⟩:=H
    replace H:((spec_DrawRecText.f kj2 l1).bind fun bt514=>((impl_RecText.f t508 t509 t510).bind fun t520=>((impl_RecText.f bt514.1 bt514.2.1 bt514.2.2).bind fun t521=>((spec_RecText.f kj2 t508 t509 t510).bind fun t522=>(if t520.toList=t522.toList then((spec_RecText.f kj2 bt514.1 bt514.2.1 bt514.2.2).bind fun t523=>(if t521.toList=t523.toList then(if t520.toList=([]:List UInt8) then(laws_FnRecOne.j1 kj2 t520 t521 true t508 t509 t510 bt514.1 bt514.2.1 bt514.2.2) else(laws_FnRecOne.j1 kj2 t520 t521 (t521.toList == ([]:List UInt8)) t508 t509 t510 bt514.1 bt514.2.1 bt514.2.2)) else(laws_FnRecOne.j1 kj2 t520 t521 true t508 t509 t510 bt514.1 bt514.2.1 bt514.2.2))) else(laws_FnRecOne.j1 kj2 t520 t521 true t508 t509 t510 bt514.1 bt514.2.1 bt514.2.2))))))=some r:=H
    have A6:=qaj.mk A60;clear A60;replace H:=Option.bind_eq_some_iff.mp H;obtain⟨⟨t514,t515,t516⟩,A70,H⟩:=H;replace H:((impl_RecText.f t508 t509 t510).bind fun t520=>((impl_RecText.f t514 t515 t516).bind fun t521=>((spec_RecText.f kj2 t508 t509 t510).bind fun t522=>(if t520.toList=t522.toList then((spec_RecText.f kj2 t514 t515 t516).bind fun t523=>(if t521.toList=t523.toList then(if t520.toList=([]:List UInt8) then(laws_FnRecOne.j1 kj2 t520 t521 true t508 t509 t510 t514 t515 t516) else(laws_FnRecOne.j1 kj2 t520 t521 (t521.toList == ([]:List UInt8)) t508 t509 t510 t514 t515 t516)) else(laws_FnRecOne.j1 kj2 t520 t521 true t508 t509 t510 t514 t515 t516))) else(laws_FnRecOne.j1 kj2 t520 t521 true t508 t509 t510 t514 t515 t516)))))=some r:=H;have A7:=qaj.mk A70;clear A70;replace H:=Option.bind_eq_some_iff.mp H;obtain⟨t520,A80,H⟩:=H;replace H:((impl_RecText.f t514 t515 t516).bind fun t521=>((spec_RecText.f kj2 t508 t509 t510).bind fun t522=>(if t520.toList=t522.toList then((spec_RecText.f kj2 t514 t515 t516).bind fun t523=>(if t521.toList=t523.toList then(if t520.toList=([]:List UInt8) then(laws_FnRecOne.j1 kj2 t520 t521 true t508 t509 t510 t514 t515 t516) else(laws_FnRecOne.j1 kj2 t520 t521 (t521.toList == ([]:List UInt8)) t508 t509 t510 t514 t515 t516)) else(laws_FnRecOne.j1 kj2 t520 t521 true t508 t509 t510 t514 t515 t516))) else(laws_FnRecOne.j1 kj2 t520 t521 true t508 t509 t510 t514 t515 t516))))=some r:=H;have A8:=qaj.mk A80;clear A80;replace H:=Option.bind_eq_some_iff.mp H
    obtain⟨t521,A90,H⟩:=H;replace H:((spec_RecText.f kj2 t508 t509 t510).bind fun t522=>(if t520.toList=t522.toList then((spec_RecText.f kj2 t514 t515 t516).bind fun t523=>(if t521.toList=t523.toList then(if t520.toList=([]:List UInt8) then(laws_FnRecOne.j1 kj2 t520 t521 true t508 t509 t510 t514 t515 t516) else(laws_FnRecOne.j1 kj2 t520 t521 (t521.toList == ([]:List UInt8)) t508 t509 t510 t514 t515 t516)) else(laws_FnRecOne.j1 kj2 t520 t521 true t508 t509 t510 t514 t515 t516))) else(laws_FnRecOne.j1 kj2 t520 t521 true t508 t509 t510 t514 t515 t516)))=some r:=H;have A9:=qaj.mk A90;clear A90;have HC10:=qaj.mk H;clear H
    go_upto_region 7 with(first|((with_reducible refine qae (f:=15) rfl ?_);refine zF (some 18) Tryd.func15 #[.slice A0 l0.length c0] ?_;(with_reducible refine(spec_DrawRecText.calls kj2 _ _ l0 t508 t509 t510 _ ?side1 ?side2 A6.out).mono ?_);(case side1=>exact zR HR0 HB);(case side2=>exact HC0.out);rintro e w11 ⟨v511,rfl,ho0,hb⟩;refine⟨_,rfl,?_⟩;have HO512:=qaj.mk (Kd.V_lower (Kd.V_mono (ok':=fun k_=>True) ho0 (fun k_ hk_=>trivial)) (qam (za2 HB)));replace HB:=qaj.mk (qaa (za2 HB) hb);(try clear hb);(try clear ho0))|((with_reducible refine qai (N:=5) rfl ?_);(try(refine gate_guard (by rfl) ?_;dsimp only));refine zX (N:=5) (cs:=#[.int .i64 0,.int .i64 0,.slice none 0 0]) (t:=25) ?_;intro gb513 hg w12 hbox hb;replace HO512:=qaj.mk (Kd.V_below (Kd.V_elderB (za17 HO512) gb513 (Nat.le_of_eq hg.symm)) hb);have BK513:=qaj.mk hbox;have GW513:=zH (w:=w) hg (za2 HB);have GE513:=GW513;replace HB:=qaj.mk (qaa (za2 HB) hb);clear hb hbox hg;obtain⟨hcz13_0,hcz13_1,hcz13_2,hfz13_0,hfz13_1,hfz13_2⟩:=zC3 BK513;obtain⟨Ao14,co14,eo14⟩:=Kd.V_slice HO512.out;subst eo14)|((with_reducible refine qae (f:=15) rfl ?_);refine zF (some 20) Tryd.func15 #[.slice A1 l1.length c1] ?_;(with_reducible refine(spec_DrawRecText.calls kj2 _ _ l1 t514 t515 t516 _ ?side1 ?side2 A7.out).mono ?_);(case side1=>exact Kd.C_below HR1.out (za0 HB GE513));(case side2=>exact HC1.out);rintro e w15 ⟨v517,rfl,ho0,hb⟩;refine⟨_,rfl,?_⟩;replace HO512:=qaj.mk (Kd.V_below (by(with_reducible repeat(first|apply Kd.V_alloc|apply Kd.V_drewN|apply Kd.V_drew));exact(Kd.V_mono (Kd.V_far (p:=⟨gb513,2,none⟩) (Kd.V_far (p:=⟨gb513,1,none⟩) (Kd.V_far (p:=⟨gb513,0,none⟩) (Kd.V_mono HO512.out (fun k_ hk=>(⟨hk,hk.2⟩:_∧k_≠gb513))) (fun _ hk=>hk.2) (.int .i64 t508)) (fun _ hk=>hk.2) (.int .i64 t509)) (fun _ hk=>hk.2) (.slice Ao14 t510.length co14)) (fun _ h_=>h_.1))) hb);have HO518:=qaj.mk (Kd.V_lower (Kd.V_mono (ok':=fun k_=>k_≠gb513) ho0 (fun k_ hk_=>(Kd.freshB (g:=gb513) (o:=.cells #[.int .i64 t508,.int .i64 t509,.slice Ao14 t510.length co14] 25 (0,0)) (by(with_reducible repeat(first|refine qac ?_ _|refine qad ?_|refine qab ?_ _));refine qaf (cs:=#[.int .i64 t508,.int .i64 t509,.slice none 0 0]) ?_ 2 _ rfl;(with_reducible repeat(first|refine qac ?_ _|refine qad ?_|refine qab ?_ _));refine qaf (cs:=#[.int .i64 t508,.int .i64 0,.slice none 0 0]) ?_ 1 _ rfl;(with_reducible repeat(first|refine qac ?_ _|refine qad ?_|refine qab ?_ _));refine qaf (cs:=#[.int .i64 0,.int .i64 0,.slice none 0 0]) ?_ 0 _ rfl;(with_reducible repeat(first|refine qac ?_ _|refine qad ?_|refine qab ?_ _));exact BK513.out) k_ hk_))) (qam (za0 HB GE513)));replace BK513:=qaj.mk (qah (g:=gb513) (o:=.cells #[.int .i64 t508,.int .i64 t509,.slice Ao14 t510.length co14] 25 (0,0)) (by(with_reducible repeat(first|refine qac ?_ _|refine qad ?_|refine qab ?_ _));refine qaf (cs:=#[.int .i64 t508,.int .i64 t509,.slice none 0 0]) ?_ 2 _ rfl;(with_reducible repeat(first|refine qac ?_ _|refine qad ?_|refine qab ?_ _));refine qaf (cs:=#[.int .i64 t508,.int .i64 0,.slice none 0 0]) ?_ 1 _ rfl;(with_reducible repeat(first|refine qac ?_ _|refine qad ?_|refine qab ?_ _));refine qaf (cs:=#[.int .i64 0,.int .i64 0,.slice none 0 0]) ?_ 0 _ rfl;(with_reducible repeat(first|refine qac ?_ _|refine qad ?_|refine qab ?_ _));exact BK513.out) hb);replace HB:=qaj.mk (qaa (za0 HB GE513) hb);(try clear hb);(try clear ho0))|((with_reducible refine qai (N:=6) rfl ?_);(try(refine gate_guard (by rfl) ?_;dsimp only));refine zX (N:=6) (cs:=#[.int .i64 0,.int .i64 0,.slice none 0 0]) (t:=25) ?_;intro gb519 hg w16 hbox hb;replace HO512:=qaj.mk (Kd.V_below (Kd.V_elderB (za17 HO512) gb519 (Nat.le_of_eq hg.symm)) hb);replace HO518:=qaj.mk (Kd.V_below (Kd.V_elderB (za17 HO518) gb519 (Nat.le_of_eq hg.symm)) hb);have BK519:=qaj.mk hbox;have GW519:=zH (w:=w) hg (za0 HB GE513);have GE519:=GW519;replace HB:=qaj.mk (qaa (za0 HB GE513) hb);have NB513_519:=zL BK513 hg;have NB519_513:=zG BK513 hg;replace BK513:=zY BK513 hb;clear hb hbox hg;have hnb17:=NB519_513.out;have hnc17:=NB513_519.out;obtain⟨hcz18_0,hcz18_1,hcz18_2,hfz18_0,hfz18_1,hfz18_2⟩:=zC3 BK519;obtain⟨Ao19,co19,eo19⟩:=Kd.V_slice HO518.out;subst eo19;obtain⟨hcz20_0,hcz20_1,hcz20_2,hfz20_0,hfz20_1,hfz20_2⟩:=zC3 BK513)|((with_reducible refine qae (f:=16) rfl ?_);refine zF (some 22) Tryd.func16 #[.agg #[.int .i64 t508,.int .i64 t509,.slice Ao14 t510.length co14]] ?_;(with_reducible refine(impl_RecText.calls t508 t509 _ _ t510 t520 _ ?side1 ?side2 A8.out).mono ?_);(case side1=>refine(Kd.V_reads' (e:=3) (base:=w.heap.size) (ok:=fun k_=>((True∧k_≠gb513)∧k_≠gb519)) (n:=t510.length) (c:=co14) ?_).2.2;exact(by(with_reducible repeat(first|apply Kd.V_alloc|apply Kd.V_drewN|apply Kd.V_drew));exact(Kd.V_mono (Kd.V_far (p:=⟨gb519,2,none⟩) (Kd.V_far (p:=⟨gb519,1,none⟩) (Kd.V_far (p:=⟨gb519,0,none⟩) (Kd.V_mono HO512.out (fun k_ hk=>(⟨hk,hk.2⟩:_∧k_≠gb519))) (fun _ hk=>hk.2) (.int .i64 t514)) (fun _ hk=>hk.2) (.int .i64 t515)) (fun _ hk=>hk.2) (.slice Ao19 t516.length co19)) (fun _ h_=>h_.1))));(case side2=>exact(Kd.V_reads' HO512.out).2.1);rintro e w21 ⟨rfl,hb⟩;refine⟨_,rfl,?_⟩;replace HO512:=qaj.mk (Kd.V_below (by(with_reducible repeat(first|apply Kd.V_alloc|apply Kd.V_drewN|apply Kd.V_drew));exact(Kd.V_mono (Kd.V_far (p:=⟨gb519,2,none⟩) (Kd.V_far (p:=⟨gb519,1,none⟩) (Kd.V_far (p:=⟨gb519,0,none⟩) (Kd.V_mono HO512.out (fun k_ hk=>(⟨hk,hk.2⟩:_∧k_≠gb519))) (fun _ hk=>hk.2) (.int .i64 t514)) (fun _ hk=>hk.2) (.int .i64 t515)) (fun _ hk=>hk.2) (.slice Ao19 t516.length co19)) (fun _ h_=>h_.1))) hb);replace HO518:=qaj.mk (Kd.V_below (by(with_reducible repeat(first|apply Kd.V_alloc|apply Kd.V_drewN|apply Kd.V_drew));exact(Kd.V_mono (Kd.V_far (p:=⟨gb519,2,none⟩) (Kd.V_far (p:=⟨gb519,1,none⟩) (Kd.V_far (p:=⟨gb519,0,none⟩) (Kd.V_mono HO518.out (fun k_ hk=>(⟨hk,hk.2⟩:_∧k_≠gb519))) (fun _ hk=>hk.2) (.int .i64 t514)) (fun _ hk=>hk.2) (.int .i64 t515)) (fun _ hk=>hk.2) (.slice Ao19 t516.length co19)) (fun _ h_=>h_.1))) hb);replace BK513:=qaj.mk (qah (g:=gb513) (o:=.cells #[.int .i64 t508,.int .i64 t509,.slice Ao14 t510.length co14] 25 (0,0)) (za4 NB513_519 BK513) hb);replace BK519:=qaj.mk (qah (g:=gb519) (o:=.cells #[.int .i64 t514,.int .i64 t515,.slice Ao19 t516.length co19] 25 (0,0)) (by(with_reducible repeat(first|refine qac ?_ _|refine qad ?_|refine qab ?_ _));refine qaf (cs:=#[.int .i64 t514,.int .i64 t515,.slice none 0 0]) ?_ 2 _ rfl;(with_reducible repeat(first|refine qac ?_ _|refine qad ?_|refine qab ?_ _));refine qaf (cs:=#[.int .i64 t514,.int .i64 0,.slice none 0 0]) ?_ 1 _ rfl;(with_reducible repeat(first|refine qac ?_ _|refine qad ?_|refine qab ?_ _));refine qaf (cs:=#[.int .i64 0,.int .i64 0,.slice none 0 0]) ?_ 0 _ rfl;(with_reducible repeat(first|refine qac ?_ _|refine qad ?_|refine qab ?_ _));exact BK519.out) hb);replace HB:=qaj.mk (qaa (za1 HB GE513 GE519) hb);(try clear hb);obtain⟨hcz22_0,hcz22_1,hcz22_2,hfz22_0,hfz22_1,hfz22_2⟩:=zC3 BK519)|((with_reducible refine qae (f:=16) rfl ?_);refine zF (some 24) Tryd.func16 #[.agg #[.int .i64 t514,.int .i64 t515,.slice Ao19 t516.length co19]] ?_;(with_reducible refine(impl_RecText.calls t514 t515 _ _ t516 t521 _ ?side1 ?side2 A9.out).mono ?_);(case side1=>repeat(first|exact(Kd.V_reads' HO518.out).2.2|(with_reducible refine Kd.C_alloc ?_ _)|(with_reducible refine Kd.C_drewN ?_ _)|(with_reducible refine Kd.C_drew ?_)));(case side2=>exact(Kd.V_reads' HO518.out).2.1);rintro e w23 ⟨rfl,hb⟩;refine⟨_,rfl,?_⟩;replace HO512:=qaj.mk (Kd.V_below (za17 HO512) hb);replace HO518:=qaj.mk (Kd.V_below (za17 HO518) hb);replace BK513:=zY BK513 hb;replace BK519:=zY BK519 hb;replace HB:=qaj.mk (qaa (za1 HB GE513 GE519) hb);(try clear hb)))
    (try simp only[Act.put,List.setIfInBounds_toArray,List.set_cons_zero,List.set_cons_succ])
    go_cut [42] (fun v42 wc=>∃(kq:Nat) (x42_9:Bool),v42=.bool x42_9∧qaj (laws_FnRecOne.j1 kq t520 t521 x42_9 t508 t509 t510 t514 t515 t516=some r)∧qaj (kq≤kj2)∧qaj (Kd.V (Kd.int .i64) 3 wc w.heap.size (fun k_=>k_≠gb513∧k_≠gb519) (.slice Ao14 t510.length co14) t510)∧qaj (Kd.V (Kd.int .i64) 3 wc w.heap.size (fun k_=>k_≠gb513∧k_≠gb519) (.slice Ao19 t516.length co19) t516)∧qaj (wc.heap[gb513]?=some (.cells #[.int .i64 t508,.int .i64 t509,(.slice Ao14 t510.length co14)] 25 (0,0)))∧qaj (wc.heap[gb519]?=some (.cells #[.int .i64 t514,.int .i64 t515,(.slice Ao19 t516.length co19)] 25 (0,0)))∧qaj (Below w.heap.size w wc))
    case first=>
     have H:=HC10.out;clear HC10;replace H:=Option.bind_eq_some_iff.mp H;obtain⟨t522,A240,H⟩:=H;replace H:(if t520.toList=t522.toList then((spec_RecText.f kj2 t514 t515 t516).bind fun t523=>(if t521.toList=t523.toList then(if t520.toList=([]:List UInt8) then(laws_FnRecOne.j1 kj2 t520 t521 true t508 t509 t510 t514 t515 t516) else(laws_FnRecOne.j1 kj2 t520 t521 (t521.toList == ([]:List UInt8)) t508 t509 t510 t514 t515 t516)) else(laws_FnRecOne.j1 kj2 t520 t521 true t508 t509 t510 t514 t515 t516))) else(laws_FnRecOne.j1 kj2 t520 t521 true t508 t509 t510 t514 t515 t516))=some r:=H;have A24:=qaj.mk A240;clear A240;by_cases c25:t520.toList=t522.toList
     ·rw[if_pos c25] at H;have c25b0:(t520.toList == t522.toList)=true:=beq_iff_eq.mpr c25;have c25b1:(t520.toList != t522.toList)=false:=bne_eq_false_iff_eq.mpr c25;clear c25;(first|rw[c25b0]|(simp only[qak,qal];rw[c25b0])|skip);replace H:=Option.bind_eq_some_iff.mp H;obtain⟨t523,A260,H⟩:=H;replace H:(if t521.toList=t523.toList then(if t520.toList=([]:List UInt8) then(laws_FnRecOne.j1 kj2 t520 t521 true t508 t509 t510 t514 t515 t516) else(laws_FnRecOne.j1 kj2 t520 t521 (t521.toList == ([]:List UInt8)) t508 t509 t510 t514 t515 t516)) else(laws_FnRecOne.j1 kj2 t520 t521 true t508 t509 t510 t514 t515 t516))=some r:=H;have A26:=qaj.mk A260;clear A260;by_cases c27:t521.toList=t523.toList
      ·rw[if_pos c27] at H;have c27b0:(t521.toList == t523.toList)=true:=beq_iff_eq.mpr c27;have c27b1:(t521.toList != t523.toList)=false:=bne_eq_false_iff_eq.mpr c27;clear c27;by_cases c28:t520.toList=([]:List UInt8)
       ·rw[if_pos c28] at H;have c28b0:(t520.toList == ([]:List UInt8))=true:=beq_iff_eq.mpr c28;have c28b1:(t520.toList != ([]:List UInt8))=false:=bne_eq_false_iff_eq.mpr c28;clear c28;have H':=qaj.mk H;clear H;have hnb29:=NB513_519.out;have hnc29:=NB519_513.out;obtain⟨hcz30_0,hcz30_1,hcz30_2,hfz30_0,hfz30_1,hfz30_2⟩:=zC3 BK513
        go_wp2_with(first|((with_reducible refine qae (f:=17) rfl ?_);refine zF (some 27) Tryd.func17 #[.agg #[.int .i64 t508,.int .i64 t509,.slice Ao14 t510.length co14]] ?_;(with_reducible refine(spec_RecText.calls kj2 t508 t509 _ _ t510 t522 _ ?side1 ?side2 A24.out).mono ?_);(case side1=>repeat(first|exact(Kd.V_reads' HO512.out).2.2|(with_reducible refine Kd.C_alloc ?_ _)|(with_reducible refine Kd.C_drewN ?_ _)|(with_reducible refine Kd.C_drew ?_)));(case side2=>exact(Kd.V_reads' HO512.out).2.1);rintro e w31 ⟨rfl,hb⟩;refine⟨_,rfl,?_⟩;replace HO512:=qaj.mk (Kd.V_below (za17 HO512) hb);replace HO518:=qaj.mk (Kd.V_below (za17 HO518) hb);replace BK513:=zY BK513 hb;replace BK519:=zY BK519 hb;replace HB:=qaj.mk (qaa (za1 HB GE513 GE519) hb);(try clear hb);obtain⟨hcz32_0,hcz32_1,hcz32_2,hfz32_0,hfz32_1,hfz32_2⟩:=zC3 BK519)|(go_at_call 17;(with_reducible refine(spec_RecText.calls kj2 t514 t515 _ _ t516 t523 _ ?side1 ?side2 A26.out).mono ?_);(case side1=>repeat(first|exact(Kd.V_reads' HO518.out).2.2|(with_reducible refine Kd.C_alloc ?_ _)|(with_reducible refine Kd.C_drewN ?_ _)|(with_reducible refine Kd.C_drew ?_)));(case side2=>exact(Kd.V_reads' HO518.out).2.1);rintro e w33 ⟨rfl,hb⟩;replace HO512:=qaj.mk (Kd.V_below (za17 HO512) hb);replace HO518:=qaj.mk (Kd.V_below (za17 HO518) hb);replace BK513:=zY BK513 hb;replace BK519:=zY BK519 hb;replace HB:=qaj.mk (qaa (za1 HB GE513 GE519) hb);(try clear hb)))
        go_meet
        case rel=>exact⟨_,(true),(za23),H',⟨za38 HJ2⟩,⟨by(with_reducible repeat(first|apply Kd.V_alloc|apply Kd.V_drewN|apply Kd.V_drew));exact Kd.V_mono HO512.out (fun _ hk=>⟨hk.1.2,hk.2⟩)⟩,⟨za17 HO518⟩,⟨za18 BK513⟩,⟨za18 BK519⟩,⟨za1 HB GE513 GE519⟩⟩
       ·rw[if_neg c28] at H;have c28b0:(t520.toList == ([]:List UInt8))=false:=beq_eq_false_iff_ne.mpr c28;have c28b1:(t520.toList != ([]:List UInt8))=true:=bne_iff_ne.mpr c28;have H':=qaj.mk H;clear H;have hnb34:=NB513_519.out;have hnc34:=NB519_513.out;obtain⟨hcz35_0,hcz35_1,hcz35_2,hfz35_0,hfz35_1,hfz35_2⟩:=zC3 BK513
        go_wp2_with(first|((with_reducible refine qae (f:=17) rfl ?_);refine zF (some 27) Tryd.func17 #[.agg #[.int .i64 t508,.int .i64 t509,.slice Ao14 t510.length co14]] ?_;(with_reducible refine(spec_RecText.calls kj2 t508 t509 _ _ t510 t522 _ ?side1 ?side2 A24.out).mono ?_);(case side1=>repeat(first|exact(Kd.V_reads' HO512.out).2.2|(with_reducible refine Kd.C_alloc ?_ _)|(with_reducible refine Kd.C_drewN ?_ _)|(with_reducible refine Kd.C_drew ?_)));(case side2=>exact(Kd.V_reads' HO512.out).2.1);rintro e w36 ⟨rfl,hb⟩;refine⟨_,rfl,?_⟩;replace HO512:=qaj.mk (Kd.V_below (za17 HO512) hb);replace HO518:=qaj.mk (Kd.V_below (za17 HO518) hb);replace BK513:=zY BK513 hb;replace BK519:=zY BK519 hb;replace HB:=qaj.mk (qaa (za1 HB GE513 GE519) hb);(try clear hb);obtain⟨hcz37_0,hcz37_1,hcz37_2,hfz37_0,hfz37_1,hfz37_2⟩:=zC3 BK519)|(go_at_call 17;(with_reducible refine(spec_RecText.calls kj2 t514 t515 _ _ t516 t523 _ ?side1 ?side2 A26.out).mono ?_);(case side1=>repeat(first|exact(Kd.V_reads' HO518.out).2.2|(with_reducible refine Kd.C_alloc ?_ _)|(with_reducible refine Kd.C_drewN ?_ _)|(with_reducible refine Kd.C_drew ?_)));(case side2=>exact(Kd.V_reads' HO518.out).2.1);rintro e w38 ⟨rfl,hb⟩;replace HO512:=qaj.mk (Kd.V_below (za17 HO512) hb);replace HO518:=qaj.mk (Kd.V_below (za17 HO518) hb);replace BK513:=zY BK513 hb;replace BK519:=zY BK519 hb;replace HB:=qaj.mk (qaa (za1 HB GE513 GE519) hb);(try clear hb)))
        go_meet
        case rel=>exact⟨_,((t521.toList == ([]:List UInt8))),(za23),H',⟨za38 HJ2⟩,⟨by(with_reducible repeat(first|apply Kd.V_alloc|apply Kd.V_drewN|apply Kd.V_drew));exact Kd.V_mono HO512.out (fun _ hk=>⟨hk.1.2,hk.2⟩)⟩,⟨za17 HO518⟩,⟨za18 BK513⟩,⟨za18 BK519⟩,⟨za1 HB GE513 GE519⟩⟩
      ·rw[if_neg c27] at H;have c27b0:(t521.toList == t523.toList)=false:=beq_eq_false_iff_ne.mpr c27;have c27b1:(t521.toList != t523.toList)=true:=bne_iff_ne.mpr c27;have H':=qaj.mk H;clear H;have hnb39:=NB513_519.out;have hnc39:=NB519_513.out;obtain⟨hcz40_0,hcz40_1,hcz40_2,hfz40_0,hfz40_1,hfz40_2⟩:=zC3 BK513
       go_wp2_with(first|((with_reducible refine qae (f:=17) rfl ?_);refine zF (some 27) Tryd.func17 #[.agg #[.int .i64 t508,.int .i64 t509,.slice Ao14 t510.length co14]] ?_;(with_reducible refine(spec_RecText.calls kj2 t508 t509 _ _ t510 t522 _ ?side1 ?side2 A24.out).mono ?_);(case side1=>repeat(first|exact(Kd.V_reads' HO512.out).2.2|(with_reducible refine Kd.C_alloc ?_ _)|(with_reducible refine Kd.C_drewN ?_ _)|(with_reducible refine Kd.C_drew ?_)));(case side2=>exact(Kd.V_reads' HO512.out).2.1);rintro e w41 ⟨rfl,hb⟩;refine⟨_,rfl,?_⟩;replace HO512:=qaj.mk (Kd.V_below (za17 HO512) hb);replace HO518:=qaj.mk (Kd.V_below (za17 HO518) hb);replace BK513:=zY BK513 hb;replace BK519:=zY BK519 hb;replace HB:=qaj.mk (qaa (za1 HB GE513 GE519) hb);(try clear hb);obtain⟨hcz42_0,hcz42_1,hcz42_2,hfz42_0,hfz42_1,hfz42_2⟩:=zC3 BK519)|(go_at_call 17;(with_reducible refine(spec_RecText.calls kj2 t514 t515 _ _ t516 t523 _ ?side1 ?side2 A26.out).mono ?_);(case side1=>repeat(first|exact(Kd.V_reads' HO518.out).2.2|(with_reducible refine Kd.C_alloc ?_ _)|(with_reducible refine Kd.C_drewN ?_ _)|(with_reducible refine Kd.C_drew ?_)));(case side2=>exact(Kd.V_reads' HO518.out).2.1);rintro e w43 ⟨rfl,hb⟩;replace HO512:=qaj.mk (Kd.V_below (za17 HO512) hb);replace HO518:=qaj.mk (Kd.V_below (za17 HO518) hb);replace BK513:=zY BK513 hb;replace BK519:=zY BK519 hb;replace HB:=qaj.mk (qaa (za1 HB GE513 GE519) hb);(try clear hb)))
       go_meet
       case rel=>exact⟨_,(true),(za23),H',⟨za38 HJ2⟩,⟨by(with_reducible repeat(first|apply Kd.V_alloc|apply Kd.V_drewN|apply Kd.V_drew));exact Kd.V_mono HO512.out (fun _ hk=>⟨hk.1.2,hk.2⟩)⟩,⟨za17 HO518⟩,⟨za18 BK513⟩,⟨za18 BK519⟩,⟨za1 HB GE513 GE519⟩⟩
     ·rw[if_neg c25] at H;have c25b0:(t520.toList == t522.toList)=false:=beq_eq_false_iff_ne.mpr c25;have c25b1:(t520.toList != t522.toList)=true:=bne_iff_ne.mpr c25;(first|rw[c25b0]|(simp only[qak,qal];rw[c25b0])|skip);have H':=qaj.mk H;clear H;have hnb44:=NB513_519.out;have hnc44:=NB519_513.out;obtain⟨hcz45_0,hcz45_1,hcz45_2,hfz45_0,hfz45_1,hfz45_2⟩:=zC3 BK513
      go_wp2_with(first|((with_reducible refine qae (f:=17) rfl ?_);refine zF (some 27) Tryd.func17 #[.agg #[.int .i64 t508,.int .i64 t509,.slice Ao14 t510.length co14]] ?_;(with_reducible refine(spec_RecText.calls kj2 t508 t509 _ _ t510 t522 _ ?side1 ?side2 A24.out).mono ?_);(case side1=>repeat(first|exact(Kd.V_reads' HO512.out).2.2|(with_reducible refine Kd.C_alloc ?_ _)|(with_reducible refine Kd.C_drewN ?_ _)|(with_reducible refine Kd.C_drew ?_)));(case side2=>exact(Kd.V_reads' HO512.out).2.1);rintro e w46 ⟨rfl,hb⟩;refine⟨_,rfl,?_⟩;replace HO512:=qaj.mk (Kd.V_below (za17 HO512) hb);replace HO518:=qaj.mk (Kd.V_below (za17 HO518) hb);replace BK513:=zY BK513 hb;replace BK519:=zY BK519 hb;replace HB:=qaj.mk (qaa (za1 HB GE513 GE519) hb);(try clear hb)))
      go_meet
      case rel=>exact⟨_,(true),(za23),H',⟨za38 HJ2⟩,⟨by(with_reducible repeat(first|apply Kd.V_alloc|apply Kd.V_drewN|apply Kd.V_drew));exact Kd.V_mono HO512.out (fun _ hk=>⟨hk.1.2,hk.2⟩)⟩,⟨za17 HO518⟩,⟨za18 BK513⟩,⟨za18 BK519⟩,⟨za1 HB GE513 GE519⟩⟩
    case rest=>
     clear HC10
     try clear c1
     try clear c2
     try clear p2
     try clear c3
     try clear c4
     try clear c4b0
     try clear c4b1
     try clear c5
     try clear c9
     try clear c15
     try clear c16
     try clear c17
     try clear c25
     try clear c25b0
     try clear c25b1
     try clear c27
     try clear c27b0
     try clear c27b1
     try clear c28
     try clear c28b0
     try clear c28b1
     try clear c29
     try clear c34
     try clear c39
     try clear c44
     try clear hcz13_0
     try clear hcz13_1
     try clear hcz13_2
     try clear hcz18_0
     try clear hcz18_1
     try clear hcz18_2
     try clear hcz20_0
     try clear hcz20_1
     try clear hcz20_2
     try clear hcz22_0
     try clear hcz22_1
     try clear hcz22_2
     try clear hcz30_0
     try clear hcz30_1
     try clear hcz30_2
     try clear hcz32_0
     try clear hcz32_1
     try clear hcz32_2
     try clear hcz35_0
     try clear hcz35_1
     try clear hcz35_2
     try clear hcz37_0
     try clear hcz37_1
     try clear hcz37_2
     try clear hcz40_0
     try clear hcz40_1
     try clear hcz40_2
     try clear hcz42_0
     try clear hcz42_1
     try clear hcz42_2
     try clear hcz45_0
     try clear hcz45_1
     try clear hcz45_2
     try clear hfz13_0
     try clear hfz13_1
     try clear hfz13_2
     try clear hfz18_0
     try clear hfz18_1
     try clear hfz18_2
     try clear hfz20_0
     try clear hfz20_1
     try clear hfz20_2
     try clear hfz22_0
     try clear hfz22_1
     try clear hfz22_2
     try clear hfz30_0
     try clear hfz30_1
     try clear hfz30_2
     try clear hfz32_0
     try clear hfz32_1
     try clear hfz32_2
     try clear hfz35_0
     try clear hfz35_1
     try clear hfz35_2
     try clear hfz37_0
     try clear hfz37_1
     try clear hfz37_2
     try clear hfz40_0
     try clear hfz40_1
     try clear hfz40_2
     try clear hfz42_0
     try clear hfz42_1
     try clear hfz42_2
     try clear hfz45_0
     try clear hfz45_1
     try clear hfz45_2
     try clear p2
     obtain⟨kq,x42_9,rfl,HA,HJ9,HO_514002,HO_520002,BK513,BK519,HB⟩:=hcut
     cases kq with
     |zero=>exact absurd HA.out (by simp[laws_FnRecOne.j1])
     |succ kj9=>
      have H:=HA.out;clear HA;simp only[laws_FnRecOne.j1] at H;by_cases c47:x42_9=true
      ·subst c47
       have H1:((spec_RecText.f kj9 t508 t509 t510).bind fun t524=>(if t520.toList=t524.toList then((spec_RecText.f kj9 t514 t515 t516).bind fun t525=>(some (t521.toList == t525.toList))) else(some false)))=some r:=by rw[if_pos rfl] at H;exact H
       clear H;have H:=H1;clear H1;replace H:=Option.bind_eq_some_iff.mp H;obtain⟨t524,A480,H⟩:=H;replace H:(if t520.toList=t524.toList then((spec_RecText.f kj9 t514 t515 t516).bind fun t525=>(some (t521.toList == t525.toList))) else(some false))=some r:=H;have A48:=qaj.mk A480;clear A480;by_cases c49:t520.toList=t524.toList
       ·rw[if_pos c49] at H;have c49b0:(t520.toList == t524.toList)=true:=beq_iff_eq.mpr c49;have c49b1:(t520.toList != t524.toList)=false:=bne_eq_false_iff_eq.mpr c49;clear c49;replace H:=Option.bind_eq_some_iff.mp H;obtain⟨t525,A500,H⟩:=H;replace H:(some (t521.toList == t525.toList))=some r:=H;have A50:=qaj.mk A500;clear A500;obtain rfl:=Option.some.inj H;have hnb51:=NB513_519.out;have hnc51:=NB519_513.out;obtain⟨hcz52_0,hcz52_1,hcz52_2,hfz52_0,hfz52_1,hfz52_2⟩:=zC3 BK513
        go_wp2_with(first|((with_reducible refine qae (f:=17) rfl ?_);refine zF (some 45) Tryd.func17 #[.agg #[.int .i64 t508,.int .i64 t509,.slice Ao14 t510.length co14]] ?_;(with_reducible refine(spec_RecText.calls kj9 t508 t509 _ _ t510 t524 _ ?side1 ?side2 A48.out).mono ?_);(case side1=>repeat(first|exact(Kd.V_reads' HO_514002.out).2.2|(with_reducible refine Kd.C_alloc ?_ _)|(with_reducible refine Kd.C_drewN ?_ _)|(with_reducible refine Kd.C_drew ?_)));(case side2=>exact(Kd.V_reads' HO_514002.out).2.1);rintro e w53 ⟨rfl,hb⟩;refine⟨_,rfl,?_⟩;replace HO_514002:=qaj.mk (Kd.V_below (za17 HO_514002) hb);replace HO_520002:=qaj.mk (Kd.V_below (za17 HO_520002) hb);replace BK513:=zY BK513 hb;replace BK519:=zY BK519 hb;replace HB:=qaj.mk (qaa (za1 HB GE513 GE519) hb);(try clear hb);obtain⟨hcz54_0,hcz54_1,hcz54_2,hfz54_0,hfz54_1,hfz54_2⟩:=zC3 BK519)|(go_at_call 17;(with_reducible refine(spec_RecText.calls kj9 t514 t515 _ _ t516 t525 _ ?side1 ?side2 A50.out).mono ?_);(case side1=>repeat(first|exact(Kd.V_reads' HO_520002.out).2.2|(with_reducible refine Kd.C_alloc ?_ _)|(with_reducible refine Kd.C_drewN ?_ _)|(with_reducible refine Kd.C_drew ?_)));(case side2=>exact(Kd.V_reads' HO_520002.out).2.1);rintro e w55 ⟨rfl,hb⟩;replace HO_514002:=qaj.mk (Kd.V_below (za17 HO_514002) hb);replace HO_520002:=qaj.mk (Kd.V_below (za17 HO_520002) hb);replace BK513:=zY BK513 hb;replace BK519:=zY BK519 hb;replace HB:=qaj.mk (qaa (za1 HB GE513 GE519) hb);(try clear hb)))
        go_ret;exact⟨za10,za1 HB GE513 GE519⟩
       ·rw[if_neg c49] at H;have c49b0:(t520.toList == t524.toList)=false:=beq_eq_false_iff_ne.mpr c49;have c49b1:(t520.toList != t524.toList)=true:=bne_iff_ne.mpr c49;obtain rfl:=Option.some.inj H;have hnb56:=NB513_519.out;have hnc56:=NB519_513.out;obtain⟨hcz57_0,hcz57_1,hcz57_2,hfz57_0,hfz57_1,hfz57_2⟩:=zC3 BK513
        go_wp2_with(first|((with_reducible refine qae (f:=17) rfl ?_);refine zF (some 45) Tryd.func17 #[.agg #[.int .i64 t508,.int .i64 t509,.slice Ao14 t510.length co14]] ?_;(with_reducible refine(spec_RecText.calls kj9 t508 t509 _ _ t510 t524 _ ?side1 ?side2 A48.out).mono ?_);(case side1=>repeat(first|exact(Kd.V_reads' HO_514002.out).2.2|(with_reducible refine Kd.C_alloc ?_ _)|(with_reducible refine Kd.C_drewN ?_ _)|(with_reducible refine Kd.C_drew ?_)));(case side2=>exact(Kd.V_reads' HO_514002.out).2.1);rintro e w58 ⟨rfl,hb⟩;refine⟨_,rfl,?_⟩;replace HO_514002:=qaj.mk (Kd.V_below (za17 HO_514002) hb);replace HO_520002:=qaj.mk (Kd.V_below (za17 HO_520002) hb);replace BK513:=zY BK513 hb;replace BK519:=zY BK519 hb;replace HB:=qaj.mk (qaa (za1 HB GE513 GE519) hb);(try clear hb)))
        go_ret;exact⟨za10,za1 HB GE513 GE519⟩
      ·replace c47:=Bool.eq_false_iff.mpr c47;subst c47
       have H1:((laws_lnRec.f kj9 t508 t509 t510 t514 t515 t516).bind fun t526=>(some ((t520.toList == t521.toList) == t526)))=some r:=by rw[if_neg (show ¬(false=true) by decide)] at H;exact H
       clear H;have H:=H1;clear H1;replace H:=Option.bind_eq_some_iff.mp H;obtain⟨t526,A590,H⟩:=H;replace H:(some ((t520.toList == t521.toList) == t526))=some r:=H;have A59:=qaj.mk A590;clear A590;obtain rfl:=Option.some.inj H;have hnb60:=NB513_519.out;have hnc60:=NB519_513.out;obtain⟨hcz61_0,hcz61_1,hcz61_2,hfz61_0,hfz61_1,hfz61_2⟩:=zC3 BK513;obtain⟨hcz62_0,hcz62_1,hcz62_2,hfz62_0,hfz62_1,hfz62_2⟩:=zC3 BK519
       go_wp2_with(first|((with_reducible refine qae (f:=19) rfl ?_);refine zF (some 58) Tryd.func19 #[.agg #[.int .i64 t508,.int .i64 t509,.slice Ao14 t510.length co14],.agg #[.int .i64 t514,.int .i64 t515,.slice Ao19 t516.length co19]] ?_;(with_reducible refine(laws_lnRec.calls kj9 t508 t509 _ _ t510 t514 t515 _ _ t516 t526 _ ?side1 ?side2 ?side3 ?side4 A59.out).mono ?_);(case side1=>repeat(first|exact(Kd.V_reads' HO_514002.out).2.2|(with_reducible refine Kd.C_alloc ?_ _)|(with_reducible refine Kd.C_drewN ?_ _)|(with_reducible refine Kd.C_drew ?_)));(case side2=>exact(Kd.V_reads' HO_514002.out).2.1);(case side3=>repeat(first|exact(Kd.V_reads' HO_520002.out).2.2|(with_reducible refine Kd.C_alloc ?_ _)|(with_reducible refine Kd.C_drewN ?_ _)|(with_reducible refine Kd.C_drew ?_)));(case side4=>exact(Kd.V_reads' HO_520002.out).2.1);rintro e w63 ⟨rfl,hb⟩;refine⟨_,rfl,?_⟩;replace HO_514002:=qaj.mk (Kd.V_below (za17 HO_514002) hb);replace HO_520002:=qaj.mk (Kd.V_below (za17 HO_520002) hb);replace BK513:=zY BK513 hb;replace BK519:=zY BK519 hb;replace HB:=qaj.mk (qaa (za1 HB GE513 GE519) hb);(try clear hb)))
       go_ret;exact⟨za10,za1 HB GE513 GE519⟩
def laws_FnRecOne.Pure:Prop:=∀(l0:List Int) (l1:List Int),l0.length≤maxLen→l0.length*1≤140737488351232→(∀x ∈ l0,(Lit.int .u8 x).wf=true)→l1.length≤maxLen→l1.length*1≤140737488351232→(∀x ∈ l1,(Lit.int .u8 x).wf=true)→∃k,laws_FnRecOne.f k l0 l1=some true
theorem laws_FnRecOne.walk (P:laws_FnRecOne.Pure) (a0:Option Addr) (len0 cap0:Nat) (z0:List Int) (a1:Option Addr) (len1 cap1:Nat) (z1:List Int) (w:World) (w0:(a0=none∧len0=0∧cap0=0∧z0=[])∨∃x,a0=some x∧len0≤cap0∧cap0≤maxLen∧z0.length=cap0∧(∀i,i<z0.length→w.cell? (x.add i)=some (.int .u8 (z0.getD i 0)))∧∀n ∈ z0,(Lit.int .u8 n).wf=true) (y0:len0*1≤140737488351232) (w1:(a1=none∧len1=0∧cap1=0∧z1=[])∨∃x,a1=some x∧len1≤cap1∧cap1≤maxLen∧z1.length=cap1∧(∀i,i<z1.length→w.cell? (x.add i)=some (.int .u8 (z1.getD i 0)))∧∀n ∈ z1,(Lit.int .u8 n).wf=true) (y1:len1*1≤140737488351232) :
  Calls Tryd.prog 9 #[.slice a0 len0 cap0,.slice a1 len1 cap1] w fun e w'=>e=.returned (.bool true)∧Below w.heap.size w w':=by
 obtain⟨l0,rfl,hr0,hm0,hw0,hc0⟩:=ReadsInt.ofRowC w0;obtain⟨l1,rfl,hr1,hm1,hw1,hc1⟩:=ReadsInt.ofRowC w1;obtain⟨k,h⟩:=P l0 l1 hm0 y0 hw0 hm1 y1 hw1;refine(laws_FnRecOne.calls k _ _ l0 _ _ l1 true w (Kd.C_of_reads (d:=(0:Int)) (h1:=fun _=>rfl) hr0) hc0 (Kd.C_of_reads (d:=(0:Int)) (h1:=fun _=>rfl) hr1) hc1 h).mono ?_;rintro e w' ⟨rfl,hd⟩;exact⟨rfl,hd⟩
end Go.Proofs.YtbcepmkifomifaaDoor.Print
